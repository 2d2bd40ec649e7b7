/- The store, part 9. -/
import Derived.Test.YtbiififbfefkjaaGreatDoorMAf
set_option linter.unusedSimpArgs false
set_option linter.unusedVariables false
set_option maxRecDepth 100000
set_option maxHeartbeats 16000000
namespace Go.Proofs.YtbiififbfefkjaaGreatDoor
open Go.RowKit Go.Shelf
variable{w W W' V w0 U:World}{Bw cb ln lc n₀ B kb D N k eE e sz c d at_ j h R o g:Nat}{l:qI}{ps:List Piece}{tu told del:Bool}{UL:Int}{n m:Nd}{last xs all bs:List Nat}{p:Prop}{full a b s A items:List KV}{pre ys:List aH}{t:TypeId}{v v0 v1 v2 v3:Value}
section
attribute [-go_sem] Builtin.append_
def ij(at_ d n:Nat):Value:=.agg (qt at_ d n)
theorem WC(at_ d n:Nat)(h:at_≠0)(W:World):(binOp BinOp.eql 35 (ij at_ d n) (.agg vp)).run Tryz.prog W= .ok (.bool false) W:=by
 obtain⟨f0,f1,f2,hf,h0⟩:∃f0 f1 f2:Field,(Tryz.prog.fieldsOf 35).toList=[f0,f1,f2]/\(f0.type=3/\f0.offset=0/\(f0.name== "_")=false):=⟨_,_,_,rfl,⟨rfl,rfl,rfl⟩⟩;have e:((at_:Int)==0)=false:=dU;unfold ij;rw[run_eql_struct];rw[Jf (r:=false) bU hf bU ?_]
 ·rfl
 ·rw[rn (a:=.int .i64 (at_:Int)) (b:=.int .i64 0) (r:=false) h0.2.2 um um (by rw[h0.1,<-e];exact run_equalIn_int W 9998 _ .i64 .i64 _ _ bU)];rfl
theorem S9{b:az}{la:az}(hw:w.heap[Bw]? =some (.cells (dL l b ps.length cb tu la ln lc told UL) 180))(hF:aQ w b cb ps):
 Calls Tryz.prog 127 #[.pointer (zp Bw),ij 0 0 0] w λ e w'=>e= .returned (.tuple (U3 (.agg jR)))/\Below w w w':=by
 have LF:=ag λ (w2:World) (hb:Below w w w2)=>mA (hF.below hb);unfold bN at LF;obtain⟨w1,bY⟩:=bL ((w.alloc (.cells vp 35)).alloc (.cells jR 147));have fW:Hid (Below w w w1):=ag (by rw[bY];go_grown);have HF:Hid (∀w2,Below w1 w1 w2->(w2.cell? (za Bw 3)=some (.slice none 0 0)/\w2.cell? (za Bw 4)=some (.slice b ps.length cb)/\w2.cell? (za Bw 5)=some (.int .i64 (-1))/\w2.cell? (za Bw 6)=some (.int .i64 (-1))/\w2.cell? (za Bw 7)=some (.bool false))/\
  (w2.cell? (za w 0)=some (.int .i64 0)/\w2.cell? (za w 1)=some (.int .i64 0)/\w2.cell? (za w 2)=some (.int .i64 0)/\w2.cell? (za w 3)=some (.int .i64 0)/\w2.cell? (za w 4)=some (.int .i64 0)/\w2.cell? (za w 5)=some (.int .u64 0)/\w2.cell? (za w 6)=some (.int .i64 0)/\w2.cell? (za w 7)=some (.int .i64 0))/\
  w2.heap[w.heap.size+1]? =some (.cells jR 147)):=ag λ w2 hb=>by
  exact rr
 have heq:∀W:World,(binOp BinOp.eql 35 (.agg vp) (.agg vp)).run Tryz.prog W= .ok (.bool true) W:= λ W=>bU;unfold ij;clear hw hF;simp only[iY];have HBa:=ag (ah w1 w1);obtain⟨⟨f3,f4,f5,f6,f7⟩,⟨x0,x1,x2,x3,x4,x5,x6,x7⟩, -⟩:=HF.O _ HBa.O;subst bY;go_enter Tryz.func127,Tryz.ntmps127
 go_wp2_with first
  |((with_reducible refine(LF.O _ fW.O).mono ?_);rintro e w2 ⟨rfl,bG⟩;have eJ:=ag bG;clear f3 f4 f5 f6 f7 x0 x1 x2 x3 x4 x5 x6 x7;obtain⟨⟨f3,f4,f5,f6,f7⟩,⟨x0,x1,x2,x3,x4,x5,x6,x7⟩, -⟩:=HF.O _ eJ.O;have xr:=(HF.O _ bG).2.2;obtain⟨y0,y1,y2⟩:=m8 xr;have yf:=ax xr;have HXR:=ag xr;clear xr bG)
  |fail
 refine bodyPost_ret (v:=.tuple (U3 (.agg jR))) ?_ bp ⟨rfl,(fW.O.T (eJ.O.mono fW.O.size)).T (mZ (bk _))⟩;obtain⟨s0,s1,s2⟩:=m8 (FE (v0:=.bool false) (v1:=.slice none 0 0) (v2:=.slice none 0 0) HXR.O);rw[results_cell_tmp rfl];go_simp
theorem WD{b:az}{la:az}(hw:w.heap[Bw]? =some (.cells (dL l b ps.length cb tu la ln lc told UL) 180))(hF:aQ w b cb ps)(hm:Marks (aw ps))(at_ d:Nat)(h1:1<=at_)(h8:d<=8)(hd:n.is=decide (d=0))(hr:iy (aw ps) at_ n.enc)(ho:n.Ok):
 Calls Tryz.prog 127 #[.pointer (zp Bw),ij at_ d n.red] w λ e w'=>∃(m:Nd) (a:az) (k:Nat),m.wK n/\e= .returned (.tuple #[m.v a k,.bool true])/\m.R w' w a k/\Below w w w':=by
 have LF:=ag λ (w2:World) (hb:Below w w w2)=>mA (hF.below hb);unfold bN at LF;obtain⟨w1,bY⟩:=bL ((w.alloc (.cells (qt at_ d n.red) 35)).alloc (.cells jR 147));have fW:Hid (Below w w w1):=ag (by rw[bY];go_grown);have HF:Hid (∀w2,Below w1 w1 w2->(w2.cell? (za Bw 3)=some (.slice none 0 0)/\w2.cell? (za Bw 4)=some (.slice b ps.length cb)/\w2.cell? (za Bw 5)=some (.int .i64 (-1))/\w2.cell? (za Bw 6)=some (.int .i64 (-1))/\w2.cell? (za Bw 7)=some (.bool false))/\
  (w2.cell? (za w 0)=some (.int .i64 (at_:Int))/\w2.cell? (za w 1)=some (.int .i64 (d:Int))/\w2.cell? (za w 2)=some (.int .i64 (n.red:Int))/\w2.cell? (za w 3)=some (.int .i64 0)/\w2.cell? (za w 4)=some (.int .i64 0)/\w2.cell? (za w 5)=some (.int .u64 0)/\w2.cell? (za w 6)=some (.int .i64 0)/\w2.cell? (za w 7)=some (.int .i64 0))/\
  w2.heap[w.heap.size+1]? =some (.cells jR 147)):=ag λ w2 hb=>by
  exact rr
 have HLD:=ag λ (w2:World) (hb:Below w w w2)=>KF (hF.below hb) hm at_ d hd hr ho;have Zq:=ag λ (w2:World) (m:Nd) (a:az) (k n₀:Nat) (hs:m.wK n) (h:m.R w2 n₀ a k)=>Ws h (hs.ok ho);have adr:=ag λ (m:Nd) (hs:m.wK n)=>hs.red;unfold bN at HLD;have heq:=WC at_ d n.red an;have h1e:((at_:Int)==0)=false:=dU;have h8e:decide ((8:Int)<(d:Int))=false:=dU;unfold ij at heq⊢;clear hw hF hr ho hd h1 h8 hm;have HBa:=ag (ah w1 w1);obtain⟨⟨f3,f4,f5,f6,f7⟩,⟨x0,x1,x2,x3,x4,x5,x6,x7⟩, -⟩:=HF.O _ HBa.O;subst bY;go_enter Tryz.func127,Tryz.ntmps127
 go_wp2_with first
  |((with_reducible refine(LF.O _ fW.O).mono ?_);rintro e w2 ⟨rfl,bG⟩;have eJ:=ag bG;clear f3 f4 f5 f6 f7 x0 x1 x2 x3 x4 x5 x6 x7;obtain⟨⟨f3,f4,f5,f6,f7⟩,⟨x0,x1,x2,x3,x4,x5,x6,x7⟩, -⟩:=HF.O _ eJ.O)
  |fail
 refine bP 15 ?_;refine tP [0,1,2,3,4,5,6,7] ?_
 iterate 8 refine tO ?_
 refine au 7 rfl ?_;refine G6 8 12 [0,1,2,3,4,5,6,7] [] (λ K hK=>?_) λ K hK=>?_;go_simp;(with_reducible refine(HLD.O _ (fW.O.T (eJ.O.mono fW.O.size)).drew).mono ?_);rintro e w3 ⟨m,a,k,gl,rfl,wE,cu⟩;have ek:=ag (eJ.O.drew.T (cu.mono eJ.O.size));have qb:=ag (wE.zT (eE:=w.heap.size) (fW.O.T (eJ.O.mono fW.O.size)).size);have S4:=ag cu;have Cw:=ag gl;unfold Nd.v;clear wE cu gl;clear f3 f4 f5 f6 f7 x0 x1 x2 x3 x4 x5 x6 x7;obtain⟨⟨f3,f4,f5,f6,f7⟩,⟨x0,x1,x2,x3,x4,x5,x6,x7⟩, -⟩:=HF.O _ ek.O;refine nP hK ?_;clear hK K;refine tP [9,10,11] ?_
 iterate 3 refine tO ?_
 refine au 3 rfl ?_;refine sP 12 [0,1,2,3,4,5,6,7] λ K hK=>?_;go_simp;have Nc:=ag (ek.O.alloc ek.O.size (.cells jR 147));clear f3 f4 f5 f6 f7 x0 x1 x2 x3 x4 x5 x6 x7;obtain⟨⟨f3,f4,f5,f6,f7⟩,⟨x0,x1,x2,x3,x4,x5,x6,x7⟩, -⟩:=HF.O _ Nc.O;refine nP hK ?_;clear hK K;refine sP 13 [0,1,2,3,4,5,6,7,8,9,10,12] λ K hK=>?_;go_simp;refine nP hK ?_;clear hK K;refine tP [14] ?_;refine tO ?_;refine au 0 rfl ?_;refine dP ?_;go_simp;obtain⟨W,hW⟩:=bL (w3.alloc (.cells (oS m.is (m.a1 a) m.n1 (m.k1 k) (m.a2 a) m.n2 (m.k2 k)) 147));obtain⟨A,hA⟩:=bL w3.heap.size;have HA:Hid (W.heap[A]? =some (.cells (oS m.is (m.a1 a) m.n1 (m.k1 k) (m.a2 a) m.n2 (m.k2 k)) 147)):=ag zu;have r7:Hid (Below _ _ W):=ag zv;have S7:Hid (m.R W w a k):=ag EM;rw[<-hW,<-hA];clear Nc hW hA qb S4 ek;rotate_left;go_simp;have uG:=ag (eJ.O.alloc eJ.O.size (.cells jR 147));clear f3 f4 f5 f6 f7 x0 x1 x2 x3 x4 x5 x6 x7;obtain⟨⟨f3,f4,f5,f6,f7⟩,⟨x0,x1,x2,x3,x4,x5,x6,x7⟩, -⟩:=HF.O _ uG.O;refine nP hK ?_;clear hK K;refine sP 8 [0,1,2,3,4,5,6,7] λ K hK=>?_;go_simp;(with_reducible refine(HLD.O _ (fW.O.T (uG.O.mono fW.O.size)).drew).mono ?_);rintro e w3 ⟨m,a,k,gl,rfl,wE,cu⟩;have ek:=ag (uG.O.drew.T (cu.mono uG.O.size));have qb:=ag (wE.zT (eE:=w.heap.size) (fW.O.T (uG.O.mono fW.O.size)).size);have S4:=ag cu;have Cw:=ag gl;unfold Nd.v;have hn:=(cu.block w2 cP).T (ai w2 (.cells jR 147));have n0:=(af hn 0).T rfl;have n1:=(af hn 1).T rfl;have n2:=(af hn 2).T rfl;have nf:=ax hn;have HN:=ag hn;simp only[cW]at n0 n1 n2;clear hn;clear wE cu gl;clear f3 f4 f5 f6 f7 x0 x1 x2 x3 x4 x5 x6 x7;obtain⟨⟨f3,f4,f5,f6,f7⟩,⟨x0,x1,x2,x3,x4,x5,x6,x7⟩, -⟩:=HF.O _ ek.O;refine nP hK ?_;clear hK K;refine tP [9,10,11] ?_
 iterate 3 refine tO ?_
 refine au 2 rfl ?_;refine sP 13 [0,1,2,3,4,5,6,7,8,9,10,12] λ K hK=>?_;go_simp;refine nP hK ?_;clear hK K;refine tP [14] ?_;refine tO ?_;refine au 0 rfl ?_;refine dP ?_;go_simp;obtain⟨A,hA⟩:=bL w2.heap.size;rw[<-hA]at HN;have WA:=eJ.O.size;rw[<-hA]at WA;have HA:=ag (FE (v0:=.bool m.is) (v1:=.slice (m.a1 a) m.n1 (m.k1 k)) (v2:=.slice (m.a2 a) m.n2 (m.k2 k)) HN.O);have r7:=ag (ek.O.T (mZ (v0:=.bool m.is) (v1:=.slice (m.a1 a) m.n1 (m.k1 k)) (v2:=.slice (m.a2 a) m.n2 (m.k2 k)) WA));have S7:=ag (qb.O.Di (λ j hj=>pf (v0:=.bool m.is) (v1:=.slice (m.a1 a) m.n1 (m.k1 k)) (v2:=.slice (m.a2 a) m.n2 (m.k2 k)) j hj) HN.O de de oW);rw[<-hA];obtain⟨W,hW⟩:=bL (((w3.setCell (za A 0) (.bool m.is)).setCell (za A 1) (.slice (m.a1 a) m.n1 (m.k1 k))).setCell (za A 2) (.slice (m.a2 a) m.n2 (m.k2 k)));rw[<-hW]at HA r7 S7;rw[<-hW];clear uG HN n0 n1 n2 nf hA WA hW qb S4 ek;rotate_left
 all_goals
  obtain⟨f0,f1,f2⟩:=m8 HA.O;clear f3 f4 f5 f6 f7 x0 x1 x2 x3 x4 x5 x6 x7;obtain⟨⟨f3,f4,f5,f6,f7⟩,⟨x0,x1,x2,x3,x4,x5,x6,x7⟩, -⟩:=HF.O _ r7.O;have HBc:=r7;have HAc:=HA;have HIc:=S7;have WB:=ag (Zq.O W m a k _ Cw.O S7.O);have AT:((m.red:Int)==(n.red:Int))=true:=by rw[adr.O m Cw.O];simp
  have ahp:∀W,(binOp BinOp.neq 33 (.agg (qp m.red)) (.agg (qp n.red))).run Tryz.prog W= .ok (.bool false) W:= λ W=>by have:=Ri (m.red:Int) (n.red:Int) W;rw[AT]at this;exact this
  unfold Nd.v at WB
  go_wp2_with first
   |((with_reducible refine WB.O.mono ?_);rintro e w5 ⟨rfl,dV⟩;have jE:=ag (HBc.O.T (dV.mono HBc.O.size));have HA5:=ag ((dV.block _ (cS HAc.O).1).T HAc.O);have HI5:=ag (HIc.O.below dV);clear f0 f1 f2 f3 f4 f5 f6 f7 x0 x1 x2 x3 x4 x5 x6 x7 dV;obtain⟨f0,f1,f2⟩:=m8 HA5.O;obtain⟨⟨f3,f4,f5,f6,f7⟩,⟨x0,x1,x2,x3,x4,x5,x6,x7⟩, -⟩:=HF.O _ jE.O;have lP:=(ah w5 w5).alloc (cH) (.cells (qp m.red) 33);have tl:=ag (jE.O.T (lP.mono jE.O.size));have HA6:=ag ((lP.block _ (cS HA5.O).1).T HA5.O);have HI6:=ag (HI5.O.below lP);clear f0 f1 f2 f3 f4 f5 f6 f7 x0 x1 x2 x3 x4 x5 x6 x7 lP;obtain⟨f0,f1,f2⟩:=m8 HA6.O;obtain⟨⟨f3,f4,f5,f6,f7⟩,⟨x0,x1,x2,x3,x4,x5,x6,x7⟩, -⟩:=HF.O _ tl.O;have xr:=(HF.O _ tl.O).2.2;obtain⟨y0,y1,y2⟩:=m8 xr;have yf:=ax xr;have HXR:=ag xr;clear xr;unfold iP)
   |fail
 all_goals
  exact wM
end
section
attribute [local go_sem] Oper.semAt_some
attribute [-go_sem] Builtin.append_
theorem Lets.more{X Y:Nat->Prop}(h:Lets n₀ X B W W')(hY:∀k,X k->Y k):Lets n₀ Y B W W':=⟨h.below, λ k cs t fz h1 h2 h3 h4=>h.eG k cs t fz h1 (λ e=>h2 (hY k e)) h3 h4,h.row,h.lt⟩
theorem WE{b:az}{la:az}(ka:az)(kn kc:Nat)(h:V.heap[Bw]? =some (.cells (dL l b kb cb false la ln lc told 0) 180)):
 ((V.setCell (za Bw 9) (.slice ka kn kc)).setCell (za Bw 10) (.bool true)).heap[Bw]? =some (.cells (dL l b kb cb false ka kn kc true 0) 180):=by
 simpa[dL]using aU (j:=10) (.bool true) (aU (j:=9) (.slice ka kn kc) h)
theorem PG{ka:az}{kn kc:Nat}(j:Nat)(hj:j≠Bw):((V.setCell (za Bw 9) (.slice ka kn kc)).setCell (za Bw 10) (.bool true)).heap[j]? =V.heap[j]? :=
 (aq _ ⟨Bw,10,none⟩ _ j hj).T (aq V ⟨Bw,9,none⟩ _ j hj)
theorem Ey{b:az}{la:az}(j x:Nat):(dL l b kb cb tu la ln lc told UL)[j]? ≠some (.int .u8 (x:Int)):=by unfold dL;rcases j with _|_|_|_|_|_|_|_|_|_|_|_|j<;>simp
def KJ(Bw:Nat)(l:qI)(b:az)(kb cb:Nat)(W:World):Prop:=∃la ln lc told,W.heap[Bw]? =some (.cells (dL l b kb cb false la ln lc told 0) 180)
theorem Ta{ll:Nat}{X:Nat->Prop}{b:az}{la:az}{J J' Jx':World->Prop}(x:aH)
 (hw:W.heap[Bw]? =some (.cells (dL l b kb cb false la last.length lc told 0) 180))(hk:ay W x.ka x.key)(hv:ay W x.va x.val)(hla:ay W la last)(cL:told=true->lj last x.key)(hl:wF W l)
 (hJ:∀A C,J A->iB D (·=Bw) A C->J C)(h0:J W)
 (hY:l.holds x.key=true->∀W1,J W1->Lets n₀ (λ k=>X k\/k=Bw) B W W1->KJ Bw l b kb cb W1->ay W1 x.ka x.key->ay W1 x.va x.val->YieldAt Fence.wide (N - 1) Tryz.prog ll #[x.v] W1 λ e W'=>(e= .returned (.bool true)/\J' W'/\Lets n₀ X B W1 W')\/(e= .returned (.bool false)/\Jx' W'/\Lets n₀ X B W1 W'))
 (hS:Safe X B W Bw)(hB:B<W.heap.size)(KC:n₀<=Bw)(hr:∀k,rowOf B W=some k->k<W.heap.size):
 Calls Tryz.prog 124 #[.pointer (zp Bw),x.v,.func (.yield ll) #[] #[]] W λ e W'=>
  Lets n₀ (λ k=>X k\/k=Bw) B W W'/\W'.heap[Bw]? =some (.cells (dL l b kb cb false x.ka x.key.length x.kc true 0) 180)/\
  ((e= .returned (.bool true)/\((l.holds x.key=true/\J' W')\/(l.holds x.key=false/\J W')))\/(l.holds x.key=true/\e= .returned (.bool false)/\Jx' W')):=by
 refine(callsIn_wide (n:=N)).1 ?_;have ze:=(cS hw).1;obtain⟨w1,bY⟩:=bL ((W.alloc (.cells (il x.ka x.key.length x.kc x.va x.val.length x.vc) 101)).drew);have cN:Below W W w1:=by rw[bY];exact((ah _ W).alloc (cH) _).drew
 have eb:w1.heap[W.heap.size]? =some (.cells (il x.ka x.key.length x.kc x.va x.val.length x.vc) 101):=by rw[bY];exact ai W _
 have zZ:=(cN.block Bw ze).T hw;have Wl:=ag (nj (c:=x.kc) (d:=lc) (hk.below cN) (hla.below cN) rfl rfl);obtain⟨w2,fH⟩:=bL ((w1.setCell (za Bw 9) (.slice x.ka x.key.length x.kc)).setCell (za Bw 10) (.bool true));have afm:w2.heap[Bw]? =some (.cells (dL l b kb cb false x.ka x.key.length x.kc true 0) 180):=by rw[fH];exact WE _ _ _ zZ
 have IF:∀j,j≠Bw->w2.heap[j]? =w1.heap[j]? := λ j hj=>by rw[fH];exact PG j hj
 have u9:ay w2 x.ka x.key:=gQ IF zZ Ey (hk.below cN);have mu:ay w2 x.va x.val:=gQ IF zZ Ey (hv.below cN);have ri:wF w2 l:=⟨gQ IF zZ Ey (hl.1.below cN),gQ IF zZ Ey (hl.2.below cN)⟩;have jP:=(IF W an).T eb;have DU:Hid (Lets n₀ (λ k=>X k\/k=Bw) B W w2):=ag (by have h1:Lets n₀ (λ k=>X k\/k=Bw) B W w1:=Lets.bH cN hB an;rw[fH];exact(h1.T (Lets.setCell w1 ⟨Bw,9,none⟩ _ (.inr rfl) (dy hS.2.1) KC)).T (Lets.setCell _ ⟨Bw,10,none⟩ _ (.inr rfl) (dy hS.2.1) KC))
 have LD:Hid (J w2):=ag (by rw[fH];exact hJ _ _ (hJ _ _ (hJ _ _ h0 (iB.bH cN)) (iB.setCell w1 ⟨Bw,9,none⟩ _ rfl)) (iB.setCell _ ⟨Bw,10,none⟩ _ rfl))
 have afn:rowOf B w1=rowOf B W:=iO (cN.block B hB);have afo:rowOf B w2=rowOf B W:=(iO (IF B (dy hS.2.1))).T afn;have VM:Hid (Safe X B w2 Bw):=ag ⟨hS.1,hS.2.1,by rw[afo];exact hS.2.2⟩;have HH:=ag (SY x.kc ri u9);have Nf:=ag u9;have Ng:=ag mu;have DV:=ag afm;have Za:=ag jP;have HJ:=ag hJ;have HY:=ag hY;have Zr:Hid (B<w2.heap.size/\n₀<=w2.heap.size):=ag (by have:=DU.O.size;omega)
 obtain⟨c,hc⟩:=bL (cmpL x.key last);have fh:told=true->c=1:= λ e=>by rw[hc,tH,cL e];rfl
 rw[<-hc]at Wl;have e2:w1.cell? (za Bw 8)=some (.bool false):=(af zZ 8).T rfl;have e3:w1.cell? (za Bw 9)=some (.slice la last.length lc):=(af zZ 9).T rfl;have e4:w1.cell? (za Bw 10)=some (.bool told):=(af zZ 10).T rfl;have ef:=ax zZ;have k0:w1.cell? (za Bw 0)=some (.slice l.fa l.from_.length l.fc):=(af zZ 0).T rfl;have k1:w1.cell? (za Bw 1)=some (.bool l.en):=(af zZ 1).T rfl;have k2:w1.cell? (za Bw 2)=some (.slice l.ta l.to.length l.tc):=(af zZ 2).T rfl;have x0:w1.cell? (za W 0)=some (.slice x.ka x.key.length x.kc):=(af eb 0).T rfl;have y0:w2.cell? (za W 0)=some (.slice x.ka x.key.length x.kc):=(af jP 0).T rfl;have hf1:(w1.setCell (za Bw 9) (.slice x.ka x.key.length x.kc)).frozen? ⟨Bw,10,none⟩=false:=ax (aU (j:=9) (.slice x.ka x.key.length x.kc) zZ) 10;have Nh:(w1.setCell (za Bw 9) (.slice x.ka x.key.length x.kc)).cell? (za Bw 10)=some (.bool told):=by rw[af (aU (j:=9) (.slice x.ka x.key.length x.kc) zZ) 10];simp[dL]
 have afp:=ag fH;unfold aH.v yY at*;unfold qI.v at HH;clear hw hk hv hla cL hl hJ h0 hY hS hB KC hr cN eb zZ IF u9 mu ri jP afn afo afm ze hc fH;refine callsIn_of_wp Tryz.func124 rfl trivial ?_ rfl;simp only[Tryz.ntmps124,UD,Nat.reduceAdd,Nat.reduceSub]
 gi_wp2_with fail
 refine wpIn_wide.2 ?_;refine bP 8 ?_;rw[<-bY];clear bY;refine tP [0,1,2,3,4,5] ?_
 iterate 6 refine tO ?_
 refine au 2 rfl ?_;refine sP 6 [0,1,2,3,4,5] λ K hK=>?_;go_simp;(with_reducible refine Wl.O.mono ?_);rintro e w3 ⟨rfl,hww⟩;rw[hww];clear hww w3;refine nP hK ?_;clear hK K;refine tP [7] ?_;refine tO ?_;refine au 0 rfl ?_;refine dP ?_;go_simp;have hle:told=true->decide (c<=0)=false:= λ e=>by rw[fh e];rfl
 clear Wl fh;have HWX:=afp;clear afp;cases hh:l.holds x.key with
 |false=>
  cases told
  all_goals
   gi_wp2_with first
    |((refine⟨True.intro, λ e=>by(cases e),?_⟩);rw[<-HWX.O];(with_reducible refine(callsIn_wide.2 HH.O).mono ?_);rintro e w5 ⟨rfl,dV⟩;rw[hh];have jE:=ag dV;replace y0:=carry dV y0;clear dV e2 e3 e4 ef k0 k1 k2 x0 hf1 Nh)
    |fail
   refine⟨λ _ h=>by(cases h),?_⟩
   gi_wp2_with fail
   go_ret;exact⟨DU.O.T (Lets.bH jE.O Zr.O.1 Zr.O.2),(jE.O.block _ (cS DV.O).1).T DV.O,.inl ⟨rfl,.inr ⟨hh,HJ.O _ _ LD.O (iB.bH jE.O)⟩⟩⟩
 |true=>
  cases told
  all_goals
   gi_wp2_with first
    |((refine⟨True.intro, λ e=>by(cases e),?_⟩);rw[<-HWX.O];(with_reducible refine(callsIn_wide.2 HH.O).mono ?_);rintro e w5 ⟨rfl,dV⟩;rw[hh];have jE:=ag dV;have Rd:=(dV.block _ (cS Za.O).1).T Za.O;have z0:=(af Rd 0).T rfl;have z1:=(af Rd 1).T rfl;have z2:=(af Rd 2).T rfl;have z3:=(af Rd 3).T rfl;simp only[cW]at z0 z1 z2 z3;clear dV e2 e3 e4 ef k0 k1 k2 x0 hf1 Nh Rd y0;obtain⟨f1,t1,a1,b1,tt,YZ⟩:=HY.O hh w5 (HJ.O _ _ LD.O (iB.bH jE.O)) (DU.O.T (Lets.bH jE.O Zr.O.1 Zr.O.2)) ⟨_,_,_,_,(jE.O.block _ (cS DV.O).1).T DV.O⟩ (Nf.O.below jE.O) (Ng.O.below jE.O))
    |fail
   refine⟨λ e=>by(cases e),YZ.mono ?_⟩;have FI:=DU.O.T (Lets.bH (X:= λ k=>X k\/k=Bw) jE.O Zr.O.1 Zr.O.2);have afq:=(jE.O.block _ (cS DV.O).1).T DV.O;have B6:Safe X B w5 Bw:=⟨VM.O.1,VM.O.2.1,by rw[iO (jE.O.block B Zr.O.1)];exact VM.O.2.2⟩;have HL5:=ag FI;have ahq:=ag afq;have HS5:=ag B6;clear FI afq B6;rintro e w6 (⟨rfl,zP,hk6⟩|⟨rfl,zP,hk6⟩)
   all_goals
    gi_wp2_with fail
    go_ret;refine⟨HL5.O.T (hk6.more λ k h=>.inl h),hk6.mo HS5.O ahq.O,?_⟩
    first
     |exact .inl ⟨rfl,.inl ⟨hh,zP⟩⟩
     |exact .inr ⟨hh,rfl,zP⟩
def Dl(B1 B2 B3:Nat):Value:=.func (.func 123) #[] (J7 (zp B1) (zp B2) (zp B3))
structure DW where
 Bw:Nat
 B1:Nat
 B2:Nat
 B3:Nat
 B:Nat
 ll:Nat
 X:Nat->Prop
 l:qI
 b:az
 cb:Nat
 ps:List Piece
def DW.Y(t:DW)(k:Nat):Prop:=t.X k\/k=t.Bw
structure Tw(t:DW)(w0 W:World)(la:az)(last:List Nat)(lc:Nat)(told:Bool):Prop where
 base:Below w0 w0 W
 walk:W.heap[t.Bw]? =some (.cells (dL t.l t.b t.ps.length t.cb false la last.length lc told 0) 180)
 b1:W.heap[t.B1]? =some (.cells (iS (zp t.Bw)) 177)
 b2:W.heap[t.B2]? =some (.cells #[.func (.yield t.ll) #[] #[]] 151)
 b3:W.heap[t.B3]? =some (.cells #[Dl t.B1 t.B2 t.B3] 232)
 sw:Safe t.X t.B W t.Bw
 s1:Safe t.Y t.B W t.B1
 s2:Safe t.Y t.B W t.B2
 s3:Safe t.Y t.B W t.B3
 hB:t.B<W.heap.size
 nw:w0.heap.size<=t.Bw
 hX:∀k,t.Y k->k<W.heap.size
 hr:∀k,rowOf t.B W=some k->k<W.heap.size
 FJ:ay W la last
 WG:last≠[]->∀p,la=some p->Safe t.Y t.B W p.block
theorem Lets.aeo{X Y:Nat->Prop}(h:Lets n₀ Y B W W')(hs:Safe X B W k)(hk:k<W.heap.size):Safe X B W' k:=
 ⟨hs.1,hs.2.1, λ e=>(h.row k e).elim hs.2.2 (λ h=>an)⟩
theorem mG{a:az}(h:ay W a xs)(hx:xs≠[]):∀p,a=some p->p.block<W.heap.size:= λ p e=>by
 rcases h.2 with h0|⟨C,o,ha,hc⟩
 ·exact absurd h0 hx
 ·cases xs with
  |nil=>exact absurd rfl hx
  |cons x xs=>
   rw[ha]at e;cases e;exact aZ W ⟨C,o+0,none⟩ (hc 0 x rfl)
theorem FK{X:Nat->Prop}(h:Lets n₀ X B W W'){a:az}(hb:ay W a xs)(hs:xs≠[]->∀p,a=some p->Safe X B W p.block):ay W' a xs:=by
 by_cases hx:xs=[]
 ·subst hx;exact ay.nil _ _
 ·exact hb.safe h (hs hx)
def qJ(X:Nat->Prop)(B eE:Nat)(W:World):Prop:=∀k,eE<=k->k<W.heap.size->Safe X B W k
theorem wN{X:Nat->Prop}(h:Lets n₀ X B W W')(hf:qJ X B eE W){a:az}(hb:ay W a xs)(ha:eZ eE a):ay W' a xs:=
 FK h hb λ hx p e=>hf _ (ha p e) (mG hb hx p e)
theorem Jr{a:az}{xs:List Value}{X:Nat->Prop}(h:Lets n₀ X B W W')(hf:qJ X B eE W)(hr:W.ownsRow eE e sz (.slice a k c) k xs):W'.ownsRow eE e sz (.slice a k c) k xs:=iF hr λ g hg=>by
 rcases bg hr with⟨h1,_⟩|⟨g2,cur,h1,hb,jk⟩
 ·rw[hg]at h1;cases h1
 ·rw[hg]at h1;cases h1;exact(h.mo (hf g hb (cS jk).1) jk).T jk.symm
theorem Nd.R.lets{X:Nat->Prop}(h:Lets n₀ X B W W')(hf:qJ X B eE W){a:az}(hr:n.R W eE a k):n.R W' eE a k:=by
 cases n with
 |leaf xs=>exact⟨Jr h hf hr.1, λ y hy=>⟨⟨wN h hf (hr.2 y hy).1.1 (hr.2 y hy).2.1,wN h hf (hr.2 y hy).1.2 (hr.2 y hy).2.2.1⟩,(hr.2 y hy).2⟩⟩
 |inner xs=>exact⟨Jr h hf hr.1, λ y hy=>⟨wN h hf (hr.2 y hy).1 (hr.2 y hy).2,(hr.2 y hy).2⟩⟩
theorem Tw.fresh{t:DW}{la:az}(h:Tw t w0 W la last lc told)(hb:Below W W W'):qJ t.Y t.B W W':= λ k hk _=>
 Ms hb (λ e=>cm (h.hX k e)) h.hB h.hr hk
theorem Tw.step{t:DW}{la IJ:az}{mh:List Nat}{KL:Nat}{mH:Bool}(h:Tw t w0 W la last lc told)(hl:Lets w0 t.Y t.B W W')
 (hw:W'.heap[t.Bw]? =some (.cells (dL t.l t.b t.ps.length t.cb false IJ mh.length KL mH 0) 180))(hb:ay W' IJ mh)(hs:mh≠[]->∀p,IJ=some p->Safe t.Y t.B W' p.block):Tw t w0 W' IJ mh KL mH where
 base:=h.base.T hl.below
 walk:=hw
 b1:=hl.mo h.s1 h.b1
 b2:=hl.mo h.s2 h.b2
 b3:=hl.mo h.s3 h.b3
 sw:=hl.aeo h.sw (cS h.walk).1
 s1:=hl.safe h.s1 (cS h.b1).1
 s2:=hl.safe h.s2 (cS h.b2).1
 s3:=hl.safe h.s3 (cS h.b3).1
 hB:=aA h.hB hl.size
 nw:=h.nw
 hX:= λ k hk=>aA (h.hX k hk) hl.size
 hr:=hl.lt h.hr
 FJ:=hb
 WG:=hs
theorem Tw.below{t:DW}{w0 W W':World}{la:az}{last:List Nat}{lc:Nat}{told:Bool}(h:Tw t w0 W la last lc told)(hb:Below W W W'):Tw t w0 W' la last lc told/\Lets w0 t.Y t.B W W':=by have hl:Lets w0 t.Y t.B W W':=Lets.bH hb h.hB h.base.size;exact⟨h.step hl ((hb.block _ (cS h.walk).1).T h.walk) (h.FJ.below hb) (λ hx p e=>hl.safe (h.WG hx p e) (mG h.FJ hx p e)),hl⟩
end
section
attribute [-go_sem] Builtin.append_
def sY(X:Nat->Prop)(B:Nat)(W:World)(a:az)(xs:List Nat):Prop:=ay W a xs/\(xs≠[]->∀p,a=some p->Safe X B W p.block)
structure KM(t:DW)(w0:World)(D N:Nat)(J Jx:List aH->World->Prop)(full:List KV):Prop where
 hF:aQ w0 t.b t.cb t.ps
 hm:Marks (aw t.ps)
 hl:wF w0 t.l
 hJ:∀s A C,J s A->iB D (·=t.Bw) A C->J s C
 hY:∀pre x W1,J pre W1->(pre++[x]).map fF<+:full->KJ t.Bw t.l t.b t.ps.length t.cb W1->t.B<W1.heap.size->sY t.Y t.B W1 x.ka x.key->sY t.Y t.B W1 x.va x.val->x.vc=x.val.length->YieldAt Fence.wide (N - 1) Tryz.prog t.ll #[x.v] W1 λ e W'=>
  (e= .returned (.bool true)/\J (pre++[x]) W'/\Lets w0 t.X t.B W1 W')\/(e= .returned (.bool false)/\Jx (pre++[x]) W'/\Lets w0 t.X t.B W1 W')
def DW.eG(t:DW)(items:List KV):List KV:=items.filter λ kv=>t.l.holds kv.1
theorem DW.pO(t:DW)(a b:List KV):t.eG (a++b)=t.eG a++t.eG b:=List.filter_append ..
def Told(t:DW)(w0 V:World)(J:List aH->World->Prop)(pre:List aH)(last:List Nat)(told:Bool)(items:List KV)(W:World):Prop:=
 Lets w0 t.Y t.B V W/\∃IJ mh KL mH,Tw t w0 W IJ mh KL mH/\(∃yU,yU.map fF=t.eG items/\J (pre++yU) W)/\∀key,(told=true->lj last key)->(∀kv∈items,lj kv.1 key)->mH=true->lj mh key
def Cut(t:DW)(w0 V:World)(Jx:List aH->World->Prop)(full:List KV)(W:World):Prop:=
 Lets w0 t.Y t.B V W/\(∃IJ mh KL mH,Tw t w0 W IJ mh KL mH)/\∃Iu,Iu.map fF<+:full/\Jx Iu W
def Ni(t:DW)(w0:World)(J Jx:List aH->World->Prop)(full:List KV)(d:Nat):Prop:=
 ∀(at_:Nat) (n m:Nd) (items:List KV) (V:World) (eE k:Nat) (a:az) (la:az) (last:List Nat) (lc:Nat) (told:Bool) (pre:List aH),
  jH (aw t.ps) d n at_ items->m.wK n->m.R V eE a k->qJ t.Y t.B eE V->Tw t w0 V la last lc told->J pre V->pre.map fF++t.eG items<+:full->(told=true->∀kv∈items,lj last kv.1)->cR (items.map Prod.fst)->
  Calls Tryz.prog 123 #[m.v a k,.int .i64 (at_:Int),.int .i64 (d:Int),.pointer (zp t.B1),.pointer (zp t.B2),.pointer (zp t.B3)] V λ e W'=>
   ∃r,e= .returned (.bool r)/\(r=true->Told t w0 V J pre last told items W')/\(r=false->Cut t w0 V Jx full W')
theorem Told.below{t:DW}{w0 V:World}{D:Nat}{J:List aH->World->Prop}{pre:List aH}{last:List Nat}{told:Bool}{items:List KV}{W W':World}(hJ:∀s A C,J s A->iB D (·=t.Bw) A C->J s C)(h:Told t w0 V J pre last told items W)(hb:Below W W W'):Told t w0 V J pre last told items W':=by obtain⟨hl,IJ,mh,KL,mH,lA,⟨yU,DX,hj⟩,gN⟩:=h;obtain⟨h1,h2⟩:=lA.below hb;exact⟨hl.T h2,IJ,mh,KL,mH,h1,⟨yU,DX,hJ _ _ _ hj (iB.bH hb)⟩,gN⟩
theorem cR.lt:∀{ks:List (List Nat)} (_:cR ks) {i j:Nat} {a b:List Nat},i<j->ks[i]? =some a->ks[j]? =some b->lj a b:=by
 intro ks h i j a b hij ha hb
 induction j generalizing b with
 |zero=>omega
 |succ j ih=>
  by_cases h':i=j
  ·subst h';exact h i a b ha hb
  ·obtain⟨c,hc⟩:∃c,ks[j]? =some c:=⟨ks[j]'(by have:=(aC.1 hb).1;omega),by simp⟩;exact lE _ _ _ (ih an hc) (h j c b hc hb)
theorem WH{xs:List aH}(h:m.wK (.leaf xs)):∃ys,m= .leaf ys/\ys.map fF=xs.map fF:=by
 cases m with
 |inner ys=>exact h.elim
 |leaf ys=>
  refine⟨ys,rfl,?_⟩;simp only[Nd.wK]at h;have e:∀l:List aH,l.map fF=(l.map aH.key).zip (l.map aH.val):= λ l=>by induction l with
   |nil=>rfl
   |cons x l ih=>simp[fF,ih]
  rw[e,e,h.1,h.2]
theorem wO(h:p:=by
 go_wp2_with fail
 go_ret;exact⟨false,rfl, λ e=>fS, λ _=>E4.O _ (vt.O.2 qN)⟩
 ):p:=h
theorem Tb{t:DW}{J Jx:List aH->World->Prop}(ve:KM t w0 D N J Jx full):Ni t w0 J Jx full 0:=by
 intro at_ n m items V eE k a la last lc told pre jn gl hR nH htw Db Dm tG pP;cases n with
 |inner xs=>exact jn.elim
 |leaf xs=>
 obtain⟨-,kD,wE⟩:=jn;obtain⟨ys,rfl,yO⟩:=WH gl;have Rs:ys.length<=6:=(gl.ok kD).1.mE;rw[<-yO]at wE;obtain⟨V1,so⟩:=bL (V.alloc (.cells (pF a ys.length k) 147));have cN:Below V V V1:=by rw[so];go_grown
 have IK:V1.heap[V.heap.size]? =some (.cells (pF a ys.length k) 147):=qK so;obtain⟨WI,zK⟩:=htw.below cN;have WJ:Safe t.Y t.B V1 V.heap.size:=htw.fresh cN _ (cH) (cS IK).1;have vb:Hid (∀W,Lets w0 t.Y t.B V1 W->W.heap[V.heap.size]? =some (.cells (pF a ys.length k) 147)):=ag λ W h=>h.mo WJ IK;have HR:Hid (∀W,Lets w0 t.Y t.B V1 W->iQ W eE a k ys):=ag λ W h=>Nd.R.lets (zK.T h) nH (n:=.leaf ys) hR;have LK:Hid (Told t w0 V1 J pre last told [] V1):=ag ⟨Lets.refl _ _ _ _,la,last,lc,told,WI,⟨[],rfl,by rw[cj];exact ve.hJ _ _ _ Db (iB.bH cN)⟩, λ key h _=>h⟩;have HT:Hid (∀(i:Nat) (x:aH) (W:World),ys[i]? =some x->Told t w0 V1 J pre last told (items.take i) W->Calls Tryz.prog 124 #[.pointer (zp t.Bw),x.v,.func (.yield t.ll) #[] #[]] W λ e W'=>∃r,e= .returned (.bool r)/\Hid ((r=true->Told t w0 V1 J pre last told (items.take (i+1)) W')/\(r=false->Cut t w0 V1 Jx full W'))):=ag (by
  rintro i x W hx ⟨hl,IJ,mh,KL,mH,lA,⟨yU,DX,hj⟩,gN⟩;have hR':=HR.O W hl;have BW:=hR'.2 x (ak hx);have hix:items[i]? =some (fF x):=by rw[wE,aW,hx];rfl
  have Nj:items.take (i+1)=items.take i++[fF x]:=by rw[aL,hix];rfl
  have cL:mH=true->lj mh x.key:=gN _ (λ e=>tG e _ (ak hix)) λ kv IL=>by
   obtain⟨j,hj⟩:=dE.1 IL;have mn:j<i:=by have:=(aC.1 hj).1;rw[aX]at this;omega
   rw[bB,if_pos mn]at hj;exact pP.lt mn (by rw[aW,hj];rfl) (by rw[aW,hix];rfl)
  have hpf:t.l.holds x.key=true->(pre++yU++[x]).map fF<+:full:= λ hh=>by
   refine List.IsPrefix.T ?_ Dm;have e:t.eG items=t.eG (items.take i)++[fF x]++t.eG (items.drop (i+1)):=by
    have h1:t.eG [fF x]=[fF x]:=by simp[DW.eG,fF,hh]
    rw[<-h1,<-t.pO,<-Nj,<-t.pO,bj]
   rw[e,aJ,aJ,DX,aS];exact⟨t.eG (items.drop (i+1)),by simp⟩
  have hsk:x.key≠[]->∀p,x.ka=some p->Safe t.Y t.B W p.block:= λ tm p e=>(zK.T hl).safe (nH _ (BW.2.1 p e) (mG (hR.2 x (ak hx)).1.1 tm p e)) (mG (hR.2 x (ak hx)).1.1 tm p e);have hsv:x.val≠[]->∀p,x.va=some p->Safe t.Y t.B W p.block:= λ tm p e=>(zK.T hl).safe (nH _ (BW.2.2.1 p e) (mG (hR.2 x (ak hx)).1.2 tm p e)) (mG (hR.2 x (ak hx)).1.2 tm p e);refine(Ta (n₀:=w0.heap.size) (D:=D) (N:=N) (B:=t.B) (X:=t.X) (J:=J (pre++yU)) (J':=J (pre++yU++[x])) (Jx':=Jx (pre++yU++[x])) x lA.walk BW.1.1 BW.1.2 lA.FJ cL ⟨ve.hl.1.below lA.base,ve.hl.2.below lA.base⟩ (ve.hJ _) hj (λ hh W1 h1 hL hw h2 h3=>ve.hY _ _ _ h1 (hpf hh) hw (aA lA.hB hL.size) ⟨h2, λ tm p e=>hL.safe (hsk tm p e) (mG BW.1.1 tm p e)⟩ ⟨h3, λ tm p e=>hL.safe (hsv tm p e) (mG BW.1.2 tm p e)⟩ BW.2.2.2) lA.sw lA.hB lA.nw lA.hr).mono ?_;rintro e W' ⟨ri,fH,vt⟩;have pA:=hl.T ri;have iL:=(HR.O W' pA).2 x (ak hx);have PH:Tw t w0 W' x.ka x.key x.kc true:=lA.step ri fH iL.1.1 λ tm p e=>ri.safe (hsk tm p e) (mG BW.1.1 tm p e);have YX:∀key,(told=true->lj last key)->(∀kv∈items.take (i+1),lj kv.1 key)->true=true->lj x.key key:= λ key _ h2 _=>h2 (fF x) (by rw[Nj];simp);rcases vt with⟨rfl,⟨hh,hj'⟩|⟨hh,hj'⟩⟩|⟨hh,rfl,hj'⟩
  ·exact⟨true,rfl,ag ⟨λ _=>⟨pA,_,_,_,_,PH,⟨yU++[x],by rw[aJ,DX,Nj,t.pO];simp[DW.eG,fF,hh],by rw[<-aS];exact hj'⟩,YX⟩, λ e=>by cases e⟩⟩
  ·exact⟨true,rfl,ag ⟨λ _=>⟨pA,_,_,_,_,PH,⟨yU,by rw[DX,Nj,t.pO];simp[DW.eG,fF,hh],hj'⟩,YX⟩, λ e=>by cases e⟩⟩
  ·exact⟨false,rfl,ag ⟨λ e=>fS, λ _=>⟨pA,⟨_,_,_,_,PH⟩,_,hpf hh,hj'⟩⟩⟩)
 have ly:Hid (∀W,Told t w0 V1 J pre last told items W->Told t w0 V J pre last told items W):=ag λ W h=>⟨zK.T h.1,h.2⟩;have E4:Hid (∀W,Cut t w0 V1 Jx full W->Cut t w0 V Jx full W):=ag λ W h=>⟨zK.T h.1,h.2⟩;have HDR:Hid (∀l W,Told t w0 V1 J pre last told l W->Told t w0 V1 J pre last told l W.drew):=ag λ l W h=>h.below ve.hJ (ah _ W).drew;have hlen:items.length=ys.length:=by rw[wE];simp
 have wP:=ag hlen;unfold Nd.v Nd.is Nd.a1 Nd.n1 Nd.k1 Nd.a2 Nd.n2 Nd.k2;dsimp only;have VH:(ys.length:Int)<=6:=an;clear gl hR nH htw Db Dm tG pP kD yO wE WI zK WJ cN IK ve hlen Rs;subst so;go_enter Tryz.func123,Tryz.ntmps123
 go_wp2_with fail
 go_step3
 go_wp2_with fail
 go_step3
 go_wp2_with fail
 go_loopw [22] (λ iv wr=>∃i:Nat,i<=ys.length/\iv= .int .i64 (i:Int)/\Hid (Told t w0 (V.alloc (.cells (pF a ys.length k) 147)) J pre last told (items.take i) wr)) (λ iv _=>ys.length - (intOf iv).toNat)
 case atStart=>exact⟨0,aD _,rfl,LK⟩
 case round=>
  obtain⟨i,hi,rfl,ma⟩:=hrel;by_cases cL:i<ys.length
  ·obtain⟨x,hx⟩:∃x,ys[i]? =some x:=⟨ys[i],by simp[cL]⟩;have SK:((i:Int)<(ys.length:Int)):=an;have hi6:(i:Int)<=6:=an;have HX:=ag (HT.O i x wr.drew hx (HDR.O _ _ ma.O));obtain⟨hl,IJ,mh,KL,mH,lA, -⟩:=ma.O;have bx:=vb.O wr hl;obtain⟨n0,n1,n2⟩:=m8 bx;have p1:=dx lA.b1;have p2:=dx lA.b2;have tu:wr.cell? (za t.Bw 8)=some (.bool false):=(af lA.walk 8).T rfl;obtain⟨C,o,rfl,c0,c1,c2,c3⟩:∃C o,a=some ⟨C,o,none⟩/\wr.cell? ⟨C,o+i*4,none⟩=some (.slice x.ka x.key.length x.kc)/\wr.cell? ⟨C,o+i*4+1,none⟩=some (.slice x.va x.val.length x.vc)/\wr.cell? ⟨C,o+i*4+2,none⟩=some (.bool false)/\wr.cell? ⟨C,o+i*4+3,none⟩=some (.int .i64 0):=by
    rcases(HR.O wr hl).at.1 with h0|⟨C,o,e,hc⟩
    ·rw[h0]at cL;simp at cL
    ·exact⟨C,o,e,(hc i x hx).1,(hc i x hx).2.1,(hc i x hx).2.2.1,(hc i x hx).2.2.2⟩
   unfold aH.v yY at HX;clear hx hl lA bx
   go_wp2_with fail
   refine bP 9 ?_;refine tP [0,1,2,3,4,5,6] ?_
   iterate 7 refine tO ?_
   refine au 2 rfl ?_;refine sP 7 [0,1,2,3,4,5,6] λ K hK=>?_;go_simp;(with_reducible refine HX.O.mono ?_);rintro e w3 ⟨r,rfl,vt⟩;refine nP hK ?_;clear hK K;refine tP [8] ?_;refine tO ?_;refine au 0 rfl ?_;refine dP ?_;go_simp;cases r with
   |false=>
    exact wO
   |true=>
    go_wp2_with fail
    go_roundw
    case rel=>exact⟨_,_,_,_,_,⟨i+1,an,rfl,ag (vt.O.1 qN)⟩,rfl,rfl,rfl,rfl,by simp⟩
    case measure=>simp[intOf];omega
  ·obtain rfl:i=ys.length:=an;have vW:¬ ((ys.length:Int)<(ys.length:Int)):=an
   go_wp2_with fail
   go_ret;refine⟨true,rfl, λ _=>ly.O _ ?_, λ e=>by cases e⟩;have:=ma.O
   rwa [aY (eC wP.O)]at this
theorem cR.left{a b:List (List Nat)}(h:cR (a++b)):cR a:= λ j x y hx hy=>
 h j x y (by rw[cO (aC.1 hx).1];exact hx) (by rw[cO (aC.1 hy).1];exact hy)
theorem cR.right{a b:List (List Nat)}(h:cR (a++b)):cR b:= λ j x y hx hy=>
 h (a.length+j) x y (by rw[bJ an,fU];exact hx) (by rw[bJ an,show a.length+j+1 - a.length=j+1 by omega];exact hy)
theorem cR.app{a b:List (List Nat)}(h:cR (a++b)){x y:List Nat}(hx:x∈a)(hy:y∈b):lj x y:=by obtain⟨i,hi⟩:=dE.1 hx;obtain⟨j,hj⟩:=dE.1 hy;have hia:=(aC.1 hi).1;exact h.lt (i:=i) (j:=a.length+j) an (by rw[cO hia];exact hi) (by rw[bJ an,fU];exact hj)
theorem FM(h:cR ((a++b).map Prod.fst)){x y:KV}(hx:x∈a)(hy:y∈b):lj x.1 y.1:=by rw[aJ]at h;exact h.app (List.mem_map_of_mem hx) (List.mem_map_of_mem hy)
theorem FN{α:Type}(ss:List (List α))(i:Nat)(s:List α)(h:ss[i]? =some s):ss.flatten=(ss.take i).flatten++(s++(ss.drop (i+1)).flatten):=by
 obtain⟨h1,h2⟩:=aC.1 h
 conv=>lhs;rw[<-bj i ss,bI h1,h2]
 simp
theorem Js{α:Type}(ss:List (List α))(i:Nat)(s:List α)(h:ss[i]? =some s):(ss.take (i+1)).flatten=(ss.take i).flatten++s:=by rw[aL,h];simp
theorem Nk{a b t:List Nat}(h:a=b\/lj a b)(ha:0<=cmpL a t):0<=cmpL b t:=by
 rcases h with rfl|h
 ·exact ha
 ·rcases qG b t with hb|hb|hb
  ·have:=lE a b t h hb;unfold lj at this;omega
  ·omega
  ·omega
theorem Tc{t:DW}{ks:List (List Nat)}{fD:List (List KV)}{i:Nat}(hs:fD[i]? =some s)(pP:cR (fD.flatten.map Prod.fst))(LM:∀(j:Nat) (s:List KV),fD[j]? =some s->∃kv r,s=kv::r/\ks[j]? =some kv.1)(hlen:fD.length=ks.length)
 (h:O2 t.l ks i=false):t.eG s=[]:=by
 refine List.filter_eq_nil_iff.2 λ kv IL=>?_;rw[FN fD i s hs]at pP;obtain⟨kv0,r,e0,As⟩:=LM i s hs;have C8:cR (s.map Prod.fst):=by rw[aJ,aJ]at pP;exact pP.right.left
 have vW:kv0.1=kv.1\/lj kv0.1 kv.1:=by
  rw[e0]at IL C8;rcases aO.1 IL with rfl|h
  ·exact .inl rfl
  ·exact .inr (FM (a:=[kv0]) (b:=r) C8 cP h)
 have vw:ks.getD i []=kv0.1:=by simp[List.getD,As]
 unfold O2 at h;rw[vw]at h;simp only[Bool.and_eq_false_iff,Bool.not_eq_false',bQ,Bool.or_eq_false_iff,decide_eq_true_eq,decide_eq_false_iff_not]at h;rcases h with⟨_,he⟩|⟨h1,h2⟩
 ·unfold qI.ends at he;simp only[bQ,decide_eq_true_eq]at he;have:=Nk vW he.2;simp[qI.holds,qI.ends,he.1,this]
 ·have DP:i+1<fD.length:=by have:=(aC.1 hs).1;omega
  obtain⟨s1,gC⟩:∃s1,fD[i+1]? =some s1:=⟨_,aB DP⟩;obtain⟨WK,r1,e1,C1⟩:=LM (i+1) s1 gC;have cL:lj kv.1 WK.1:=by
   rw[aJ]at pP;have h2:=pP.right;refine FM h2 IL ?_;have:(fD.drop (i+1)).flatten=s1++(fD.drop (i+1+1)).flatten:=by rw[bI DP,kG];rw[aB DP]at gC;cases gC;rfl
   rw[this,e1];simp
  have hn:¬ 0<=cmpL kv.1 t.l.from_:= λ h0=>by
   have h3:=Nk (.inr cL) h0;have h4:cmpL WK.1 t.l.from_=0:=by rw[show ks.getD (i+1) []=WK.1 by simp[List.getD,C1]]at h2;omega
   rw[cmpL_eq]at h4;rw[<-h4,cL]at h0;omega
  simp[qI.holds,hn]
theorem Told.skip{t:DW}{J:List aH->World->Prop}(h:Told t w0 V J pre last told A W)(hk:t.eG s=[]):Told t w0 V J pre last told (A++s) W:=by obtain⟨hl,IJ,mh,KL,mH,lA,⟨yU,DX,hj⟩,gN⟩:=h;exact⟨hl,IJ,mh,KL,mH,lA,⟨yU,by rw[t.pO,hk,cj];exact DX,hj⟩, λ key h1 h2=>gN key h1 λ kv IL=>h2 kv (cG _ IL)⟩
theorem Told.next{t:DW}{J Jx:List aH->World->Prop}(hJ:∀s A C,J s A->iB D (·=t.Bw) A C->J s C)(hd:Ni t w0 J Jx full d){C:List KV}{W3:World}(h:Told t w0 V J pre last told A W)(hb:Below W W W3){a:az}(jn:jH (aw t.ps) d n at_ s)(gl:m.wK n)(hR:m.R W3 W a k)(pP:cR ((A++(s++C)).map Prod.fst))(Dm:pre.map fF++t.eG (A++(s++C))<+:full)(tG:told=true->∀kv∈A++(s++C),lj last kv.1):
 Calls Tryz.prog 123 #[m.v a k,.int .i64 (at_:Int),.int .i64 (d:Int),.pointer (zp t.B1),.pointer (zp t.B2),.pointer (zp t.B3)] W3 λ e W'=>
  ∃r,e= .returned (.bool r)/\Hid ((r=true->Told t w0 V J pre last told (A++s) W')/\(r=false->Cut t w0 V Jx full W')):=by
 have nH:qJ t.Y t.B W W3:=by obtain⟨_,_,_,_,_,lA,_⟩:=h;exact lA.fresh hb
 obtain⟨hl,IJ,mh,KL,mH,lA,⟨yU,DX,hj⟩,gN⟩:=h.below hJ hb;have AV:∀kv∈s,kv∈A++(s++C):= λ kv h=>by simp[h]
 have Ce:cR (s.map Prod.fst):=by rw[aJ,aJ]at pP;exact pP.right.left
 refine(hd at_ n m s W3 W k a IJ mh KL mH (pre++yU) jn gl hR nH lA hj ?_ ?_ Ce).mono ?_
 ·refine List.IsPrefix.T ?_ Dm;rw[aJ,DX,t.pO,t.pO,aS];exact⟨t.eG C,by simp⟩
 ·exact λ e kv IL=>gN _ (λ e2=>tG e2 kv (AV kv IL)) (λ kv0 h0=>FM pP h0 (by simp[IL])) e
 ·rintro e W' ⟨r,rfl,h1,h2⟩;refine⟨r,rfl,ag ⟨λ e=>?_, λ e=>?_⟩⟩
  ·obtain⟨ri,la2,aep,lc2,aeq,PH,⟨ahr,aer,Td⟩,abb⟩:=h1 e;exact⟨hl.T ri,la2,aep,lc2,aeq,PH,⟨yU++ahr,by rw[aJ,DX,aer,t.pO],by rw[<-aS];exact Td⟩,
    λ key k1 k2=>abb key (gN key k1 λ kv h=>k2 kv (cG _ h)) λ kv h=>k2 kv (cM _ h)⟩
  ·obtain⟨ri,PH,hp⟩:=h2 e;exact⟨hl.T ri,PH,hp⟩
theorem Te{xs:List a8}(h:m.wK (.inner xs)):∃ys,m= .inner ys/\ys.map a8.key=xs.map a8.key/\ys.map a8.at_=xs.map a8.at_/\ys.map a8.count=xs.map a8.count:=by
 cases m with
 |leaf ys=>exact h.elim
 |inner ys=>exact⟨ys,rfl,h⟩
structure cF where
 k:a8
 h:Nat
def Rt(all:List Nat)(r:cF)(its:List KV):Prop:=∃n:Nd,jH all r.h n r.k.at_ its/\r.k.count=n.red/\n.keys[0]? =some r.k.key
def fV(all:List Nat)(r:cF)(its:List KV):Prop:=∃n:Nd,jH all r.h n r.k.at_ its/\r.k.count=n.red/\n.keys[0]? =some r.k.key/\3<=n.Ax
def IM(all:List Nat)(r:cF)(its:List KV):Prop:=∃n:Nd,jH all r.h n r.k.at_ its/\r.k.count=n.red
theorem fV.root{r:cF}{its:List KV}(h:fV all r its):Rt all r its:=by obtain⟨n,h1,h2,h3,_⟩:=h;exact⟨n,h1,h2,h3⟩
theorem Rt.top{r:cF}{its:List KV}(h:Rt all r its):IM all r its:=by obtain⟨n,h1,h2,_⟩:=h;exact⟨n,h1,h2⟩
theorem fV.more{all:List Nat}{r:cF}{its:List KV}(h:fV all r its)(m:List Nat):fV (all++m) r its:=by obtain⟨n,h1,h2,h3,h4⟩:=h;exact⟨n,h1.more m,h2,h3,h4⟩
theorem IM.more{all:List Nat}{r:cF}{its:List KV}(h:IM all r its)(m:List Nat):IM (all++m) r its:=by obtain⟨n,h1,h2⟩:=h;exact⟨n,h1.more m,h2⟩
theorem fV.count{all:List Nat}{r:cF}{its:List KV}(h:fV all r its):r.k.count=its.length:=by obtain⟨n,h1,h2,_⟩:=h;rw[h2,h1.count]
theorem fV.first{all:List Nat}{r:cF}{its:List KV}(h:fV all r its):∃kv l,its=kv::l/\r.k.key=kv.1:=by
 obtain⟨n,h1,_,h3,_⟩:=h;obtain⟨kv,l,e,f⟩:=h1.first
 rw[f]at h3;exact⟨kv,l,e,(fp h3).symm⟩
def cq{β:Type}(S:β->List KV->Prop):List β->List KV->Prop
 |[],its=>its=[]
 |x::xs,its=>∃s r,S x s/\cq S xs r/\its=s++r
theorem cq.app{β:Type}{S:β->List KV->Prop}:∀{xs ys:List β} {its:List KV},cq S (xs++ys) its↔∃a b,cq S xs a/\cq S ys b/\its=a++b
 |[],ys,its=>⟨λ h=>⟨[],its,rfl,h,rfl⟩, λ ⟨a,b,h1,h2,h3⟩=>by cases h1;rw[h3];exact h2⟩
 |x::xs,ys,its=>⟨λ ⟨s,r,h1,h2,h3⟩=>by
   obtain⟨a,b,e1,e2,e3⟩:=cq.app.1 h2;exact⟨s++a,b,⟨s,a,h1,e1,rfl⟩,e2,by rw[h3,e3,aS]⟩, λ ⟨a,b,⟨s,r,h1,h2,h3⟩,h4,h5⟩=>
   ⟨s,r++b,h1,cq.app.2 ⟨r,b,h2,h4,rfl⟩,by rw[h5,h3,aS]⟩⟩
theorem cq.mono{β:Type}{S T:β->List KV->Prop}:∀{xs:List β} {its:List KV},(∀x∈xs,∀s,S x s->T x s)->cq S xs its->cq T xs its
 |[],_,_,h=>h
 |x::_,_,hm,⟨s,r,h1,h2,h3⟩=>⟨s,r,hm x bD s h1,cq.mono (λ y hy=>hm y (bM _ hy)) h2,h3⟩
theorem cq.one{β:Type}{S:β->List KV->Prop}{x:β}{its:List KV}:cq S [x] its↔S x its:=
 ⟨λ ⟨s,r,h1,h2,h3⟩=>by cases h2;rw[h3,cj];exact h1, λ h=>⟨its,[],h,rfl,(cj _).symm⟩⟩
theorem cq.get{β:Type}{S:β->List KV->Prop}{xs:List β}{its:List KV}(h:cq S xs its){x:β}(hj:xs[j]? =some x):∃a s b,cq S (xs.take j) a/\S x s/\cq S (xs.drop (j+1)) b/\its=a++(s++b):=by
 have cL:=(aC.1 hj).1;have e:xs=xs.take j++(x::xs.drop (j+1)):=by
  conv=>lhs;rw[<-bj j xs]
  rw[bI cL,(aC.1 hj).2]
 rw[e]at h;obtain⟨a,b,h1,⟨s,r,h2,h3,h4⟩,h5⟩:=cq.app.1 h;exact⟨a,s,r,h1,h2,h3,by rw[h5,h4]⟩
theorem cq.len{β:Type}{S:β->List KV->Prop}(m:Nat)(hS:∀x s,S x s->m<=s.length):∀{xs:List β} {its:List KV},cq S xs its->xs.length*m<=its.length
 |[],_,_=>by simp
 |x::xs,_,⟨s,r,h1,h2,h3⟩=>by
  have:=cq.len m hS h2;have:=hS _ _ h1;rw[h3,aK,ar,jw];omega
theorem cq.sum{β:Type}{S:β->List KV->Prop}(f:β->Nat)(hS:∀x s,S x s->f x=s.length):∀{xs:List β} {its:List KV},cq S xs its->(xs.map f).sum=its.length
 |[],_,h=>by cases h;rfl
 |x::xs,_,⟨s,r,h1,h2,h3⟩=>by rw[h3,bF,iT,cq.sum f hS h2,hS _ _ h1,ar]
inductive Pc(α:Type)where
 |kept (r:cF)
 |loose (a:az)(c:Nat)(ys:List α)
def Ho(x:aH)(its:List KV):Prop:=its=[fF x]
def wQ(all:List Nat)(h:Nat)(x:a8)(its:List KV):Prop:=fV all ⟨x,h⟩ its
theorem cq.its:∀{xs:List aH} {its:List KV},cq Ho xs its↔its=xs.map fF
 |[],_=>Iff.rfl
 |x::xs,its=>⟨λ ⟨s,r,h1,h2,h3⟩=>by rw[cq.its]at h2;cases h1;rw[h3,h2];rfl, λ h=>⟨[fF x],xs.map fF,rfl,cq.its.2 rfl,h⟩⟩
def ee(its:List KV):Prop:=∀kv∈its,1<=kv.1.length/\kv.1.length<=24/\1<=kv.2.length/\kv.2.length<=24
theorem ee.app(h:ee (a++b)):ee a/\ee b:=⟨λ kv hk=>h kv (cG _ hk), λ kv hk=>h kv (cM _ hk)⟩
theorem j6(h:cR ((a++b).map Prod.fst)):cR (a.map Prod.fst)/\cR (b.map Prod.fst):=by rw[aJ]at h;exact⟨h.left,h.right⟩
theorem FO{all:List Nat}:∀{d at_:Nat} {n:Nd} {its:List KV},jH all d n at_ its->n.Ax*3^d<=its.length
 |0,_,.leaf xs,_,⟨_,_,h3⟩=>by subst h3;simp[Nd.Ax,Nd.n1,Nd.n2]
 |d+1,_,.inner xs,_,⟨_,_,fD,h3,h4,h5⟩=>by
  subst h4;have key:∀(xs:List a8) (fD:List (List KV)),fD.length=xs.length->(∀(j:Nat) (x:a8) (s:List KV),xs[j]? =some x->fD[j]? =some s->3^(d+1)<=s.length)->xs.length*3^(d+1)<=fD.flatten.length:=by
   intro xs
   induction xs with
   |nil=>intro fD _ _;simp
   |cons x xs ih=>
    intro fD hl hj;cases fD with
    |nil=>simp at hl
    |cons s fD=>
     have e1:=ih fD (by simpa using hl) (λ j x s hx hs=>hj (j+1) x s hx hs);have e2:=hj 0 x s rfl rfl;rw[aK,jw,kG,ar];omega
  have:=key xs fD h3 λ j x s hx hs=>by obtain⟨_,n,a2,_,_,a5⟩:=h5 j x s hx hs;have:=FO a5;have:3*3^d<=n.Ax*3^d:=fG _ a2;rw[cK];omega
  simpa[Nd.Ax,Nd.n1,Nd.n2]using this
 |0,_,.inner _,_,h=>h.elim
 |_+1,_,.leaf _,_,h=>h.elim
theorem fV.many{r:cF}{its:List KV}(h:fV all r its):3^(r.h+1)<=its.length:=by obtain⟨n,h1,_,_,h4⟩:=h;have:=FO h1;have:3*3^r.h<=n.Ax*3^r.h:=fG _ h4;rw[cK];omega
theorem acm{a b:Nat}(h:a<=b):3^a<=3^b:=Nat.pow_le_pow_right de h
theorem tL:∀(xs:List Nat) (n:Nat),63*(ed n xs).length<=64*xs.length+(n+63)%64
 |[],n=>by simp[ed]
 |x::xs,n=>by
  rw[pd,rj,ar,aK];split
  ·have:=tL xs (n+[0,x].length);simp only[aK,bK]at this⊢;omega
  ·have:=tL xs (n+[x].length);simp only[aK,bK]at this⊢;omega
theorem FP(p:List Nat)(n k:Nat)(hk:1<=k)(hp:p.length<=2+69*k):(ed n (ft p)).length<=80*k:=by have h:=tL (ft p) n;rw[qM]at h;omega
theorem FQ(ys:List aH)(h:ee (ys.map fF)):(dc ys).length<=2+59*ys.length:=by
 unfold dc;have:=nR kB 59 ys λ x hx=>by have:=h (fF x) (aM.2 ⟨x,hx,rfl⟩);simp only[fF]at this;rw[AO];omega
 simp only[aK];omega
theorem Cx(xs:List a8)(h:∀x∈xs,x.key.length<=24):(cz xs).length<=2+69*xs.length:=by
 unfold cz;have:=nR kL 69 xs λ x hx=>by have:=h x hx;rw[AP];omega
 simp only[aK];omega
theorem KN(h1:1<=ys.length)(h6:ys.length<=6)(hs:ee (ys.map fF))(hr:cR ((ys.map fF).map Prod.fst)):nO ys/\∀x∈ys,1<=x.val.length:=by have hb:∀x∈ys,1<=x.key.length/\x.key.length<=24/\1<=x.val.length/\x.val.length<=24:= λ x hx=>hs (fF x) (aM.2 ⟨x,hx,rfl⟩);refine⟨⟨h1,h6, λ x hx=>cm (hb x hx),?_⟩, λ x hx=>(hb x hx).2.2.1⟩;rw[jq]at hr;exact hr
theorem Nl(all:List Nat)(h1:1<=ys.length)(h6:ys.length<=6)(hs:ee (ys.map fF))(hr:cR ((ys.map fF).map Prod.fst))(hb:∀x∈dc ys,x<256):
 jH (all++ed all.length (ft (dc ys))) 0 (.leaf ys) (db all.length) (ys.map fF):=by
 have ho:=KN h1 h6 hs hr;have hl:=FQ ys hs;exact⟨iy.new all _ (by unfold dc;simp) an hb,ho,rfl⟩
theorem Jt{all:List Nat}{h:Nat}:∀{xs:List a8} {its:List KV},cq (wQ all h) xs its->cR (its.map Prod.fst)->cR (xs.map a8.key)
 |[],_,_,_=> λ j a b ha=>by simp at ha
 |[x],_,_,_=> λ j a b ha hb=>by cases j<;>simp at hb
 |x::y::xs,_,⟨s,r,h1,h2,h3⟩,hr=> λ j a b ha hb=>by
  rw[h3]at hr;cases j with
  |zero=>
   obtain⟨s',r',g1,_,g3⟩:=h2;obtain⟨kv,l,e1,e2⟩:=fV.first h1
   obtain⟨kv',l',e1',e2'⟩:=fV.first g1
   simp only[bF,eW,dz,aN,eV]at ha hb;rw[<-ha,<-hb];dsimp only at e2 e2';rw[e2,e2'];exact FM hr (by rw[e1];simp) (by rw[g3,e1'];simp)
  |succ j=>exact Jt h2 (j6 hr).2 j a b (by simpa using ha) (by simpa using hb)
theorem Ez{xs:List a8}{its:List KV}(h2:2<=xs.length)(h6:xs.length<=6)(hS:cq (wQ all h) xs its)(hs:ee its)(hr:cR (its.map Prod.fst))(hl:its.length<=1000)(ha:all.length<=524288):
 gM xs/\(∀x∈xs,x.key.length<=24)/\(xs.map a8.count).sum=its.length:=by
 have hk:∀x∈xs,1<=x.key.length/\x.key.length<=24/\1<=x.at_/\x.at_<524288/\1<=x.count/\x.count<=1000:= λ x hx=>by
  obtain⟨j,hj⟩:=gI hx;obtain⟨a,s,b,_,g,_,e⟩:=hS.get hj;obtain⟨kv,l,e1,e2⟩:=fV.first g
  have hc:=fV.count g;have hm:=hs kv (by rw[e,e1];simp);obtain⟨n,g1,_⟩:=g;have mU:=g1.node.1;have:=mU.lt;have UF:=mU.Fk;dsimp only at e2 hc this UF;have:s.length<=its.length:=by rw[e];simp only[ar];omega
  have:1<=s.length:=by rw[e1];simp
  rw[e2];omega
 refine⟨⟨h2,h6, λ x hx=>cm (hk x hx),Jt hS hr⟩, λ x hx=>(hk x hx).2.1,hS.sum a8.count λ x s g=>fV.count g⟩
theorem Ju{xs:List a8}{its:List KV}(h2:2<=xs.length)(h6:xs.length<=6)(hS:cq (wQ all h) xs its)(hs:ee its)(hr:cR (its.map Prod.fst))(hl:its.length<=1000)(ha:all.length<=524288)(hb:∀x∈cz xs,x<256):
 jH (all++ed all.length (ft (cz xs))) (h+1) (.inner xs) (db all.length) its:=by
 obtain⟨ho,hk,_⟩:=Ez h2 h6 hS hs hr hl ha;have hl:=Cx xs hk;refine⟨iy.new all _ (by unfold cz;simp) an hb,ho,?_⟩;have key:∀(xs:List a8) (its:List KV),cq (wQ all h) xs its->∃fD:List (List KV),fD.length=xs.length/\its=fD.flatten/\∀(j:Nat) (x:a8) (s:List KV),xs[j]? =some x->fD[j]? =some s->fV all ⟨x,h⟩ s:=by
  intro xs
  induction xs with
  |nil=>intro its hh;exact⟨[],rfl,hh, λ j x s hx=>by simp at hx⟩
  |cons x xs ih=>
   rintro its ⟨s,r,g1,g2,g3⟩;obtain⟨fD,e1,e2,e3⟩:=ih r g2;refine⟨s::fD,by simp[e1],by rw[g3,e2];rfl, λ j y t hy ht=>?_⟩;cases j with
   |zero=>cases hy;cases ht;exact g1
   |succ j=>exact e3 j y t hy ht
 obtain⟨fD,e1,e2,e3⟩:=key xs its hS;refine⟨fD,e1,e2, λ j x s hx hs'=>?_⟩;obtain⟨n,g1,g2,g3,g4⟩:=e3 j x s hx hs';refine⟨?_,n,g4,g2,g3,g1.more _⟩;have:=g1.node.1.lt;dsimp only at this;unfold db;split<;>omega
end
section
attribute [local go_sem] Oper.semAt_some
attribute [-go_sem] Builtin.append_
abbrev wkC(b:az)(k c:Nat):Array Value:=(acO b k c)
def lB(W:World)(B:Nat)(b:az)(k c:Nat):Prop:=W.heap[B]? =some (.cells (wkC b k c) 230)
theorem lB.below{b:az}(h:lB W B b k c)(hb:Below W W W'):lB W' B b k c:=(hb.block B (cS h).1).T h
abbrev tM(ka:az)(kl kc at_ cn d:Nat):Array Value:=(lW ka kl kc at_ cn d)
theorem yv{b:az}(hF:aQ w b c ps)(hm:Marks (aw ps))(hW:lB w Bw b ps.length c)(ka:az)(kl kc at_ cn d:Nat)(hd:n.is=decide (d=0))(hr:iy (aw ps) at_ n.enc)(ho:n.Ok):
 Calls Tryz.prog 193 (BY (zp Bw) (.agg (tM ka kl kc at_ cn d))) w λ e w'=>∃(m:Nd) (a:az) (k:Nat),m.wK n/\e= .returned (m.v a k)/\m.R w' w a k/\Below w w w':=by
 obtain⟨w1,bY⟩:=bL ((w.alloc (.cells (lW ka kl kc at_ cn d) 273)).alloc (.cells jR 147));have cN:Below w w w1:=by rw[bY];go_grown
 have eb:=bu (w2:=w1) fq;have gC:w1.heap.size=w.heap.size+1+1:=by rw[bY];simp
 have HL:=ag λ (V:World) (hV:Below w w V)=>KF (hF.below hV) hm at_ d hd hr ho;have hk:= λ j=>af ((cN.block Bw (cS hW).1).T hW) j;have k0:=(hk 0).T rfl;have k1:=(hk 1).T rfl;have k2:=(hk 2).T rfl;have k3:=(hk 3).T rfl;have k4:=(hk 4).T rfl;have k5:=(hk 5).T rfl;simp only[cW]at k0 k1 k2 k3 k4 k5;have r1:w1.cell? (za w 1)=some (.int .i64 (at_:Int)):=(af eb.1 1).T rfl;have r8:w1.cell? (za w 8)=some (.int .i64 (d:Int)):=(af eb.1 8).T rfl;have hWB:=(cS hW).1;have HK5:Hid (∀V,Below w1 w1 V->V.cell? (za Bw 5)=some (.int .i64 0)):=ag λ V hV=>carry hV k5;have H1:=eS cN eb gC;have Eo:Below w1 w1 (w1.alloc (.cells jR 147)):=(ah _ w1).alloc (cH) _;have l0:=carry Eo k0;have l1:=carry Eo k1;have l2:=carry Eo k2;have l3:=carry Eo k3;have l4:=carry Eo k4;have l5:=carry Eo r1;have l6:=carry Eo r8;rw[bY]at k0 k1 k2 k3 k4 r1 r8 l0 l1 l2 l3 l4 l5 l6;clear Eo;have qj:=ag bY;unfold bN at HL;clear hF hm hd hr ho hW hk k5 cN eb gC bY hWB;go_enter Tryz.func193,Tryz.ntmps193
 go_wp2_with fail
 refine bP 17 ?_;refine tP [0,1,2,3,4,5,6,7,8,9] ?_
 iterate 10 refine tO ?_
 refine au 7 rfl ?_;refine G6 10 14 [0,1,2,3,4,5,6,7,8,9] [] (λ K hK=>?_) λ K hK=>?_;go_simp;(with_reducible refine(HL.O _ (by rw[<-qj.O];exact H1.O.1.drew)).mono ?_);rintro e w3 ⟨m,a,k,gl,rfl,hR,cu⟩;rw[<-qj.O]at cu hR;have ek:=ag (show Below w1 w1 w3 from((ah _ w1).drew).T cu);have HR:=dO gl hR;clear gl hR cu;unfold Nd.v;refine nP hK ?_;clear hK K;refine tP [11,12,13] ?_
 iterate 3 refine tO ?_
 refine au 3 rfl ?_;refine sP 14 [0,1,2,3,4,5,6,7,8,9] λ K hK=>?_;go_simp;refine nP hK ?_;clear hK K;refine sP 15 [0,1,2,3,4,5,6,7,8,9,10,11,12,14] λ K hK=>?_;refine abN 147 _ _ rfl _ _ _ rfl cP rfl bp bU bz ?_;refine nP hK ?_;clear hK K;refine tP [16] ?_;refine tO ?_;refine au 0 rfl ?_;refine dP ?_;go_simp;obtain⟨V,hV⟩:=bL (w3.alloc (.cells (oS m.is (m.a1 a) m.n1 (m.k1 k) (m.a2 a) m.n2 (m.k2 k)) 147));have hn:V.heap[w3.heap.size]? =some (.cells (oS m.is (m.a1 a) m.n1 (m.k1 k) (m.a2 a) m.n2 (m.k2 k)) 147):=by rw[hV];exact ai w3 _
 have pg:Below w w V:=by rw[hV];exact(H1.O.1.T (ek.O.mono H1.O.1.size)).alloc (aj H1.O.1.size ek.O.size) _
 have Nn:Below w1 w1 V:=by rw[hV];exact ek.O.alloc ek.O.size _
 have f5:=HK5.O V Nn;have hz:V.heap[w.heap.size+1]? =some (.cells jR 147):=(Nn.block _ (cm H1.O.2.2)).T H1.O.2.1.2;have hRV:m.R V w a k:=by rw[hV];exact(HR.O.2.below ((ah _ w3).alloc (cH) _)).zT (by have:=H1.O.1.size;exact this)
 rw[<-hV];clear hV Nn;have Cv:=aF hn;have HZ:=ag hz;have HT:=dO pg hRV;clear hn pg hRV
 go_wp2_with first
  |(refine dG 147 ?_)
  |(refine fT 147 rfl _ _ rfl _ _ _ _ _ rfl rfl HZ.O cP bU bz (λ W' h1 h2 h3=>?_);have x0:W'.cell? (za (w+1) 0)=some (.bool m.is):=(af h1 0).T rfl;have x1:W'.cell? (za (w+1) 1)=some (.slice (m.a1 a) m.n1 (m.k1 k)):=(af h1 1).T rfl;have x2:W'.cell? (za (w+1) 2)=some (.slice (m.a2 a) m.n2 (m.k2 k)):=(af h1 2).T rfl;have HQ:=dO (h3 w w (bk _) HT.O.1) (Nd.R.Di (n:=m) h2 HZ.O de de (λ j x=>by rcases j with _|_|_|j<;>simp) HT.O.2);clear h1 h2 h3 Cv)
  |fail
 refine bodyPost_ret (v:=m.v a k) (by rw[lC rfl];unfold Nd.v;go_simp) bp ⟨m,a,k,HR.O.1,rfl,HQ.O.2,HQ.O.1⟩;rotate_left;go_simp;refine nP hK ?_;clear hK K;refine sP 10 [0,1,2,3,4,5,6,7,8,9] λ K hK=>?_;go_simp;(with_reducible refine(HL.O _ (by rw[<-qj.O];exact(H1.O.1.alloc H1.O.1.size _).drew)).mono ?_);rintro e w3 ⟨m,a,k,gl,rfl,hR,cu⟩;rw[<-qj.O]at cu hR;have ek:=ag (show Below (w1+1) (w1.alloc (.cells jR 147)) w3 from(by have h9:Below (w1+1) (w1.alloc (.cells jR 147)) (w1.alloc (.cells jR 147)).drew:=(gb).drew;exact h9.T (by simpa using cu)));have HR:=dO gl hR;have hy:=(ek.O.block _ cP).T (ai w1 (.cells jR 147));rw[H1.O.2.2]at hy;clear gl hR cu;unfold Nd.v;refine nP hK ?_;clear hK K;refine tP [11,12,13] ?_
 iterate 3 refine tO ?_
 refine au 2 rfl ?_;refine sP 15 [0,1,2,3,4,5,6,7,8,9,10,11,12,14] λ K hK=>?_;refine iG 147 _ _ rfl _ _ _ _ _ rfl rfl hy cP bU bz (λ V g1 g2 g3=>?_);refine nP hK ?_;clear hK K;refine tP [16] ?_;refine tO ?_;refine au 0 rfl ?_;refine dP ?_;go_simp;have cu:Below w1 w1 w3:=((ah _ w1).alloc (cH) _).T (ek.O.mono cP);have hn:V.heap[w.heap.size+1+1]? =some (.cells (oS m.is (m.a1 a) m.n1 (m.k1 k) (m.a2 a) m.n2 (m.k2 k)) 147):=g1;have Nn:Below w1 w1 V:=g3 _ _ (by rw[H1.O.2.2];exact cH) cu;have pg:Below w w V:=H1.O.1.T (Nn.mono H1.O.1.size);have f5:=HK5.O V Nn;have hz:V.heap[w.heap.size+1]? =some (.cells jR 147):=(Nn.block _ (cm H1.O.2.2)).T H1.O.2.1.2;have hRV:m.R V w a k:=(Nd.R.Di (n:=m) g2 hy de de (λ j x=>by rcases j with _|_|_|j<;>simp) HR.O.2).zT (by have:=H1.O.1.size;simp;omega);clear g1 g2 g3 cu Nn hy;have Cv:=aF hn;have HZ:=ag hz;have HT:=dO pg hRV;clear hn pg hRV
 go_wp2_with first
  |(refine dG 147 ?_)
  |(refine fT 147 rfl _ _ rfl _ _ _ _ _ rfl rfl HZ.O cP bU bz (λ W' h1 h2 h3=>?_);have x0:W'.cell? (za (w+1) 0)=some (.bool m.is):=(af h1 0).T rfl;have x1:W'.cell? (za (w+1) 1)=some (.slice (m.a1 a) m.n1 (m.k1 k)):=(af h1 1).T rfl;have x2:W'.cell? (za (w+1) 2)=some (.slice (m.a2 a) m.n2 (m.k2 k)):=(af h1 2).T rfl;have HQ:=dO (h3 w w (bk _) HT.O.1) (Nd.R.Di (n:=m) h2 HZ.O de de (λ j x=>by rcases j with _|_|_|j<;>simp) HT.O.2);clear h1 h2 h3 Cv)
  |fail
 refine bodyPost_ret (v:=m.v a k) (by rw[lC rfl];unfold Nd.v;go_simp) bp ⟨m,a,k,HR.O.1,rfl,HQ.O.2,HQ.O.1⟩;rotate_left
theorem Tf(a:az)(k c:Nat)(w:World):Calls Tryz.prog 161 (sg a k c) w λ e w'=>e= .returned (.agg (pF a k c))/\Below w w w':=by
 have n0:=ai w (.cells (pF a k c) 147);have x0:=(af n0 0).T rfl;have x1:=(af n0 1).T rfl;have x2:=(af n0 2).T rfl;simp only[cW]at x0 x1 x2;go_enter Tryz.func161,Tryz.ntmps161
 go_wp2_with first
  |(refine lU 147 ?_)
  |fail
 refine bodyPost_ret (v:=.agg (pF a k c)) iq bp ⟨rfl,(ah _ w).alloc (cH) _⟩
theorem PI(a:az)(k c:Nat)(w:World):Calls Tryz.prog 165 (sg a k c) w λ e w'=>e= .returned (.agg (pU a k c))/\Below w w w':=by
 have n0:=ai w (.cells (pU a k c) 147);have x0:=(af n0 0).T rfl;have x1:=(af n0 1).T rfl;have x2:=(af n0 2).T rfl;simp only[cW]at x0 x1 x2;go_enter Tryz.func165,Tryz.ntmps165
 go_wp2_with first
  |(refine lU 147 ?_)
  |fail
 refine bodyPost_ret (v:=.agg (pU a k c)) iq bp ⟨rfl,(ah _ w).alloc (cH) _⟩
theorem PJ{b:az}(hF:aQ w b c ps)(hm:Marks (aw ps))(hW:lB w Bw b ps.length c)(ka:az)(kl kc at_ cn d:Nat){xs:List aH}(hd:d=0)(hr:iy (aw ps) at_ (dc xs))(ho:(Nd.leaf xs).Ok):
 Calls Tryz.prog 160 (BY (zp Bw) (.agg (tM ka kl kc at_ cn d))) w λ e w'=>∃(ys:List aH) (a:az) (k:Nat),(ys.map aH.key=xs.map aH.key/\ys.map aH.val=xs.map aH.val)/\e= .returned (.slice a ys.length k)/\iQ w' w a k ys/\Below w w w':=by
 obtain⟨w1,bY⟩:=bL (w.alloc (.cells (tM ka kl kc at_ cn d) 273));have cN:Below w w w1:=by rw[bY];go_grown
 have HL:=ag (yv (hF.below cN) hm (hW.below cN) ka kl kc at_ cn d (n:=.leaf xs) (by simp[Nd.is];omega) hr ho);have Cv:=aF (W:=w1) (B:=w.heap.size) (cs:=(lW ka kl kc at_ cn d)) (t:=273) (qK bY);have gC:w1.heap.size=w.heap.size+1:=by rw[bY];simp
 have H1:=eS cN bY gC;rw[bY]at HL Cv;clear hd hF hm hW hr ho bY cN gC;go_enter Tryz.func160,Tryz.ntmps160
 go_wp2_with first
  |(refine dG 273 ?_)
  |((with_reducible refine HL.O.mono ?_);rintro e w3 ⟨m,a,k,gl,rfl,hR,cu⟩;rw[<-H1.O.2.1]at cu hR;rcases m with ys|ys;rotate_left
    ·exact gl.elim
    have HR:=eS gl (Nd.R.zT (n:=.leaf ys) hR H1.O.1.size) (H1.O.1.T (cu.mono H1.O.1.size));simp only[Nd.v,Nd.is,Nd.a1,Nd.n1,Nd.k1,Nd.a2,Nd.n2,Nd.k2];have ads:∀W,(Instr.field 147 (.agg (pF a ys.length k)) 1).run Tryz.prog W= .ok (.slice a ys.length k) W:= λ W=>bU;clear gl hR cu)
  |fail
 go_ret;exact⟨ys,a,k,HR.O.1,rfl,HR.O.2.1,HR.O.2.2⟩
theorem Tg{b:az}(hF:aQ w b c ps)(hm:Marks (aw ps))(hW:lB w Bw b ps.length c)(ka:az)(kl kc at_ cn d:Nat){xs:List a8}(hd:1<=d)(hr:iy (aw ps) at_ (cz xs))(ho:(Nd.inner xs).Ok):
 Calls Tryz.prog 164 (BY (zp Bw) (.agg (tM ka kl kc at_ cn d))) w λ e w'=>∃(ys:List a8) (a:az) (k:Nat),(ys.map a8.key=xs.map a8.key/\ys.map a8.at_=xs.map a8.at_/\ys.map a8.count=xs.map a8.count)/\e= .returned (.slice a ys.length k)/\lx w' w a k ys/\Below w w w':=by
 obtain⟨w1,bY⟩:=bL (w.alloc (.cells (tM ka kl kc at_ cn d) 273));have cN:Below w w w1:=by rw[bY];go_grown
 have HL:=ag (yv (hF.below cN) hm (hW.below cN) ka kl kc at_ cn d (n:=.inner xs) (by simp[Nd.is];omega) hr ho);have Cv:=aF (W:=w1) (B:=w.heap.size) (cs:=(lW ka kl kc at_ cn d)) (t:=273) (qK bY);have gC:w1.heap.size=w.heap.size+1:=by rw[bY];simp
 have H1:=eS cN bY gC;rw[bY]at HL Cv;clear hd hF hm hW hr ho bY cN gC;go_enter Tryz.func164,Tryz.ntmps164
 go_wp2_with first
  |(refine dG 273 ?_)
  |((with_reducible refine HL.O.mono ?_);rintro e w3 ⟨m,a,k,gl,rfl,hR,cu⟩;rw[<-H1.O.2.1]at cu hR;rcases m with ys|ys;skip
    ·exact gl.elim
    have HR:=eS gl (Nd.R.zT (n:=.inner ys) hR H1.O.1.size) (H1.O.1.T (cu.mono H1.O.1.size));simp only[Nd.v,Nd.is,Nd.a1,Nd.n1,Nd.k1,Nd.a2,Nd.n2,Nd.k2];have ads:∀W,(Instr.field 147 (.agg (pU a ys.length k)) 2).run Tryz.prog W= .ok (.slice a ys.length k) W:= λ W=>bU;clear gl hR cu)
  |fail
 go_ret;exact⟨ys,a,k,HR.O.1,rfl,HR.O.2.1,HR.O.2.2⟩
def cF.cells(r:cF):List Value:=r.k.cells++[.int .i64 (r.h:Int)]
def FR(W:World)(n₀:Nat)(a:az)(k:Nat)(rs:List cF):Prop:=W.ownsRow n₀ 273 9 (.slice a rs.length k) rs.length (rs.flatMap cF.cells)/\∀r∈rs,ay W r.k.ka r.k.key/\eZ n₀ r.k.ka
theorem FT:(Tryz.prog.info? 273).map (λ i=>(i.zero,i.size,i.bytes))=some (some (.agg U4),9,88):=bU
theorem FU(r:cF):∀u∈r.cells,u.oneCell'=true:=by intro u hu;simp only[cF.cells,a8.cells,bS,bn,aO,dn,or_false]at hu;rcases hu with rfl|rfl|rfl|rfl|rfl|rfl|rfl|rfl|rfl<;>rfl
theorem FV{b:az}(hF:aQ w b c ps)(hm:Marks (aw ps))(hW:lB w Bw b ps.length c)(ka:az)(kl kc at_ cn d D:Nat)(hD:D=d+1){xs:List a8}(sV:d<=100)(hr:iy (aw ps) at_ (cz xs))(ho:(Nd.inner xs).Ok):
 Calls Tryz.prog 195 (BY (zp Bw) (.agg (tM ka kl kc at_ cn D))) w λ e w'=>∃(ys:List a8) (a:az) (k:Nat),(ys.map a8.key=xs.map a8.key/\ys.map a8.at_=xs.map a8.at_/\ys.map a8.count=xs.map a8.count)/\e= .returned (.slice a ys.length k)/\FR w' w a k (ys.map λ y=>⟨y,d⟩)/\Below w w w':=by
 obtain⟨w1,bY⟩:=bL (w.alloc (.cells (tM ka kl kc at_ cn D) 273));have cN:Below w w w1:=by rw[bY];go_grown
 have HL:=ag (yv (hF.below cN) hm (hW.below cN) ka kl kc at_ cn D (n:=.inner xs) (by simp[Nd.is];omega) hr ho);have kH:w1.heap[w.heap.size]? =some (.cells (lW ka kl kc at_ cn D) 273):=qK bY;have Cv:=aF (W:=w1) (B:=w.heap.size) (cs:=(lW ka kl kc at_ cn D)) (t:=273) kH;have gC:w1.heap.size=w.heap.size+1:=by rw[bY];simp
 have Rs:=gM.mE ho;have H1:=oT cN bY gC kH;rw[bY]at HL Cv;have HD:=ag hD;clear hD hF hm hW hr ho bY cN gC kH;go_enter Tryz.func195,Tryz.ntmps195
 go_wp2_with first
  |(refine dG 273 ?_)
  |((with_reducible refine HL.O.mono ?_);rintro e w3 ⟨m,a,k,gl,rfl,hR,cu⟩;rw[<-H1.O.2.1]at cu hR;rcases m with ys|ys
    ·exact gl.elim
    have HR:=eS gl (Nd.R.zT (n:=.inner ys) hR H1.O.1.size) (H1.O.1.T (cu.mono H1.O.1.size));have HN:=ag ((cu.block w (cm H1.O.2.2.1)).T H1.O.2.2.2);simp only[Nd.v,Nd.is,Nd.a1,Nd.n1,Nd.k1,Nd.a2,Nd.n2,Nd.k2];have ads:∀W,(Instr.field 147 (.agg (pU a ys.length k)) 2).run Tryz.prog W= .ok (.slice a ys.length k) W:= λ W=>bU;have AU:ys.length<=6:=by have:=congrArg List.length gl.1;simp at this;omega
    clear gl hR cu)
  |fail
 have SW:(ys.length:Int)<=6:=an
 go_loopw [5,13] (λ rv iv wr=>∃(j:Nat) (q:az) (k':Nat),j<=ys.length/\iv= .int .i64 (j:Int)/\rv= .slice q j k'/\Hid (wr.ownsRow w3 273 9 (.slice q j k') j (((ys.take j).map λ y=>(⟨y,d⟩:cF)).flatMap cF.cells))/\Hid (Below w3 w3 wr)) (λ _ iv _=>ys.length - (intOf iv).toNat)
 case atStart=>exact⟨0,none,0,an,rfl,rfl,ag (dA _ _ _ _),ag (gb)⟩
 case round=>
  obtain⟨j,q,k',hj,rfl,rfl,bA,hB⟩:=hrel;by_cases cL:j<ys.length
  ·obtain⟨y,hy⟩:∃y,ys[j]? =some y:=⟨ys[j],by simp[cL]⟩;have mU:cV a8.cells 8 w3 a ys:=(lx.at HR.O.2.1).1;obtain⟨B,o,rfl⟩:=mU.some_ an;have hg:wr.rangeAt B (o+j*8) (jl y.ka y.key.length y.kc y.at_ y.count):=(mU.below hB.O).get hy;have mn:(j:Int)<(ys.length:Int):=an;have zP:(j:Int)<=6:=an;obtain⟨V,hV⟩:=bL (wr.alloc (.cells (jl y.ka y.key.length y.kc y.at_ y.count) 144));have hBV:Below w3 w3 V:=by rw[hV];exact hB.O.alloc hB.O.size _
   have ru:=aF (W:=V) (B:=wr.heap.size) (cs:=(jl y.ka y.key.length y.kc y.at_ y.count)) (t:=144) (qK hV);have r8:V.cell? (za w 8)=some (.int .i64 (D:Int)):=carry hBV ((af HN.O 8).T rfl);have hd1:IntKind.i64.wrap ((D:Int) - 1)=(d:Int):=by have:=HD.O;rw[aI];omega
   have abc:V.ownsRow w3 273 9 (.slice q j k') j (((ys.take j).map λ y=>(⟨y,d⟩:cF)).flatMap cF.cells):=by rw[hV];exact bA.O.alloc _
   obtain⟨g',c',w',eh,It,ti⟩:∃g' c' w',(Builtin.append_ #[277,277] 277 (fP q j k' (zp V) 1 1)).run Tryz.prog (V.alloc (.cells (lW y.ka y.key.length y.kc y.at_ y.count d) 273))= .ok (.slice (zp g') (j+1) c') w'/\_/\_:=gR (P:=Tryz.prog) 277 273 (.agg U4) 9 88 bU FT rfl de (cF.cells ⟨y,d⟩) rfl (FU _) abc an an hBV.size;have PK:Hid (w'.ownsRow w3 273 9 (.slice (zp g') (j+1) c') (j+1) (((ys.take (j+1)).map λ y=>(⟨y,d⟩:cF)).flatMap cF.cells)/\Below w3 w3 w'):=ag ⟨by rw[aL,hy];simpa using It,hBV.T ti.below⟩;have Hq:V.heap.size=wr.heap.size+1:=by rw[hV];simp
   rw[Hq]at eh;rw[hV]at ru r8 eh;clear hy mU cL hBV abc It ti hV Hq
   go_wp2_with first
    |(refine dG 144 ?_)
    |(refine lU 144 ?_)
    |fail
   exact⟨⟨j+1,_,_,an,by simp,rfl,ag PK.O.1,ag PK.O.2⟩,by simp[intOf];omega⟩
  ·obtain rfl:j=ys.length:=an
   go_wp2_with fail
   go_ret;have hr:=bA.O;rw[bd]at hr;have kA:=HR.O.2.2.size;refine⟨ys,q,k',HR.O.1,rfl,⟨?_,?_⟩,HR.O.2.2.T (hB.O.mono kA)⟩
   ·rw[aR];exact me hr kA
   ·intro r hr;obtain⟨y,hy,rfl⟩:=aM.1 hr;have:=HR.O.2.1.2 y hy;exact⟨this.1.below hB.O,this.2⟩
end
section
attribute [-go_sem] Builtin.append_
theorem Ad{α β γ:Type}{f:α->γ}{g:β->γ}{xs:List α}{ys:List β}(h:ys.map g=xs.map f){y:β}(hy:ys[j]? =some y):∃x,xs[j]? =some x/\f x=g y:=by
 have:=congrArg (·[j]?) h;simp only[aW,hy,eM]at this;cases hx:xs[j]? with
 |none=>rw[hx]at this;cases this
 |some x=>rw[hx]at this;exact⟨x,rfl,(fp this).symm⟩
theorem PS{t:DW}{J Jx:List aH->World->Prop}(ve:KM t w0 D N J Jx full)(h8:d<8)(ih:Ni t w0 J Jx full d):Ni t w0 J Jx full (d+1):=by
 intro at_ n m items V eE k a la last lc told pre jn gl hR nH htw Db Dm tG pP;cases n with
 |leaf xs=>exact jn.elim
 |inner xs=>
 obtain⟨sQ,kD,fD,zO,wE,abe⟩:=jn;obtain⟨ys,rfl,aco,PT,adt⟩:=Te gl;have Rs:ys.length<=6:=(gM.same kD ⟨aco,PT,adt⟩).1.mE;have AU:ys.length=xs.length:=by have:=congrArg List.length aco;simpa using this
 have mU:at_<524288:=aA sQ.lt ve.hF.small;subst wE;have HK0:∀(i:Nat) (y:a8) (s:List KV),ys[i]? =some y->fD[i]? =some s->y.at_<at_/\∃n:Nd,3<=n.Ax/\y.count=n.red/\n.keys[0]? =some y.key/\jH (aw t.ps) d n y.at_ s:= λ i y s hy hs=>by obtain⟨x,hx,e1⟩:=Ad aco hy;obtain⟨x2,jP,e2⟩:=Ad PT hy;obtain⟨x3,uX,e3⟩:=Ad adt hy;rw[hx]at jP uX;cases jP;cases uX;rw[<-e1,<-e2,<-e3];exact abe i x s hx hs
 have LM:∀(j:Nat) (s:List KV),fD[j]? =some s->∃kv r,s=kv::r/\(ys.map a8.key)[j]? =some kv.1:= λ j s hs=>by
  obtain⟨y,hy⟩:∃y,ys[j]? =some y:=⟨ys[j]'(by have:=(aC.1 hs).1;omega),by simp⟩;obtain⟨_,n,_,_,hk,To⟩:=HK0 j y s hy hs;obtain⟨kv,r,e1,e2⟩:=To.first
  rw[e2]at hk;exact⟨kv,r,e1,by rw[aW,hy];exact hk.symm⟩
 obtain⟨V1,so⟩:=bL (V.alloc (.cells (pU a ys.length k) 147));have cN:Below V V V1:=by rw[so];go_grown
 have IK:V1.heap[V.heap.size]? =some (.cells (pU a ys.length k) 147):=qK so;obtain⟨WI,zK⟩:=htw.below cN;have WJ:Safe t.Y t.B V1 V.heap.size:=htw.fresh cN _ (cH) (cS IK).1;have vb:Hid (∀W,Lets w0 t.Y t.B V1 W->W.heap[V.heap.size]? =some (.cells (pU a ys.length k) 147)):=ag λ W h=>h.mo WJ IK;have HR:Hid (∀W,Lets w0 t.Y t.B V1 W->lx W eE a k ys):=ag λ W h=>Nd.R.lets (zK.T h) nH (n:=.inner ys) hR;have LK:Hid (Told t w0 V1 J pre last told [] V1):=ag ⟨Lets.refl _ _ _ _,la,last,lc,told,WI,⟨[],rfl,by rw[cj];exact ve.hJ _ _ _ Db (iB.bH cN)⟩, λ key h _=>h⟩;have HBT:Hid (∀l W W',Told t w0 V1 J pre last told l W->Below W W W'->Told t w0 V1 J pre last told l W'):=ag λ l W W' h hb=>h.below ve.hJ hb;have WU:Hid (∀(i:Nat) (l:List KV) (W:World),i<ys.length->Told t w0 V1 J pre last told l W->Calls Tryz.prog 125 (ZV (zp t.Bw) (.agg (pU a ys.length k)) i) W λ e w'=>e= .returned (.bool (O2 t.l (ys.map a8.key) i))/\Below W W w'):=ag λ i l W hi h=>by obtain⟨hl,IJ,mh,KL,mH,lA, -⟩:=h;exact abM lA.walk ⟨ve.hl.1.below lA.base,ve.hl.2.below lA.base⟩ (HR.O W hl).at an i hi none 0 0
 have HSK:Hid (∀(i:Nat) (s:List KV) (W:World),fD[i]? =some s->O2 t.l (ys.map a8.key) i=false->Told t w0 V1 J pre last told (fD.take i).flatten W->Told t w0 V1 J pre last told (fD.take (i+1)).flatten W):=ag λ i s W hs hk h=>by rw[Js fD i s hs];exact h.skip (Tc hs pP LM (by rw[aR,AU];exact zO) hk)
 have HKD:Hid (∀(i:Nat) (y:a8) (s l:List KV) (W:World),ys[i]? =some y->fD[i]? =some s->Told t w0 V1 J pre last told l W->Calls Tryz.prog 126 #[.pointer (zp t.Bw),y.v,.int .i64 (d:Int),.int .i64 (at_:Int)] W λ e w'=>∃(n m:Nd) (a:az) (k:Nat),jH (aw t.ps) d n y.at_ s/\m.wK n/\e= .returned (.tuple #[m.v a k,.bool true])/\m.R w' W a k/\Below W W w'):=ag λ i y s l W hy hs h=>by obtain⟨hl,IJ,mh,KL,mH,lA, -⟩:=h;obtain⟨h1,n,h2,h3,h4,h5⟩:=HK0 i y s hy hs;obtain⟨q1,q2,q3⟩:=h5.node;refine(aaj lA.walk (ve.hF.below lA.base) ve.hm y ((HR.O W hl).2 y (ak hy)).1 at_ d q3 q1 q2 h1 h2 h3 h4).mono ?_;rintro e w' ⟨m,a,k,h6,h7,h8,h9⟩;exact⟨n,m,a,k,h5,h6,h7,h8,h9⟩
 have Zs:Hid (∀(i:Nat) (s:List KV) (W W3:World),fD[i]? =some s->Told t w0 V1 J pre last told (fD.take i).flatten W->Below W W W3->∀(y:a8) (n m:Nd) (a:az) (k:Nat),jH (aw t.ps) d n y.at_ s->m.wK n->m.R W3 W a k->
  Calls Tryz.prog 123 #[m.v a k,.int .i64 (y.at_:Int),.int .i64 (d:Int),.pointer (zp t.B1),.pointer (zp t.B2),.pointer (zp t.B3)] W3 λ e W'=>
  ∃r,e= .returned (.bool r)/\Hid ((r=true->Told t w0 V1 J pre last told (fD.take (i+1)).flatten W')/\(r=false->Cut t w0 V1 Jx full W'))):=ag λ i s W W3 hs h hb y n m a k h1 h2 h3=>by
  rw[Js fD i s hs];rw[FN fD i s hs]at pP Dm tG;exact Told.next ve.hJ ih h hb h1 h2 h3 pP Dm tG
 have ly:Hid (∀W,Told t w0 V1 J pre last told fD.flatten W->Told t w0 V J pre last told fD.flatten W):=ag λ W h=>⟨zK.T h.1,h.2⟩;have E4:Hid (∀W,Cut t w0 V1 Jx full W->Cut t w0 V Jx full W):=ag λ W h=>⟨zK.T h.1,h.2⟩;have wP:Hid (fD.length=ys.length):=ag an;unfold Nd.v Nd.is Nd.a1 Nd.n1 Nd.k1 Nd.a2 Nd.n2 Nd.k2;dsimp only;have VH:(ys.length:Int)<=6:=an;have hdz:(((d+1:Nat):Int)==0)=false:=dU;have ai6:((d:Int)+1==0)=false:=dU;have hd1:IntKind.i64.wrap ((d:Int)+1 - 1)=(d:Int):=by rw[aI];omega
 have hd8:(d:Int)<8:=an;have hwd:IntKind.i64.wrap (d:Int)=(d:Int):=by rw[aI];omega
 have abf:((d+1:Nat):Int)=(d:Int)+1:=an;rw[abf];clear gl hR nH htw Db Dm tG pP kD aco PT adt WI zK WJ cN IK ve Rs sQ zO abe HK0 LM AU ih abf;unfold a8.v SP at HKD;subst so;go_enter Tryz.func123,Tryz.ntmps123
 go_wp2_with fail
 go_step3
 go_wp2_with fail
 go_step3
 go_wp2_with fail
 go_loopw [22] (λ iv wr=>∃i:Nat,i<=ys.length/\iv= .int .i64 (i:Int)/\Hid (Told t w0 (V.alloc (.cells (pU a ys.length k) 147)) J pre last told (fD.take i).flatten wr)) (λ iv _=>ys.length - (intOf iv).toNat)
 case atStart=>exact⟨0,aD _,rfl,LK⟩
 case round=>
  obtain⟨i,hi,rfl,ma⟩:=hrel;by_cases cL:i<ys.length
  ·obtain⟨y,hy⟩:∃y,ys[i]? =some y:=⟨ys[i],by simp[cL]⟩;obtain⟨s,hs⟩:∃s,fD[i]? =some s:=⟨fD[i]'(by rw[wP.O];exact cL),by simp⟩;have SK:((i:Int)<(ys.length:Int)):=an;have hi6:(i:Int)<=6:=an;have HI:=ag (WU.O i _ wr cL ma.O);obtain⟨C,o,rfl,hc⟩:∃C o,a=some ⟨C,o,none⟩/\∀(j:Nat) (v:Value),y.cells[j]? =some v->wr.cell? ⟨C,o+i*8+j,none⟩=some v:=by
    obtain⟨hl, -⟩:=ma.O;rcases(HR.O wr hl).at.1 with h0|⟨C,o,e,hc⟩
    ·rw[h0]at cL;simp at cL
    ·exact⟨C,o,e, λ j v hv=>hc i y hy j v hv⟩
   have HF:Hid (∀W,Below wr wr W->(W.cell? (za V 0)=some (.bool false)/\W.cell? (za V 1)=some (.slice none 0 0)/\W.cell? (za V 2)=some (.slice (some ⟨C,o,none⟩) ys.length k))/\W.cell? (za t.B1 0)=some (.pointer (zp t.Bw))/\W.cell? (za t.Bw 8)=some (.bool false)/\W.cell? (za t.B3 0)=some (Dl t.B1 t.B2 t.B3)/\
    (W.cell? ⟨C,o+i*8,none⟩=some (.slice y.ka y.key.length y.kc)/\W.cell? ⟨C,o+i*8+1,none⟩=some (.int .i64 (y.at_:Int))/\W.cell? ⟨C,o+i*8+2,none⟩=some (.int .i64 (y.count:Int))/\W.cell? ⟨C,o+i*8+3,none⟩=some (.int .i64 0)/\W.cell? ⟨C,o+i*8+4,none⟩=some (.int .i64 0)/\W.cell? ⟨C,o+i*8+5,none⟩=some (.int .u64 0)/\W.cell? ⟨C,o+i*8+6,none⟩=some (.int .i64 0)/\W.cell? ⟨C,o+i*8+7,none⟩=some (.int .i64 0))):=ag λ W hb=>by
    obtain⟨hl,IJ,mh,KL,mH,lA, -⟩:=ma.O;have bx:=m8 ((hb.block _ (cS (vb.O wr hl)).1).T (vb.O wr hl));exact⟨bx,carry hb (dx lA.b1),carry hb ((af lA.walk 8).T rfl),carry hb (dx lA.b3),carry hb (hc 0 _ rfl),carry hb (hc 1 _ rfl),carry hb (hc 2 _ rfl),carry hb (hc 3 _ rfl),carry hb (hc 4 _ rfl),carry hb (hc 5 _ rfl),carry hb (hc 6 _ rfl),carry hb (hc 7 _ rfl)⟩
   unfold Dl at HF;clear hc;obtain⟨⟨n0,n1,n2⟩,p1,tu,p3,c0,c1,c2,c3,c4,c5,c6,c7⟩:=HF.O wr (gb);cases hink:O2 t.l (ys.map a8.key) i with
   |false=>
    go_wp2_with first
     |((with_reducible refine HI.O.mono ?_);rintro e w2 ⟨rfl,bG⟩;rw[hink])
     |fail
    go_roundw
    case rel=>exact⟨i+1,an,by simp,ag (HSK.O i s _ hs hink (HBT.O _ _ _ ma.O bG))⟩
    case measure=>simp[intOf];omega
   |true=>
    go_wp2_with first
     |((with_reducible refine HI.O.mono ?_);rintro e w2 ⟨rfl,bG⟩;rw[hink];have eJ:=ag bG;clear n0 n1 n2 p1 tu p3 c0 c1 c2 c3 c4 c5 c6 c7;obtain⟨⟨n0,n1,n2⟩,p1,tu,p3,c0,c1,c2,c3,c4,c5,c6,c7⟩:=HF.O w2 bG;clear bG)
     |fail
    refine bP 16 ?_;refine tP [0,1,2,3,4,5,6,7,8] ?_
    iterate 9 refine tO ?_
    refine au 7 rfl ?_;refine G6 9 13 [0,1,2,3,4,5,6,7,8] [] (λ K hK=>?_) λ K hK=>?_;go_simp;(with_reducible refine(HKD.O i y s _ _ hy hs (HBT.O _ _ _ ma.O eJ.O.drew)).mono ?_);rintro e w3 ⟨n,m,a2,k2,To,gl,rfl,wE,cu⟩;have ek:=ag (eJ.O.drew.T (cu.mono eJ.O.size));have qb:=ag (wE.zT (eE:=wr.heap.size) eJ.O.size);have S4:=ag cu;have Cw:=ag gl;have HSB:=ag To;unfold Nd.v;clear wE cu gl To;clear n0 n1 n2 p1 tu p3 c0 c1 c2 c3 c4 c5 c6 c7;obtain⟨⟨n0,n1,n2⟩,p1,tu,p3,c0,c1,c2,c3,c4,c5,c6,c7⟩:=HF.O _ ek.O;refine nP hK ?_;clear hK K;refine tP [10,11,12] ?_
    iterate 3 refine tO ?_
    refine au 3 rfl ?_;refine sP 13 [0,1,2,3,4,5,6,7,8] λ K hK=>?_;go_simp;have Nc:=ag (ek.O.alloc ek.O.size (.cells jR 147));clear n0 n1 n2 p1 tu p3 c0 c1 c2 c3 c4 c5 c6 c7;obtain⟨⟨n0,n1,n2⟩,p1,tu,p3,c0,c1,c2,c3,c4,c5,c6,c7⟩:=HF.O _ Nc.O;refine nP hK ?_;clear hK K;refine sP 14 [0,1,2,3,4,5,6,7,8,9,10,11,13] λ K hK=>?_;go_simp;refine nP hK ?_;clear hK K;refine tP [15] ?_;refine tO ?_;refine au 0 rfl ?_;refine dP ?_;go_simp;obtain⟨W,hW⟩:=bL (w3.alloc (.cells (oS m.is (m.a1 a2) m.n1 (m.k1 k2) (m.a2 a2) m.n2 (m.k2 k2)) 147));obtain⟨A,hA⟩:=bL w3.heap.size;have HA:Hid (W.heap[A]? =some (.cells (oS m.is (m.a1 a2) m.n1 (m.k1 k2) (m.a2 a2) m.n2 (m.k2 k2)) 147)):=ag zu;have r7:Hid (Below wr wr W):=ag zv;have S7:Hid (m.R W wr a2 k2):=ag EM;rw[<-hW,<-hA];clear Nc hW hA qb S4 ek;rotate_left;go_simp;have uG:=ag (eJ.O.alloc eJ.O.size (.cells jR 147));clear n0 n1 n2 p1 tu p3 c0 c1 c2 c3 c4 c5 c6 c7;obtain⟨⟨n0,n1,n2⟩,p1,tu,p3,c0,c1,c2,c3,c4,c5,c6,c7⟩:=HF.O _ uG.O;refine nP hK ?_;clear hK K;refine sP 9 [0,1,2,3,4,5,6,7,8] λ K hK=>?_;go_simp;(with_reducible refine(HKD.O i y s _ _ hy hs (HBT.O _ _ _ ma.O uG.O.drew)).mono ?_);rintro e w3 ⟨n,m,a2,k2,To,gl,rfl,wE,cu⟩;have ek:=ag (uG.O.drew.T (cu.mono uG.O.size));have qb:=ag (wE.zT (eE:=wr.heap.size) uG.O.size);have S4:=ag cu;have Cw:=ag gl;have HSB:=ag To;unfold Nd.v;have hn:=(cu.block w2 cP).T (ai w2 (.cells jR 147));have m0:=(af hn 0).T rfl;have m1:=(af hn 1).T rfl;have m2:=(af hn 2).T rfl;have nf:=ax hn;have HN:=ag hn;simp only[cW]at m0 m1 m2;clear hn;clear wE cu gl To;clear n0 n1 n2 p1 tu p3 c0 c1 c2 c3 c4 c5 c6 c7;obtain⟨⟨n0,n1,n2⟩,p1,tu,p3,c0,c1,c2,c3,c4,c5,c6,c7⟩:=HF.O _ ek.O;refine nP hK ?_;clear hK K;refine tP [10,11,12] ?_
    iterate 3 refine tO ?_
    refine au 2 rfl ?_;refine sP 14 [0,1,2,3,4,5,6,7,8,9,10,11,13] λ K hK=>?_;go_simp;refine nP hK ?_;clear hK K;refine tP [15] ?_;refine tO ?_;refine au 0 rfl ?_;refine dP ?_;go_simp;obtain⟨A,hA⟩:=bL w2.heap.size;rw[<-hA]at HN;have WA:=eJ.O.size;rw[<-hA]at WA;have HA:=ag (FE (v0:=.bool m.is) (v1:=.slice (m.a1 a2) m.n1 (m.k1 k2)) (v2:=.slice (m.a2 a2) m.n2 (m.k2 k2)) HN.O);have r7:=ag (ek.O.T (mZ (v0:=.bool m.is) (v1:=.slice (m.a1 a2) m.n1 (m.k1 k2)) (v2:=.slice (m.a2 a2) m.n2 (m.k2 k2)) WA));have S7:=ag (qb.O.Di (λ j hj=>pf (v0:=.bool m.is) (v1:=.slice (m.a1 a2) m.n1 (m.k1 k2)) (v2:=.slice (m.a2 a2) m.n2 (m.k2 k2)) j hj) HN.O de de oW);rw[<-hA];obtain⟨W,hW⟩:=bL (((w3.setCell (za A 0) (.bool m.is)).setCell (za A 1) (.slice (m.a1 a2) m.n1 (m.k1 k2))).setCell (za A 2) (.slice (m.a2 a2) m.n2 (m.k2 k2)));rw[<-hW]at HA r7 S7;rw[<-hW];clear uG HN m0 m1 m2 nf hA WA hW qb S4 ek;rotate_left
    all_goals
     obtain⟨q0,q1,q2⟩:=m8 HA.O;clear n0 n1 n2 p1 tu p3 c0 c1 c2 c3 c4 c5 c6 c7;obtain⟨⟨n0,n1,n2⟩,p1,tu,p3,c0,c1,c2,c3,c4,c5,c6,c7⟩:=HF.O _ r7.O;have Rn:=ag (Zs.O i s wr W.drew hs ma.O r7.O.drew y n m a2 k2 HSB.O Cw.O (S7.O.below (ah _ W).drew));unfold Nd.v at Rn
     go_wp2_with fail
     refine bP 16 ?_;refine tP [0,1,2,3,4,5,6,7,8,9,10,11,12] ?_
     iterate 13 refine tO ?_
     refine au 3 rfl ?_;refine sP 13 [0,1,2,3,4,5,6,7,8,9,10,11,12] λ K hK=>?_;go_simp;(with_reducible refine Rn.O.mono ?_);rintro e w5 ⟨r,rfl,vt⟩;refine nP hK ?_;clear hK K;refine tP [14,15] ?_
     iterate 2 refine tO ?_
     refine au 0 rfl ?_;refine dP ?_;go_simp;cases r with
     |false=>
      exact wO
     |true=>
      go_wp2_with fail
      go_roundw
      case rel=>exact⟨i+1,an,by simp,ag (vt.O.1 qN)⟩
      case measure=>simp[intOf];omega
  ·obtain rfl:i=ys.length:=an;have vW:¬ ((ys.length:Int)<(ys.length:Int)):=an
   go_wp2_with fail
   go_ret;refine⟨true,rfl, λ _=>ly.O _ ?_, λ e=>by cases e⟩;have:=ma.O
   rwa [aY (eC wP.O)]at this
theorem Nt{t:DW}{w0:World}{D N:Nat}{J Jx:List aH->World->Prop}{full:List KV}(ve:KM t w0 D N J Jx full):∀d,d<=8->Ni t w0 J Jx full d
 |0,_=>Tb ve
 |d+1,h=>PS ve an (Nt ve d an)
def pj(Y:Nat->Prop)(B:Nat)(x:aH)(W:World):Prop:=B<W.heap.size/\sY Y B W x.ka x.key/\sY Y B W x.va x.val/\x.vc=x.val.length
theorem sY.kin{Y:Nat->Prop}{a:az}(h:sY Y B U a xs)(hk:iB D (·=Bw) U V)(hw:Y Bw)(hB:B<D)(hBU:B<U.heap.size)(dN:B≠Bw):sY Y B V a xs:=by
 have hr:rowOf B V=rowOf B U:=iO ((hk.eG B _ (br hBU) (.inl hB) dN).T (br hBU).symm);refine⟨?_, λ hx p e=>⟨(h.2 hx p e).1,(h.2 hx p e).2.1,by rw[hr];exact(h.2 hx p e).2.2⟩⟩;by_cases hx:xs=[]
 ·subst hx;exact ay.nil _ _
 ·exact qF h.1 hk λ p e hb=>(h.2 hx p e).1 (hb▸hw)
theorem pj.kin{Y:Nat->Prop}{B D Bw:Nat}{x:aH}{U V:World}(h:pj Y B x U)(hk:iB D (·=Bw) U V)(hw:Y Bw)(hB:B<D)(dN:B≠Bw):pj Y B x V:=⟨aA h.1 hk.size,h.2.1.kin hk hw hB h.1 dN,h.2.2.1.kin hk hw hB h.1 dN,h.2.2.2⟩
theorem sY.lets{Y Z:Nat->Prop}{a:az}(h:sY Y B U a xs)(hl:Lets n₀ Z B U V)(hz:∀k,Z k->Y k):sY Y B V a xs:=by refine⟨?_, λ hx p e=>(hl.more hz).safe (h.2 hx p e) (mG h.1 hx p e)⟩;exact FK (hl.more hz) h.1 h.2
theorem pj.lets{Y Z:Nat->Prop}{B n₀:Nat}{x:aH}{U V:World}(h:pj Y B x U)(hl:Lets n₀ Z B U V)(hz:∀k,Z k->Y k):pj Y B x V:=⟨aA h.1 hl.size,h.2.1.lets hl hz,h.2.2.1.lets hl hz,h.2.2.2⟩
def rz(l:qI)(items:List KV):List KV:=items.filter λ kv=>l.holds kv.1
abbrev vf(at_ d n:Nat):Array Value:=(qt at_ d n)
theorem F4{Ba Bt:Nat}{X:Nat->Prop}{b:az}(hF:aQ w0 b cb ps)(hm:Marks (aw ps))(hl:wF w0 l)(ht:fx (aw ps) at_ d c items)(yJ:Below w0 w0 w)
 (hw:w.heap[Bw]? =some (.cells (dL l b ps.length cb false none 0 0 false 0) 180))(ha:w.heap[Ba]? =some (.cells (iS (zp Bw)) 177))(sk:w.heap[Bt]? =some (.cells (vf at_ d c) 35))
 (hsw:Safe X B w Bw)(hsa:Safe X B w Ba)(hB:B<w.heap.size)(hX:∀k,X k->k<w.heap.size)(hr:∀k,rowOf B w=some k->k<w.heap.size)(KC:w0.heap.size<=Bw):
 Mt Tryz.prog 122 (oR (zp Ba) (zp Bt)) (λ x=>#[x.v]) (Lets w0 X B) (·=Bw) (KJ Bw l b ps.length cb) (λ pre=>pre.map fF<+:rz l items) (pj (λ k=>X k\/k=Bw) B) (λ s=>s.map fF=rz l items) w:=by
 intro n ll J Jx W hn qy hJ hJx hY h0;refine callsIn_wide.2 ?_;have ze:=(cS hw).1;have hBa:=(cS ha).1;have hwW:=(qy.block Bw ze).T hw;have haW:=(qy.block Ba hBa).T ha;have adu:=(qy.block Bt (cS sk).1).T sk;have hwB:w0.heap.size<=w.heap.size:=yJ.size;have WV:Below w0 w0 W:=yJ.T (qy.mono hwB);have dN:Ba≠Bw:=by rintro rfl;rw[hw]at ha;simp[dL]at ha
 obtain⟨V1,so⟩:=bL ((W.alloc (.cells #[.func (.yield ll) #[] #[]] 151)).alloc (.cells #[Dl Ba W (W+1)] 232));have cN:Below W W V1:=by rw[so];go_grown
 have eb:=bu (w2:=V1) (by rw[so];exact gb);have HF1:=ag (hF.below (WV.T (cN.mono WV.size)));have hrW:rowOf B W=rowOf B w:=iO (qy.block B hB);have HTW:Hid (∀V,Below V1 V1 V->Tw ⟨Bw,Ba,W.heap.size,W.heap.size+1,B,ll,X,l,b,cb,ps⟩ w0 V none [] 0 false):=ag λ V hb=>by
  have Mp:Below W W V:=cN.T (hb.mono cN.size);have mz:Below w w V:=qy.T (Mp.mono qy.size);have hrV:rowOf B V=rowOf B w:=iO (mz.block B hB);have Y4:∀k,W.heap.size<=k->Safe (λ k=>X k\/k=Bw) B V k:= λ k hk=>⟨λ e=>by rcases e with e|e;(have:=hX k e;have:=qy.size;omega);(have:=qy.size;omega),by have:=qy.size;omega,by rw[hrV];intro e;have:=hr k e;have:=qy.size;omega⟩
  exact{base:=WV.T (Mp.mono WV.size),walk:=(Mp.block Bw (cm qy.size)).T hwW,b1:=(Mp.block Ba (cm qy.size)).T haW,
        b2:=(hb.block _ (cS eb.1).1).T eb.1,b3:=(hb.block _ (cS eb.2).1).T eb.2,
        sw:=⟨hsw.1,hsw.2.1,by rw[hrV];exact hsw.2.2⟩,s1:=⟨λ e=>e.elim hsa.1 dN,hsa.2.1,by rw[hrV];exact hsa.2.2⟩,s2:=Y4 _ (cH),s3:=Y4 _ (bk _),
        hB:=aA hB mz.size,nw:=KC,hX:= λ k e=>by rcases e with e|e;exact aA (hX k e) mz.size;(rw[e];exact aA ze mz.size),
        hr:= λ k e=>by rw[hrV]at e;exact aA (hr k e) mz.size,FJ:=ay.nil _ _,WG:= λ e=>absurd rfl e}
 have WU:Hid (KM ⟨Bw,Ba,W.heap.size,W.heap.size+1,B,ll,X,l,b,cb,ps⟩ w0 W n J Jx (rz l items)):=ag ⟨hF,hm,hl,hJ, λ pre x W1 h1 h2 _ hb h3 h4 h5=>(hY pre x W1 h1 h2 ⟨hb,h3,h4,h5⟩)⟩;have HJ:=ag hJ;have HWW:=ag hwW;have HT:=ag ht;have c0:=carry cN (dx haW);have ct:= λ j=>af ((cN.block Bt (cS adu).1).T adu) j;have t0:=(ct 0).T rfl;have t1:=(ct 1).T rfl;have t2:=(ct 2).T rfl;have t3:=(ct 3).T rfl;have t4:=(ct 4).T rfl;have t5:=(ct 5).T rfl;have t6:=(ct 6).T rfl;have t7:=(ct 7).T rfl;simp only[cW]at t0 t1 t2 t3 t4 t5 t6 t7;have fW:=ag cN;have LG:=ag eb;have HBT:=ag t0;have aht:=ag t1;have HR0:=ag (λ h:items=[]=>S9 ((cN.block Bw (cm qy.size)).T hwW) HF1.O);have HR1:=ag (λ (nd:Nd) (h1:1<=at_) (h8:d<=8) (h3:nd.is=decide (d=0)) (h4:iy (aw ps) at_ nd.enc) (h5:nd.Ok)=>WD ((cN.block Bw (cm qy.size)).T hwW) HF1.O hm at_ d h1 h8 h3 h4 h5);unfold ij at HR0 HR1;have adv:=so;unfold Dl at adv;rw[adv]at c0 t0 t1 t2 t3 t4 t5 t6 t7;clear adv;have HH0:=ag h0;clear hF hm hl ht yJ hw ha sk hsw hsa hB hX hr KC hJ hJx hY ze hBa hwW haW adu hwB WV dN cN eb HF1 hrW qy ct h0 hn;by_cases he:items=[]
 ·have hz:=HT.O.none_ he;have hc:c=0:=by rw[HT.O.count,he];rfl
  obtain⟨rfl,rfl⟩:=hz;subst hc;have O0:=ag (HR0.O he);unfold Dl at so;rw[so]at O0;clear HR0 HR1 HTW WU;simp only[iY]at t0 t1 t2 O0;go_enter Tryz.func122,Tryz.ntmps122
  go_wp2_with first
   |((with_reducible refine O0.O.mono ?_);rintro e w2 ⟨rfl,bG⟩;rw[<-so]at bG;have eJ:=ag (fW.O.T (bG.mono fW.O.size));clear bG)
   |fail
  go_end0;have cu:Below W W (w2.alloc (.cells jR 147)):=eJ.O.alloc eJ.O.size _;exact⟨⟨_,rfl⟩,.inl ⟨[],by rw[he];rfl,HJ.O _ _ _ HH0.O (iB.bH cu)⟩,none,0,0,false,(cu.block _ (cS HWW.O).1).T HWW.O⟩
 ·obtain⟨h1,h8,nd,jn⟩:=HT.O.some_ he;obtain⟨q1,q2,q3⟩:=jn.node;have Y3:c=nd.red:=by rw[HT.O.count,jn.count]
  subst Y3;have O0:=ag (HR1.O nd h1 h8 q3 q1 q2);have HDA:=ag (Nt WU.O d h8);have ahu:=ag jn;unfold Dl at so;rw[so]at O0;clear HR0 HR1 jn q1 q2 q3 h1;go_enter Tryz.func122,Tryz.ntmps122
  go_wp2_with first
   |((with_reducible refine O0.O.mono ?_);rintro e w2 ⟨m,a,k,gl,rfl,hR,bG⟩;rw[<-so]at bG hR;have eJ:=ag bG;have cu:Below V1 V1 (w2.alloc (.cells (oS m.is (m.a1 a) m.n1 (m.k1 k) (m.a2 a) m.n2 (m.k2 k)) 147)):=bG.alloc bG.size _;have Zt:=ag (hR.below ((ah _ w2).alloc (cH) (.cells (oS m.is (m.a1 a) m.n1 (m.k1 k) (m.a2 a) m.n2 (m.k2 k)) 147)));have y0:=carry cu (dx LG.O.2);unfold Dl at y0;have y1:=carry cu HBT.O;have y2:=carry cu aht.O;have HFR:=ag ((HTW.O V1 (gb)).fresh cu);have Rn:=ag (HDA.O at_ nd m items _ V1 k a none [] 0 false [] ahu.O gl Zt.O HFR.O (HTW.O _ cu) (HJ.O _ _ _ HH0.O (iB.bH (fW.O.T (cu.mono fW.O.size)))) (by simp[DW.eG,rz]) (λ e=>by cases e) HT.O.zM);unfold Nd.v at Rn⊢;clear gl hR bG cu t0 t1 t2 t3 t4 t5 t6 t7 c0)
   |((with_reducible refine Rn.O.mono ?_);rintro e w4 ⟨r,rfl,h1,h2⟩)
   |fail
  go_end0;cases r with
  |true=>
   obtain⟨-,IJ,mh,KL,mH,lA,⟨yU,DX,hj⟩, -⟩:=h1 rfl;exact⟨⟨_,rfl⟩,.inl ⟨yU,DX,by simpa using hj⟩,_,_,_,_,lA.walk⟩
  |false=>
   obtain⟨-,⟨IJ,mh,KL,mH,lA⟩,hp⟩:=h2 rfl;exact⟨⟨_,rfl⟩,.inr hp,_,_,_,_,lA.walk⟩
end
section
attribute [local go_sem] Oper.semAt_some
attribute [-go_sem] Builtin.append_
theorem Jv(Bw at_ d n:Nat)(w:World):Calls Tryz.prog 90 (BY (zp Bw) (.agg (vf at_ d n))) w λ e w'=>
 e= .returned (.func (.func 122) #[] (oR (zp w) (zp (w+1))))/\w'=(w.alloc (.cells (iS (zp Bw)) 177)).alloc (.cells (vf at_ d n) 35):=by
 go_enter Tryz.func90,Tryz.ntmps90
 go_wp2_with fail
 go_ret;exact⟨rfl,rfl⟩
def Eb:qI:=⟨none,[],0,false,none,[],0⟩
theorem Ae{b:az}(hF:aQ w b cb ps)(hm:Marks (aw ps))(ht:fx (aw ps) at_ d c items):
 Calls Tryz.prog 49 #[bN b ps.length cb,ij at_ d c] w λ e w'=>e= .returned (.int .i64 0)/\Below w w w':=by
 obtain⟨w1,bY⟩:=bL (((w.alloc (.cells (fA b ps.length cb) 31)).alloc (.cells (vf at_ d c) 35)).alloc (.cells (dL Eb b ps.length cb false none 0 0 false 0) 180));have cN:Below w w w1:=by rw[bY];go_grown
 obtain⟨w2,fH⟩:=bL ((w1.alloc (.cells (iS (zp (w+1+1))) 177)).alloc (.cells (vf at_ d c) 35));have bG:Below w1 w1 w2:=by rw[fH];exact((ah _ w1).alloc (cH) _).alloc cP _
 have s1:w1.heap.size=w.heap.size+1+1+1:=by rw[bY];simp
 have mz:=(bG.block (w+1+1) an).T (show w1.heap[w.heap.size+1+1]? =some (.cells (dL Eb b ps.length cb false none 0 0 false 0) 180)by
  rw[bY];have:=ai ((w.alloc (.cells (fA b ps.length cb) 31)).alloc (.cells (vf at_ d c) 35)) (.cells (dL Eb b ps.length cb false none 0 0 false 0) 180);simpa using this)
 have hbf:=(bG.block w an).T (show w1.heap[w.heap.size]? =some (.cells (fA b ps.length cb) 31)by
  rw[bY];exact(aT _ _ _ dU).T ((aT _ _ _ cP).T (ai w _)))
 have jP:=bu (w2:=w2) mO;have A4:Below w w w2:=cN.T (bG.mono cN.size);have hr:rowOf w w2=none:=by unfold rowOf;rw[hbf];rfl
 have s2:w2.heap.size=w.heap.size+1+1+1+1+1:=by rw[fH];simp[s1]
 have IN:=ag (F4 (w0:=w) (w:=w2) (Bw:=w.heap.size+1+1) (Ba:=w1.heap.size) (Bt:=w1.heap.size+1) (B:=w.heap.size) (X:= λ _=>False) (l:=Eb) hF hm ⟨ay.nil _ _,ay.nil _ _⟩ ht A4 mz jP.1 jP.2
  ⟨id,an,by rw[hr];simp⟩ ⟨id,an,by rw[hr];simp⟩ an (λ _ h=>h.elim) (λ k h=>by rw[hr]at h;cases h) an)
 have VM:=ag s2;have adw:=ag A4;have HI:Hid (Calls Tryz.prog 90 (BY (zp (w+1+1)) (.agg (vf at_ d c))) w1 λ e w'=>e= .returned (.func (.func 122) #[] (oR (zp w1) (zp (w1+1))))/\w'=w2):=ag (by rw[fH];exact Jv _ _ _ _ _);have gC:=s1;obtain⟨M,hM⟩:=bL w1.heap.size;rw[<-hM]at HI IN s1;rw[bY]at HI;unfold dL Eb at bY HI;simp only[bK]at bY HI;unfold bN ij;clear hF hm ht cN bG mz hbf jP A4 hr s2 fH;refine(callsIn_wide (n:=5)).1 ?_;refine callsIn_of_wp_marks Tryz.func49 rfl trivial ?_ rfl;simp only[Tryz.ntmps49,UD,Nat.reduceAdd,Nat.reduceSub];refine wpIn_wide.2 ?_
 go_wp2_with first
  |((with_reducible refine HI.O.mono ?_);rintro e w3 ⟨rfl,gV⟩;rw[gV];clear gV w3)
  |fail
 rw[s1]at IN;have s2:=VM.O;clear HI;refine(wpIn_wide (n:=5)).1 ?_;refine aan (n:=5) an rfl (enters_of Tryz.func122 bU rfl) IN.O (λ x A B h hk=>pj.kin h hk (.inr rfl) an an) Lets.T (vU an an) (λ k h=>by subst h;omega)
  (λ _ W=>Below w w W) (λ _ _ _=>False) (λ s A B h hk=>ni h hk an (λ k h1 h2=>an) (cH)) (λ _ _ _ _ h _=>h) ?hE adw.O ?assign ?body ?done (λ _ _ _ _ _ _ h=>h.elim)
 case hE=>
  rintro W l o o' hl ho hc ⟨la,ln,lc,told,h⟩;exact⟨la,ln,lc,told,(aV an).T h⟩
 case assign=>
  intro l x W K hK;gi_wp2;exact hK
 case body=>
  intro l pre x W h _ _
  gi_wp2_with fail
  exact⟨KeepsFrom.refl _ _,Lets.refl _ _ _ _,h⟩
 case done=>
  rintro D s W hD hs hI ⟨la,ln,lc,told,hw⟩ hK;have y:=(af hw 11).T rfl;simp only[dL,cW]at y;have HI:=ag hI;have HK:=ag hK;have HD:=ag hD;clear hI hw hs hK hD
  go_wp2_with fail
  refine⟨by simp,.inl ⟨_,_,rfl,run_takeDeferred HK.O,?_⟩⟩;exact⟨_,results_tmp rfl _ _ _,rfl,ld HI.O _ HK.O (cm HD.O)⟩
def Nv(W:World)(n₀:Nat)(a:az)(k:Nat)(ys:List aH):Prop:=W.ownsRow n₀ 101 4 (.slice a ys.length k) ys.length (ys.flatMap aH.cells)/\∀y∈ys,(ay W y.ka y.key/\ay W y.va y.val)/\y.vc=y.val.length
theorem Nv.below{W W':World}{n₀ k:Nat}{a:az}{ys:List aH}(h:Nv W n₀ a k ys)(hb:Below W W W'):Nv W' n₀ a k ys:=⟨dC.row hb h.1, λ y hy=>⟨⟨(h.2 y hy).1.1.below hb,(h.2 y hy).1.2.below hb⟩,(h.2 y hy).2⟩⟩
theorem Nv.at{a:az}(h:Nv W n₀ a k ys):ec W a ys:=qC h.1 λ y hy=>(h.2 y hy).1
theorem Nw{a:az}{xs:List Value}(h:W.ownsRow n₀ e sz (.slice a k c) k xs)(hb:Boxed W B t (.slice a k c))(hk:iB D (·=Bw) W W')(hr:rowOf B W≠some Bw):W'.ownsRow n₀ e sz (.slice a k c) k xs:=iF h λ g hg=>by
 rcases bg h with⟨h1,_⟩|⟨g2,cur,h1,_,jk⟩
 ·rw[hg]at h1;cases h1
 ·rw[hg]at h1;cases h1;subst hg;exact(hk.eG g _ jk (.inr rfl) (λ e=>hr (by rw[nh hb];exact congrArg some e))).T jk.symm
theorem Jw(hb:Boxed W B t v)(hk:iB D (·=Bw) W W')(dN:B≠Bw):rowOf B W'=rowOf B W:=iO ((hk.eG B _ hb (.inr rfl) dN).T hb.symm)
def vg(pX:Int)(xs:List KV):List KV:=if pX<0 then xs else xs.take pX.toNat
theorem wT(h:p:=by
 go_wp2_with fail
 refine⟨by simp,.inl ⟨_,_,rfl,run_takeDeferred HK.O,?_⟩⟩;exact⟨_,results_tmp2 rfl _ _ _,s,a,k,rfl,ly.O⟩
 ):p:=h
theorem Af{b:az}(hF:aQ w b cb ps)(hm:Marks (aw ps))(ht:fx (aw ps) at_ d c items)(hl:wF w l)(pX:Int)(abg:pX= -1\/1<=pX)(hlen:items.length<=1000):
 Calls Tryz.prog 50 #[bN b ps.length cb,ij at_ d c,l.v,.bool false,.int .i64 pX] w λ e w'=>∃(ys:List aH) (a:az) (k:Nat),e= .returned (.tuple (Lz a ys.length k))/\ys.map fF=vg pX (rz l items)/\Nv w' w a k ys/\Below w w w':=by
 obtain⟨n,hn⟩:=bL w.heap.size;obtain⟨w1,bY⟩:=bL ((((((w.alloc (.cells (fA b ps.length cb) 31)).alloc (.cells (vf at_ d c) 35)).alloc (.cells (U2 l.fa l.from_.length l.fc l.en l.ta l.to.length l.tc) 132)).alloc (.cells #[.int .i64 pX] 3)).alloc (.cells (dL l b ps.length cb false none 0 0 false 0) 180)).alloc (.cells J6 91));have cN:Below w w w1:=by rw[bY];go_grown
 obtain⟨w2,fH⟩:=bL ((w1.alloc (.cells (iS (zp (n+1+1+1+1))) 177)).alloc (.cells (vf at_ d c) 35));have bG:Below w1 w1 w2:=by rw[fH];exact((ah _ w1).alloc (cH) _).alloc cP _
 have s1:w1.heap.size=n+1+1+1+1+1+1:=by rw[bY,hn];simp
 have key:∀(w1:World) (n:Nat) (x:Obj),n=w1.heap.size->(w1.alloc x).heap[n]? =some x:= λ w1 n x e=>e▸ai w1 x;have mz:=(bG.block (n+1+1+1+1) an).T (show w1.heap[n+1+1+1+1]? =some (.cells (dL l b ps.length cb false none 0 0 false 0) 180)by
  rw[bY];exact(aT _ _ _ qO).T (key _ _ _ qO))
 have Az:=(bG.block (n+1+1+1+1+1) an).T (show w1.heap[n+1+1+1+1+1]? =some (.cells J6 91)by
  rw[bY];exact key _ _ _ qO)
 have hbm:=(bG.block (n+1+1+1) an).T (show w1.heap[n+1+1+1]? =some (.cells #[.int .i64 pX] 3)by
  rw[bY];exact(aT _ _ _ (by simp[<-hn]<;>omega)).T ((aT _ _ _ qO).T (key _ _ _ qO)))
 have jP:=bu (w2:=w2) mO;have A4:Below w w w2:=cN.T (bG.mono cN.size);have hr:rowOf (n+1+1+1+1+1) w2=none:=yo Az;have s2:w2.heap.size=n+1+1+1+1+1+1+1+1:=by rw[fH];simp[s1]
 have IN:=ag (F4 (w0:=w) (w:=w2) (Bw:=n+1+1+1+1) (Ba:=w1.heap.size) (Bt:=w1.heap.size+1) (B:=n+1+1+1+1+1) (X:= λ _=>False) (l:=l) hF hm hl ht A4 mz jP.1 jP.2
  ⟨id,an,by rw[hr];simp⟩ ⟨id,an,by rw[hr];simp⟩ an (λ _ h=>h.elim) (λ k h=>by rw[hr]at h;cases h) an)
 have VM:=ag s2;have adw:=ag A4;have HBO:=ag Az;have HBM:=ag hbm;have HI:Hid (Calls Tryz.prog 90 (BY (zp (n+1+1+1+1)) (.agg (vf at_ d c))) w1 λ e w'=>e= .returned (.func (.func 122) #[] (oR (zp w1) (zp (w1+1))))/\w'=w2):=ag (by rw[fH];exact Jv _ _ _ _ _);have zH:(pX==0)=false:=dU;obtain⟨M,hM⟩:=bL w1.heap.size;rw[<-hM]at HI IN s1;have Rz:=ag (show∀(pre:List aH),pre.map fF<+:rz l items->pre.length<=1000 from λ pre hp=>by have h1:=hp.length_le;have h2:(rz l items).length<=items.length:=List.length_filter_le _ _;simp at h1;omega)
 rw[bY]at HI;unfold dL at bY HI;have aet:=ag abg;unfold bN ij qI.v;clear hF hm ht cN bG mz Az hbm jP A4 hr s2 fH hl hlen abg key;subst hn;refine(callsIn_wide (n:=5)).1 ?_;refine callsIn_of_wp_marks Tryz.func50 rfl trivial ?_ rfl;simp only[Tryz.ntmps50,UD,Nat.reduceAdd,Nat.reduceSub];refine wpIn_wide.2 ?_
 go_wp2_with fail
 go_step3
 go_wp2_with fail
 go_step3
 go_wp2_with first
  |((with_reducible refine HI.O.mono ?_);rintro e w3 ⟨rfl,gV⟩;rw[gV];clear gV w3)
  |fail
 rw[s1]at IN;have s2:=VM.O;clear HI bY s1 hM;refine(wpIn_wide (n:=5)).1 ?_;refine aam (n:=5) 14 an rfl (enters_of Tryz.func122 bU rfl) IN.O (λ x A B h hk=>pj.kin h hk (.inr rfl) an an) Lets.T (vU an an) (λ k h=>by subst h;omega)
  (λ pre W=>(∃a k,Boxed W (w+1+1+1+1+1) 91 (.slice a pre.length k)/\W.ownsRow w 101 4 (.slice a pre.length k) pre.length (pre.flatMap aH.cells))/\Boxed W (w+1+1+1) 3 (.int .i64 pX)/\(∀x∈pre,pj (λ k=>False\/k=w.heap.size+1+1+1+1) (w+1+1+1+1+1) x W)/\Below w w W/\(0<=pX->(pre.length:Int)<pX)/\rowOf (w+1+1+1+1+1) W≠some (w.heap.size+1+1+1+1))
  (λ cd pre W=>cd= .exit 0/\0<=pX/\(pre.length:Int)=pX/\(∃a k,Boxed W (w+1+1+1+1+1) 91 (.slice a pre.length k)/\W.ownsRow w 101 4 (.slice a pre.length k) pre.length (pre.flatMap aH.cells))/\(∀x∈pre,pj (λ k=>False\/k=w.heap.size+1+1+1+1) (w+1+1+1+1+1) x W)/\Below w w W/\rowOf (w+1+1+1+1+1) W≠some (w.heap.size+1+1+1+1))
  ?hI ?hIx ?hE ?h0 (λ x U=>U.alloc (.cells x.cells.toArray 101)) (λ x U=>(ah _ U).alloc (cH) _) (λ x U h=>Lets.bH ((ah _ U).alloc (cH) _) an an) ?assign ?body ?done ?stop
 case hI=>
  rintro pre U V ⟨⟨a,k,h1,h2⟩,h3,h4,h5,h6,h8⟩ hk;exact⟨⟨a,k,mL h1 hk an,Nw h2 h1 hk h8⟩,mL h3 hk an, λ x hx=>(h4 x hx).kin hk (.inr rfl) an an,ni h5 hk an (λ k h1 h2=>an) (cH),h6,by rw[Jw h1 hk an];exact h8⟩
 case hIx=>
  rintro cd pre U V ⟨h0,h6,h7,⟨a,k,h1,h2⟩,h4,h5,h8⟩ hk;exact⟨h0,h6,h7,⟨a,k,mL h1 hk an,Nw h2 h1 hk h8⟩, λ x hx=>(h4 x hx).kin hk (.inr rfl) an an,ni h5 hk an (λ k h1 h2=>an) (cH),by rw[Jw h1 hk an];exact h8⟩
 case hE=>
  rintro W l o o' hl ho hc ⟨la,ln,lc,told,h⟩;exact⟨la,ln,lc,told,(aV an).T h⟩
 case h0=>exact⟨⟨none,0,HBO.O,by simp,.inl ⟨rfl,rfl⟩⟩,HBM.O, λ x hx=>(by cases hx),adw.O, λ h=>by rcases aet.O with h'|h'<;>simp<;>omega,by rw[yo HBO.O];simp⟩
 case assign=>
  intro l x W K hK;unfold aH.v yY at hK⊢;unfold aH.cells at hK;gi_wp2;simpa[aH.cells]using hK
 case body=>
  rintro ll pre x U W hU iU ⟨⟨a,k,h1,h2⟩,h3,h4,h5,h6,h8⟩ mD mU;obtain⟨q,hq⟩:=bL pre.length;have py:q+1<=1000:=by have:=Rz.O _ mD;simp at this;omega
  have hx:=iU U _ (ai U _) rfl;obtain⟨g',c',w1,eh,f1,f2,mM,bA,rl,hko,hkp⟩:=Fo (P:=Tryz.prog) 91 101 (.agg oH) 4 64 bU Tryz.mF rfl de de x.cells.toArray rfl (by simp[aH.cells,Value.oneCell']) h1 h2 an an h5.size an (λ _=>False);have nL:=tE h1 h2 h3 de;obtain⟨-,k3⟩:=hkp (w+1+1+1) h3.lt an nL;have m0:=h1.cell;have i0:=(af hx 0).T rfl;have i1:=(af hx 1).T rfl;have i2:=(af hx 2).T rfl;have i3:=(af hx 3).T rfl;have n0:=mM.cell;have n1:(w1.setCell (za (w+1+1+1+1+1) 0) (.slice (zp g') (pre.length+1) c')).cell? (za (w+1+1+1) 0)=some (.int .i64 pX):=du (show Boxed _ (w+1+1+1) 3 _ from k3.T h3);obtain⟨w3,gV⟩:=bL (w1.setCell (za (w+1+1+1+1+1) 0) (.slice (zp g') (pre.length+1) c'));rw[<-gV]at mM bA rl hko k3;have hlen:(pre++[x]).length=pre.length+1:=by simp
  have dK:pre.flatMap aH.cells++x.cells.toArray.toList=(pre++[x]).flatMap aH.cells:=by simp
  have jB:∀y∈pre++[x],pj (λ k=>False\/k=w.heap.size+1+1+1+1) (w+1+1+1+1+1) y w3:= λ y hy=>by
   rcases aG.1 hy with h|h
   ·exact(h4 y h).lets rl (λ _ h=>h.elim)
   ·rw[aE]at h;subst h;exact mU.lets rl (λ _ h=>h.elim)
  have ly:=ag (show KeepsFrom w2 W w3/\Lets w (λ _=>False) (w+1+1+1+1+1) W w3/\(∃a k,Boxed w3 (w+1+1+1+1+1) 91 (.slice a (pre++[x]).length k)/\w3.ownsRow w 101 4 (.slice a (pre++[x]).length k) (pre++[x]).length ((pre++[x]).flatMap aH.cells))/\Boxed w3 (w+1+1+1) 3 (.int .i64 pX)/\(∀y∈pre++[x],pj (λ k=>False\/k=w.heap.size+1+1+1+1) (w+1+1+1+1+1) y w3)/\Below w w w3/\rowOf (w+1+1+1+1+1) w3≠some (w.heap.size+1+1+1+1)from
   ⟨hko.from _,rl,⟨_,_,by rw[hlen];exact mM,by rw[hlen,<-dK];exact bA⟩,k3.T h3,jB,h5.T rl.below, λ e=>(rl.row _ e).elim h8 (λ h=>cm h1.lt)⟩)
  have nE:=ag gV;unfold aH.cells at eh i0 i1 i2 i3 hx;simp only[cW]at i0 i1 i2 i3;rw[<-hq]at eh m0 n0 n1 h6 gV;have hqi:(q:Int)<=1000:=an;have HQ:=ag hq;by_cases hmq:((q:Int)+1)=pX
  ·have hmb:((q:Int)+1==pX)=true:=by simpa using hmq
   have HMQ:=ag hmq;clear hmq h1 h2 h3 h4 h5 h6 h8 iU mD mU hx mM bA rl hko hkp nL k3 hlen dK jB gV hq hU;unfold aH.v yY
   gi_wp2_with fail
   have hz:=nE.O;rw[<-HQ.O]at hz;rw[<-hz];obtain⟨e1,e2,e3,e4,e5,e6,e7⟩:=ly.O;have hm9:=HMQ.O;have hq9:=HQ.O;exact⟨e1,e2,rfl,an,by simp;omega,e3,e5,e6,e7⟩
  ·have hmb:((q:Int)+1==pX)=false:=by simpa using hmq
   have HMQ:=dO hmq h6;clear hmq h1 h2 h3 h4 h5 h6 h8 iU mD mU hx mM bA rl hko hkp nL k3 hlen dK jB gV hq hU;unfold aH.v yY
   gi_wp2_with fail
   have hz:=nE.O;rw[<-HQ.O]at hz;rw[<-hz];obtain⟨e1,e2,e3,e4,e5,e6,e7⟩:=ly.O;have hm9:=HMQ.O;have hq9:=HQ.O;exact⟨e1,e2,e3,e4,e5,e6, λ h=>by have:=hm9.2 h;have:=hm9.1;simp;omega,e7⟩
 case done=>
  rintro D s W hD hs ⟨⟨a,k,h1,h2⟩,h3,h4,h5,h6,h8⟩ ⟨la,ln,lc,told,hw⟩ hK;have y:=(af hw 11).T rfl;simp only[dL,cW]at y;have m0:=h1.cell;have vt:s.map fF=vg pX (rz l items):=by
   unfold vg;by_cases yM:pX<0
   ·rw[if_pos yM];exact hs
   ·rw[if_neg yM,<-hs,aY];have:=h6 an;simp;omega
  have HK:=ag hK;have ly:=ag (show s.map fF=vg pX (rz l items)/\Nv (W.putObj D (.deferred none)) w a k s/\Below w w (W.putObj D (.deferred none))from
   ⟨vt,⟨Ep h2 (iB.putObj (D:=D) (M:= λ _=>False) W D _ _ (cH) hK rfl) (λ _ _ h=>h), λ x hx=>⟨⟨qF (h4 x hx).2.1.1 (iB.putObj (D:=D) (M:= λ _=>False) W D _ _ (cH) hK rfl) (λ _ _ h=>h),qF (h4 x hx).2.2.1.1 (iB.putObj (D:=D) (M:= λ _=>False) W D _ _ (cH) hK rfl) (λ _ _ h=>h)⟩,(h4 x hx).2.2.2⟩⟩,ld h5 _ hK an⟩)
  clear h1 h2 h3 h4 h5 h6 h8 hw hs vt hK;exact wT
 case stop=>
  rintro D cd s W hD hs ⟨rfl,h0,h7,⟨a,k,h1,h2⟩,h4,h5,h8⟩ ⟨la,ln,lc,told,hw⟩ hK;have y:=(af hw 11).T rfl;simp only[dL,cW]at y;have m0:=h1.cell;have vt:s.map fF=vg pX (rz l items):=by unfold vg;rw[if_neg an];obtain⟨r,hr⟩:=hs;rw[<-hr,df dU,aY dU]
  have HK:=ag hK;have ly:=ag (show s.map fF=vg pX (rz l items)/\Nv (W.putObj D (.deferred none)) w a k s/\Below w w (W.putObj D (.deferred none))from
   ⟨vt,⟨Ep h2 (iB.putObj (D:=D) (M:= λ _=>False) W D _ _ (cH) hK rfl) (λ _ _ h=>h), λ x hx=>⟨⟨qF (h4 x hx).2.1.1 (iB.putObj (D:=D) (M:= λ _=>False) W D _ _ (cH) hK rfl) (λ _ _ h=>h),qF (h4 x hx).2.2.1.1 (iB.putObj (D:=D) (M:= λ _=>False) W D _ _ (cH) hK rfl) (λ _ _ h=>h)⟩,(h4 x hx).2.2.2⟩⟩,ld h5 _ hK an⟩)
  clear h1 h2 h4 h5 h7 h8 hw hs vt hK;refine wpIn_wide.2 ?_;exact wT
end
section
attribute [-go_sem] Builtin.append_
theorem Nx:∀(a b:List Nat),0<=cmpL a b->(0<=cmpL a (b++[0])↔a≠b)
 |[],[],_=>by simp[cmpL]
 |[],_::_,h=>by simp[cmpL]at h
 |x::xs,[],_=>by
  simp only[bn,cmpL,ne_eq,reduceCtorEq,not_false_eq_true,iff_true];split
  ·omega
  ·split
   ·omega
   ·cases xs<;>simp[cmpL]
 |x::xs,y::ys,h=>by
  simp only[bS,cmpL]at h⊢;by_cases h1:x<y
  ·rw[if_pos h1]at h;omega
  ·rw[if_neg h1]at h⊢;by_cases h2:y<x
   ·rw[if_pos h2];simp only[ne_eq,eK,not_and];exact⟨λ _ e=>an, λ _=>an⟩
   ·rw[if_neg h2]at h⊢;rw[Nx xs ys h];have:x=y:=an;simp[this]
def WX(ka:az)(key:List Nat)(kc:Nat)(ta:az)(tc:Nat):qI:=⟨ka,key,kc,true,ta,key++[0],tc⟩
theorem Tp(ka:az)(key:List Nat)(kc:Nat)(ta:az)(tc:Nat)(k:List Nat):(WX ka key kc ta tc).holds k=decide (k=key):=by
 unfold qI.holds qI.ends WX;by_cases h:0<=cmpL k key
 ·have:=Nx k key h;by_cases hk:k=key
  ·have h2:¬ 0<=cmpL k (key++[0]):= λ e=>this.1 e hk;rw[hk]at h h2⊢;simp[h,h2]
  ·have h2:=this.2 hk;simp[h,hk,h2]
 ·have hk:k≠key:= λ e=>h (by rw[e,Jg];omega);simp[h,hk]
theorem WY(key:List Nat)(items:List KV)(ys:List aH)(h:ys.map fF=vg 1 (items.filter λ kv=>decide (kv.1=key))):(∃y,ys=[y]/\y.key=key/\fF y∈items)\/(ys=[]/\∀kv∈items,kv.1≠key):=by
 unfold vg at h;rw[if_neg de]at h;cases hf:items.filter λ kv=>decide (kv.1=key)with
 |nil=>
  rw[hf]at h;refine .inr ⟨by simpa using h, λ kv IL e=>?_⟩;have:kv∈items.filter λ kv=>decide (kv.1=key):=bT.2 ⟨IL,by simpa using e⟩;rw[hf]at this;cases this
 |cons kv r=>
  rw[hf]at h;have hm:kv∈items.filter λ kv=>decide (kv.1=key):=by rw[hf];simp
  rw[bT]at hm;cases ys with
  |nil=>simp at h
  |cons y ys=>
   simp at h;refine .inl ⟨y,by rw[h.2],?_,by rw[h.1];exact hm.1⟩;have:=hm.2;rw[<-h.1]at this;exact of_decide_eq_true this
theorem aao:(Tryz.prog.info? 5).map (λ i=>(i.zero,i.size,i.bytes))=some (some (.int .u8 0),1,1):=bU
def WZ:Value:=.agg oH
theorem CC{u x y:Value}{fz:Nat×Nat}(h:W.heap[B]? =some (.cells #[u,v,x,y] t fz)):W.cell? (za B 0)=some u/\W.cell? (za B 1)=some v/\W.cell? (za B 2)=some x/\W.cell? (za B 3)=some y:=⟨(af h 0).T rfl,(af h 1).T rfl,(af h 2).T rfl,(af h 3).T rfl⟩
theorem afs{a0 a1 a2 a3:Value}{fz:Nat×Nat}(h:W.heap[R]? =some (.cells #[a0,a1,a2,a3] t fz)):((((W.setCell (za R 0) v0).setCell (za R 1) v1).setCell (za R 2) v2).setCell (za R 3) v3).heap[R]? =some (.cells #[v0,v1,v2,v3] t fz):=by simpa using aU (j:=3) v3 (aU (j:=2) v2 (aU (j:=1) v1 (aU (j:=0) v0 h)))
theorem F5(j:Nat)(hj:j≠R):((((W.setCell (za R 0) v0).setCell (za R 1) v1).setCell (za R 2) v2).setCell (za R 3) v3).heap[j]? =W.heap[j]? :=
 (aq _ ⟨R,3,none⟩ v3 j hj).T ((aq _ ⟨R,2,none⟩ v2 j hj).T ((aq _ ⟨R,1,none⟩ v1 j hj).T (aq W ⟨R,0,none⟩ v0 j hj)))
theorem F6(h:n₀<=R):Below n₀ W ((((W.setCell (za R 0) v0).setCell (za R 1) v1).setCell (za R 2) v2).setCell (za R 3) v3):=
 ((((ah n₀ W).setCell (p:=(za R 0)) h _).setCell (p:=(za R 1)) h _).setCell (p:=(za R 2)) h _).setCell (p:=(za R 3)) h _
theorem W8{b:az}(hF:aQ w b cb ps)(hm:Marks (aw ps))(ht:fx (aw ps) at_ d c items)(hlen:items.length<=1000){ka:az}{key:List Nat}(kc:Nat)(hk:ay w ka key)(C1:1<=key.length)(u9:key.length<=1000)(tw:key.length<=kc):
 Calls Tryz.prog 65 #[bN b ps.length cb,ij at_ d c,.slice ka key.length kc] w λ e w'=>Below w w w'/\
  ((∃y:aH,y.key=key/\fF y∈items/\e= .returned (.tuple #[y.v,.int .i64 0])/\ay w' y.ka y.key/\ay w' y.va y.val/\y.vc=y.val.length)\/((∀kv∈items,kv.1≠key)/\e= .returned (.tuple #[WZ,.int .i64 4]))):=by
 obtain⟨B,o,rfl⟩:=zU hk C1;obtain⟨w1,bY⟩:=bL (((w.alloc (.cells (fA b ps.length cb) 31)).alloc (.cells (vf at_ d c) 35)).alloc (.cells oH 101));have cN:Below w w w1:=by rw[bY];go_grown
 have hx:=gT (w2:=w1) fq;have HF:Hid (∀W,Below w1 w1 W->(W.cell? (za w 0)=some (.slice none 0 0)/\W.cell? (za w 1)=some (.slice b ps.length cb)/\W.cell? (za w 2)=some (.int .i64 (-1))/\W.cell? (za w 3)=some (.int .i64 (-1))/\W.cell? (za w 4)=some (.bool false))/\(W.cell? (za (w+1) 0)=some (.int .i64 (at_:Int))/\W.cell? (za (w+1) 1)=some (.int .i64 (d:Int))/\W.cell? (za (w+1) 2)=some (.int .i64 (c:Int))/\W.cell? (za (w+1) 3)=some (.int .i64 0)/\W.cell? (za (w+1) 4)=some (.int .i64 0)/\W.cell? (za (w+1) 5)=some (.int .u64 0)/\W.cell? (za (w+1) 6)=some (.int .i64 0)/\W.cell? (za (w+1) 7)=some (.int .i64 0))/\W.heap[w.heap.size+1+1]? =some (.cells oH 101)):=ag λ W hb=>by obtain⟨h1,h2,h3⟩:=hx;have g1:=(hb.block _ (cS h1).1).T h1;have g2:=(hb.block _ (cS h2).1).T h2;exact⟨dF g1,⟨(af g2 0).T rfl,(af g2 1).T rfl,(af g2 2).T rfl,(af g2 3).T rfl,(af g2 4).T rfl,(af g2 5).T rfl,(af g2 6).T rfl,(af g2 7).T rfl⟩,(hb.block _ (cS h3).1).T h3⟩
 obtain⟨w2,fH⟩:=bL ((w1.alloc (.cells #[.int .u8 0] 5)).drew);have bG:Below w1 w1 w2:=by rw[fH];exact((ah _ w1).alloc (cH) _).drew
 have aft:=hk.below (cN.T (bG.mono cN.size));obtain⟨tc,w3,eh,htc,bA,cu⟩:=vV (P:=Tryz.prog) 28 5 (.int .u8 0) 1 1 bU aao rfl (W:=w2) (some ⟨B,o,none⟩) key.length (bE key) (by simp[bE]) (.inr ⟨_,rfl, λ j v hj=>by
  rcases aft.2 with h0|⟨B',o',e,hc⟩
  ·rw[h0]at C1;simp at C1
  ·cases e;simp only[bE,aW]at hj;cases hkj:key[j]? with
   |none=>rw[hkj]at hj;cases hj
   |some x=>rw[hkj]at hj;cases hj;rw[rm];exact hc j x hkj⟩) ⟨w1.heap.size,0,none⟩ 1 1 [.int .u8 0] rfl (λ j v hj=>by
  rcases j with _|j
  ·cases hj;rw[rm];show w2.cell? (za w1 0)=_;rw[fH];show(w1.alloc _).cell? _=_;rw[bO];rfl
  ·simp at hj) de an de
 have CD:ay w3 (zp w2) (key++[0]):=by
  have:bE key++[.int .u8 0]=bE (key++[0]):=by simp[bE]
  rw[this,show key.length+1=(key++[0]).length by simp]at bA;exact(dk bA λ y hy=>by rcases aG.1 hy with h|h;exact hk.1 y h;(simp at h;omega)).1
 have Ec:Below w1 w1 w3:=bG.T (cu.mono bG.size);have adx:=cN.T (Ec.mono cN.size);have HRG:=ag (Af (l:=WX (some ⟨B,o,none⟩) key kc (zp w2) tc) (hF.below adx) hm ht ⟨hk.below adx,CD⟩ 1 (.inr de) hlen);have aiH:(1:Int)<=(key.length:Int):=an;have aiI:((key.length:Nat)<=kc)=True:=by simpa using tw
 have abb:(key.length:Int)<=1000:=an;have ahx:Hid (∀ys:List aH,ys.map fF=vg 1 (rz (WX (some ⟨B,o,none⟩) key kc (zp w2) tc) items)->(∃y,ys=[y]/\y.key=key/\fF y∈items)\/(ys=[]/\∀kv∈items,kv.1≠key)):=ag λ ys h=>WY key items ys (by rw[h];unfold rz;simp only[Tp]);have fW:=ag cN;have HBa:=ag (ah w1 w1);have PV:=ag Ec;have DV:=ag fH;have gC:w1.heap.size=w.heap.size+1+1+1:=by rw[bY];simp
 have lH:w2.heap.size=w.heap.size+1+1+1+1:=by rw[fH];show(w1.alloc _).heap.size=_;rw[bt,gC]
 rw[gC]at eh;rw[lH]at HRG;unfold qI.v WX at HRG;simp only[ar,aK,bK]at HRG;unfold bN ij at*;clear hF hm ht hlen hk C1 u9 tw cN hx bG aft bA CD Ec adx htc cu;go_enter Tryz.func65,Tryz.ntmps65
 go_wp2_with fail
 rw[<-bY];clear bY;obtain⟨⟨f0,f1,f2,f3,f4⟩,⟨t0,t1,t2,t3,t4,t5,t6,t7⟩, -⟩:=HF.O _ HBa.O;refine bP 18 ?_;refine tP [0,1,2,3,4,5,6,7,8] ?_
 iterate 9 refine tO ?_
 refine au 9 rfl ?_;refine sP 9 [] λ K hK=>?_;go_simp;have UP:=ag ((ah _ w1).alloc (lK w1) (.cells #[.int .u8 0] 5));clear f0 f1 f2 f3 f4 t0 t1 t2 t3 t4 t5 t6 t7;obtain⟨⟨f0,f1,f2,f3,f4⟩,⟨t0,t1,t2,t3,t4,t5,t6,t7⟩, -⟩:=HF.O _ UP.O;refine nP hK ?_;clear hK K;refine sP 10 [3,4,5,6,7,8,9] λ K hK=>?_;go_simp;rw[<-DV.O,eh];go_simp;clear f0 f1 f2 f3 f4 t0 t1 t2 t3 t4 t5 t6 t7;obtain⟨⟨f0,f1,f2,f3,f4⟩,⟨t0,t1,t2,t3,t4,t5,t6,t7⟩, -⟩:=HF.O _ PV.O;refine nP hK ?_;clear hK K;refine tP [11] ?_;refine tO ?_;refine au 6 rfl ?_;refine sP 12 [0,1,2,3,4,5,6,7,8,9,10,11] λ K hK=>?_;go_simp;(with_reducible refine HRG.O.mono ?_);rintro e w4 ⟨ys,a,k,rfl,yO,bA,dX⟩;have pB:=ag (PV.O.T (dX.mono PV.O.size));have Hh:=ag yO;have PX:=ag bA;clear dX yO bA;refine nP hK ?_;clear hK K;refine tP [13,14,15,16,17] ?_
 iterate 5 refine tO ?_
 refine au 0 rfl ?_;refine dP ?_;go_simp;have hx:=(HF.O _ pB.O).2.2;obtain⟨z0,z1,z2,z3⟩:=CC hx;have zf:=ax hx;have HX:=ag hx;clear f0 f1 f2 f3 f4 t0 t1 t2 t3 t4 t5 t6 t7 hx;have afu:=ag (fW.O.T (pB.O.mono fW.O.size));rcases ahx.O ys Hh.O with⟨y,rfl,tt,I5⟩|⟨rfl,mr⟩
 ·have HY:=dO tt I5;obtain⟨C,o2,rfl,c0,c1,c2,c3⟩:∃C o,a=some ⟨C,o,none⟩/\w4.cell? ⟨C,o,none⟩=some (.slice y.ka y.key.length y.kc)/\w4.cell? (za C (o+1))=some (.slice y.va y.val.length y.vc)/\w4.cell? (za C (o+2))=some (.bool false)/\w4.cell? (za C (o+3))=some (.int .i64 0):=by
   rcases PX.O.at.1 with h0|⟨C,o,e,hc⟩
   ·cases h0
   ·have:=hc 0 y rfl;simp only[cY,bb]at this;exact⟨C,o,e,this⟩
  clear tt I5
  go_wp2_with fail
  refine bodyPost_ret (v:=.tuple #[y.v,.int .i64 0]) ?_ bp ⟨afu.O.T (F6 an),.inl ⟨y,HY.O.1,HY.O.2,rfl,?_,?_,(PX.O.2 y cP).2⟩⟩
  ·obtain⟨s0,s1,s2,s3⟩:=CC (afs (v0:=.slice y.ka y.key.length y.kc) (v1:=.slice y.va y.val.length y.vc) (v2:=.bool false) (v3:=.int .i64 0) HX.O);rw[results_cell_tmp rfl];unfold aH.v yY;go_simp
  ·exact gQ (λ j hj=>F5 j hj) HX.O uo (PX.O.2 y cP).1.1
  ·exact gQ (λ j hj=>F5 j hj) HX.O uo (PX.O.2 y cP).1.2
 ·have HNO:=ag mr;clear mr;simp only[bK]
  go_wp2_with fail
  refine bodyPost_ret (v:=.tuple #[WZ,.int .i64 4]) ?_ bp ⟨afu.O.T (F6 an),.inr ⟨HNO.O,rfl⟩⟩;obtain⟨s0,s1,s2,s3⟩:=CC (afs (v0:=.slice none 0 0) (v1:=.slice none 0 0) (v2:=.bool false) (v3:=.int .i64 0) HX.O);rw[results_cell_tmp rfl];unfold WZ;go_simp
theorem KX(a b k m:Nat)(hb:b<2^k)(hm:m=2^k):a*m|||b=a*m+b:=by subst hm;rw[dr,Nat.two_pow_add_eq_or_of_lt hb]
theorem Qa(n:Nat)(hn:n<4294967296):bits .or .u32 (bits .or .u32 (bits .or .u32 (IntKind.u32.wrap (((n/16777216%256:Nat):Int)*16777216)) (IntKind.u32.wrap (((n/65536%256:Nat):Int)*65536))) (IntKind.u32.wrap (((n/256%256:Nat):Int)*256))) ((n%256:Nat):Int)=(n:Int):=by
 have w1:IntKind.u32.wrap (((n/16777216%256:Nat):Int)*16777216)=((n/16777216%256*16777216:Nat):Int):=by rw[eo];omega
 have w2:IntKind.u32.wrap (((n/65536%256:Nat):Int)*65536)=((n/65536%256*65536:Nat):Int):=by rw[eo];omega
 have w3:IntKind.u32.wrap (((n/256%256:Nat):Int)*256)=((n/256%256*256:Nat):Int):=by rw[eo];omega
 rw[w1,w2,w3,u32_or_nat _ _ an an,KX _ _ 24 16777216 an de,u32_or_nat _ _ an an,
  show n/16777216%256*16777216+n/65536%256*65536=(n/16777216%256*256+n/65536%256)*65536 by omega,KX _ _ 16 65536 an de,u32_or_nat _ _ an an,
  show(n/16777216%256*256+n/65536%256)*65536+n/256%256*256=((n/16777216%256*256+n/65536%256)*256+n/256%256)*256 by omega,KX _ _ 8 256 an de]
 omega
theorem Qb{r:List Nat}(n:Nat)(hn:n<4294967296)(hx:xs=fK 4 n++r)(hb:ay w (some ⟨B,o,none⟩) xs)(hk:xs.length=k):
 Calls Tryz.prog 128 (sg (some ⟨B,o,none⟩) k c) w λ e w'=>e= .returned (.int .u32 (n:Int))/\w'.heap=w.heap/\Below w w w':=by
 have hc:∀(j x:Nat),xs[j]? =some x->w.cell? (za B (o+j))=some (.int .u8 (x:Int)):=by
  rcases hb.2 with h0|⟨B',o',e,h⟩
  ·rw[h0]at hx;simp[fK]at hx
  ·cases e;exact h
 have hl:4<=k:=by rw[<-hk,hx];simp[fK]
 have c0:=hc 0 (n/16777216%256) ur;have c1:=hc 1 (n/65536%256) ur;have c2:=hc 2 (n/256%256) ur;have c3:=hc 3 (n%256) ur;have HV:=ag (Qa n hn);obtain⟨b0,e0⟩:=bL (n/16777216%256);obtain⟨b1,e1⟩:=bL (n/65536%256);obtain⟨b2,e2⟩:=bL (n/256%256);obtain⟨b3,e3⟩:=bL (n%256);rw[<-e0,<-e1,<-e2,<-e3]at HV;rw[<-e0]at c0;rw[<-e1]at c1;rw[<-e2]at c2;rw[<-e3]at c3;have nt:b0<256:=an;have cN:b1<256:=an;have bG:b2<256:=an;have cu:b3<256:=an;simp only[bb]at c0;have i0:(0:Int)<(k:Int):=an;have i1:(1:Int)<(k:Int):=an;have i2:(2:Int)<(k:Int):=an;have i3:(3:Int)<(k:Int):=an;have j0:0<k:=an;have j1:1<k:=an;have j2:2<k:=an;have j3:3<k:=an;clear hx hc hl hk hb e0 e1 e2 e3 hn;go_enter Tryz.func128,Tryz.ntmps128
 go_wp2_with fail
 refine bP 23 ?_;refine tP [0,1,2,3,4,5,6,7,8,9,10,11,12,13,14,15,16,17,18,19,20,21,22] ?_
 iterate 23 refine tO ?_
 refine au 0 rfl ?_;refine dP ?_;go_simp
 go_wp2_with fail
 go_ret;refine⟨?_,rfl,(ah _ w).drew⟩;have hw:∀b:Nat,b<256->IntKind.u32.wrap (b:Int)=(b:Int):= λ b hb=>by rw[eo];omega
 show Ending.returned (.int .u32 (bits .or .u32 (bits .or .u32 (bits .or .u32 (IntKind.u32.wrap (IntKind.u32.wrap (b0:Int)*16777216)) (IntKind.u32.wrap (IntKind.u32.wrap (b1:Int)*65536))) (IntKind.u32.wrap (IntKind.u32.wrap (b2:Int)*256))) (IntKind.u32.wrap (b3:Int))))=_;rw[hw b0 nt,hw b1 cN,hw b2 bG,hw b3 cu,HV.O]
def pQ(g m s:Nat)(del:Bool)(at_:Nat):Array Value:=(BZ g m s del at_)
structure wZ(g m s:Nat)(del:Bool)(at_:Nat):Prop where
 g1:1<=g
 g2:g<4294967296
 m2:m<4294967296
 s1:1<=s
 s2:s<=1099511627776
 d:del=true->at_=0
 a:del=false->1<=at_/\at_<524288
def dS(g m s:Nat)(del:Bool)(at_:Nat):List Nat:=fK 4 g++(fK 4 m++(fK 4 (s/4294967296)++(fK 4 (s%4294967296)++((if del then 1 else 0)::fK 4 at_))))
theorem Xo{m s:Nat}(h:wZ g m s del at_)(w:World):
 Calls Tryz.prog 117 #[.agg (pQ g m s del at_)] w λ e w'=>e= .returned (.bool true)/\Below w w w':=by
 have e1:((g:Int)==0)=false:=by have:=h.g1;simp;omega
 have e2:decide ((s:Int)<1)=false:=by have:=h.s1;simp;omega
 have e3:decide ((1099511627776:Int)<(s:Int))=false:=by have:=h.s2;simp;omega
 have hd:=h.d;have ha:=h.a;unfold pQ;have HB:Hid (Below w w (w.alloc (.cells (BZ g m s del at_) 45))):=ag bW;clear h;cases del with
 |true=>
  have:=hd rfl;subst this;clear hd ha;go_enter Tryz.func117,Tryz.ntmps117
  go_wp2_with fail
  go_ret;exact⟨rfl,HB.O⟩
 |false=>
  obtain⟨a1,a2⟩:=ha rfl;have e4:decide ((1:Int)<=(at_:Int))=true:=dU;have e5:decide ((at_:Int)<524288)=true:=dU;clear hd ha a1 a2;go_enter Tryz.func117,Tryz.ntmps117
  go_wp2_with fail
  go_ret;exact⟨rfl,HB.O⟩
theorem JD{m cc:Nat}{a:az}{ys:List Nat}(hb:Boxed W R t (.slice a k c))(Iq:t≠5)(bA:W.ownsRow n₀ 5 1 (.slice a k c) k (bE bs))(hs:ay W (some ⟨B,o,none⟩) ys)(hm:ys.length=m)(h1:1<=m)(hk:k+m<1000000)(hn:n₀<=W.heap.size)(hR:n₀<=R)(X:Nat->Prop):
 ∃g' c' w',(Builtin.append_ #[28,28] 28 (fP a k c (some ⟨B,o,none⟩) m cc)).run Tryz.prog W= .ok (.slice (zp g') (k+m) c') w'/\
  w'.cell? (za R 0)=some (.slice a k c)/\w'.frozen? ⟨R,0,none⟩=false/\Boxed (w'.setCell (za R 0) (.slice (zp g') (k+m) c')) R t (.slice (zp g') (k+m) c')/\
  (w'.setCell (za R 0) (.slice (zp g') (k+m) c')).ownsRow n₀ 5 1 (.slice (zp g') (k+m) c') (k+m) (bE (bs++ys))/\
  Lets n₀ X R W (w'.setCell (za R 0) (.slice (zp g') (k+m) c')):=by
 obtain⟨g',c',w',eh,jC,hg⟩:=fg (cc:=cc) bA hs hm h1 hk hn;have hnr:(Value.slice a k c).ownBlock≠some R:=(kC hb Iq bA).symm;have Mp:Boxed w' R t (.slice a k c):=(hg.eG R hb.lt hnr).T hb;have bG:=Mp.set (.slice (zp g') (k+m) c');have BQ:=Cn hb;have aji:g'≠R:=by
  rcases bg jC with⟨h,_⟩|⟨g,cur,h,_,hgg⟩
  ·cases h
  ·cases h;rintro rfl;rw[Mp]at hgg;injection hgg with h5;injection h5 with _ h6 _;exact Iq h6
 have aez:=yp (v:=.slice (zp g') (k+m) c') jC Mp Iq;have aeA:g'<w'.heap.size:=by
  rcases bg jC with⟨h,_⟩|⟨g,cur,h,_,hgg⟩
  ·cases h
  ·cases h;exact(cS hgg).1
 have mU:rowOf R W=some g'\/W.heap.size<=g':=by
  rw[BQ];rcases hg.at_ with h|⟨g,h,vW⟩
  ·exact .inl h.symm
  ·simp[Value.ownBlock]at h;subst h;exact .inr vW
 refine⟨g',c',w',eh,Mp.cell,Mp.frozen,bG,aez,⟨hg.below.setCell hR _, λ j cs ty fz hj _ hjR hjr=>?_, λ j hj=>?_, λ hl j hj=>?_⟩⟩
 ·exact(aq _ _ _ _ hjR).T ((hg.eG j (cS hj).1 (by rw[<-BQ];exact hjr)).T hj)
 ·rw[nh bG]at hj;cases hj;exact mU
 ·rw[nh bG]at hj;cases hj;simpa[World.setCell]using aeA
theorem Qc(n:Nat):ay (W.alloc (.cells (acU (n/16777216%256) (n/65536%256) (n/256%256) (n%256)) 5)) (zp W) (fK 4 n):=by
 refine⟨nQ 4 n,.inr ⟨_,_,rfl, λ j x hj=>?_⟩⟩;rw[bO];simp only[fK,Nat.reducePow,Nat.div_one]at hj;rcases j with _|_|_|_|j
 ·cases hj;rfl
 ·cases hj;rfl
 ·cases hj;rfl
 ·cases hj;rfl
 ·simp at hj
theorem Xp{a:az}(n:Nat)(hn:n<4294967296)(hb:Boxed w R 223 (.slice a k c))(bA:w.ownsRow n₀ 5 1 (.slice a k c) k (bE bs))(hk:k<=1000)(h0:n₀<=w.heap.size)(hR:n₀<=R):
 Calls Tryz.prog 118 #[.pointer (zp R),.int .u32 (n:Int)] w λ e w'=>∃v a' c',e= .returned v/\Boxed w' R 223 (.slice a' (k+4) c')/\w'.ownsRow n₀ 5 1 (.slice a' (k+4) c') (k+4) (bE (bs++fK 4 n))/\Lets n₀ (λ _=>False) R w w':=by
 obtain⟨w1,bY⟩:=bL (w.alloc (.cells (acU (n/16777216%256) (n/65536%256) (n/256%256) (n%256)) 5));have cN:Below w w w1:=by rw[bY];exact(ah _ w).alloc (cH) _
 have iL:ay w1 (zp w) (fK 4 n):=by rw[bY];exact Qc n
 have IK:Boxed w1 R 223 (.slice a k c):=(cN.block R hb.lt).T hb;obtain⟨g',c',w2,eh,f1,f2,bG,oO,ri⟩:=JD (cc:=4) IK de (dC.row cN bA) iL (by simp[ie]) (by decide:1<=4) an (aj h0 cN.size) hR (λ _=>False);have m0:=hb.cell;have ly:=eS bG oO ((Lets.bH cN hb.lt h0).T ri);rw[bY]at eh;rw[show((n/16777216%256:Nat):Int)=(n:Int)/16777216 by omega,show((n/65536%256:Nat):Int)=(n:Int)/65536%256 by omega,show((n/256%256:Nat):Int)=(n:Int)/256%256 by omega,show((n%256:Nat):Int)=(n:Int)%256 by omega]at eh;have Kn:(k:Int)<=1000:=an;clear hb bA cN iL IK bG oO ri bY h0 hR;go_enter Tryz.func118,Tryz.ntmps118
 go_wp2_with fail
 go_end0;exact⟨_,_,_,rfl,ly.O⟩
theorem KY{a:az}{xs:List Value}(h:W.ownsRow n₀ e sz (.slice a k c) k xs):eZ n₀ a:= λ p hp=>by
 rcases bg h with⟨h1,_⟩|⟨g,cur,h1,hb,_⟩
 ·rw[hp]at h1;cases h1
 ·rw[hp]at h1;cases h1;exact hb
theorem Dr{m s:Nat}(h:wZ g m s del at_)(w:World):
 Calls Tryz.prog 87 #[.agg (pQ g m s del at_)] w λ e w'=>∃a c,e= .returned (.tuple (Lz a 21 c))/\ay w' a (dS g m s del at_)/\21<=c/\eZ w a/\Below w w w':=by
 have HM:=ag λ w=>Xo h w;have afA:at_<4294967296:=by cases del with
  |true=>rw[h.d rfl];decide
  |false=>have:=(h.a rfl).2;omega
 have hg:=h.g2;have hm:=h.m2;have lH:=h.s2;have adC:=afA;have HFO:Hid (∀(n:Nat) (W:World) (k:Nat) (bs:List Nat) (a:az) (c:Nat),n<4294967296->k<=1000->Below w w W->∀R,w.heap.size<R->(Boxed W R 223 (.slice a k c)/\W.ownsRow w 5 1 (.slice a k c) k (bE bs)/\W.heap[w.heap.size]? =some (.cells (pQ g m s del at_) 45))->
  Calls Tryz.prog 118 #[.pointer (zp R),.int .u32 (n:Int)] W λ e w'=>∃v a' c',e= .returned v/\Hid (Below w w w'/\Boxed w' R 223 (.slice a' (k+4) c')/\w'.ownsRow w 5 1 (.slice a' (k+4) c') (k+4) (bE (bs++fK 4 n))/\w'.heap[w.heap.size]? =some (.cells (pQ g m s del at_) 45))):=ag λ n W k bs a c hn hk hb R hR ⟨h1,h2,h3⟩=>by
  refine(Xp n hn h1 h2 hk hb.size (ff hR)).mono ?_;rintro e w' ⟨v,a',c',rfl,h4,h5,h6⟩;exact⟨v,a',c',rfl,ag ⟨hb.T h6.below,h4,h5,h6.eG _ _ _ _ h3 id an (tE h1 h2 h3 de)⟩⟩
 have j4:Hid (Below w w (w.alloc (.cells (pQ g m s del at_) 45))):=ag ((ah _ w).alloc (cH) _);unfold pQ at*;obtain⟨hi,hhi⟩:=bL (s/4294967296);obtain⟨lo,En⟩:=bL (s%4294967296);have z1:((s:Int)/4294967296)=(hi:Int):=an;have z2:IntKind.u32.wrap (hi:Int)=(hi:Int):=by rw[eo];omega
 have z3:IntKind.u32.wrap (s:Int)=(lo:Int):=by rw[eo];omega
 have z3':(s:Int)%4294967296=(lo:Int):=an;have ahI:hi<4294967296:=an;have ahJ:lo<4294967296:=an;have HHI:=dO hhi En;clear hhi En;have z4:IntKind.u32.wrap (at_:Int)=(at_:Int):=by rw[eo];omega
 obtain⟨fl,qH⟩:∃fl:Nat,fl=if del then 1 else 0:=⟨_,rfl⟩;have tn:Hid (∀(W:World) (k:Nat) (bs:List Nat) (a:az) (c R:Nat),k<=1000->Below w w W->w.heap.size<R->(Boxed W R 223 (.slice a k c)/\W.ownsRow w 5 1 (.slice a k c) k (bE bs)/\W.heap[w.heap.size]? =some (.cells (BZ g m s del at_) 45))->
  ∃g' c' w',(Builtin.append_ #[28,28] 28 (fP a k c (zp W) 1 1)).run Tryz.prog (W.alloc (.cells (zk fl) 5))= .ok (.slice (zp g') (k+1) c') w'/\w'.cell? (za R 0)=some (.slice a k c)/\w'.frozen? ⟨R,0,none⟩=false/\
   Hid (Below w w (w'.setCell (za R 0) (.slice (zp g') (k+1) c'))/\Boxed (w'.setCell (za R 0) (.slice (zp g') (k+1) c')) R 223 (.slice (zp g') (k+1) c')/\(w'.setCell (za R 0) (.slice (zp g') (k+1) c')).ownsRow w 5 1 (.slice (zp g') (k+1) c') (k+1) (bE (bs++[fl]))/\(w'.setCell (za R 0) (.slice (zp g') (k+1) c')).heap[w.heap.size]? =some (.cells (BZ g m s del at_) 45))):=ag λ W k bs a c R hk hb hR ⟨h1,h2,h3⟩=>by
  have cN:Below W W (W.alloc (.cells (zk fl) 5)):=(ah _ W).alloc (cH) _;have iL:ay (W.alloc (.cells (zk fl) 5)) (zp W) [fl]:=⟨λ y hy=>by rw[aE]at hy;rw[hy,qH];split<;>decide,.inr ⟨_,_,rfl, λ j x hj=>by
   rcases j with _|j
   ·cases hj;rw[bO];rfl
   ·simp at hj⟩⟩
  obtain⟨g',c',w',eh,f1,f2,mM,bA,rl⟩:=JD (m:=1) (cc:=1) ((cN.block R h1.lt).T h1) de (dC.row cN h2) iL rfl (lK 1) an (aj hb.size cN.size) (ff hR) (λ _=>False);have ri:=(Lets.bH (X:= λ _=>False) cN h1.lt hb.size).T rl;exact⟨g',c',w',eh,f1,f2,ag ⟨hb.T ri.below,mM,bA,ri.eG _ _ _ _ h3 id an (tE h1 h2 h3 de)⟩⟩
 have afB:Hid (dS g m s del at_=fK 4 g++(fK 4 m++(fK 4 hi++(fK 4 lo++(fl::fK 4 at_))))):=ag (by unfold dS;rw[HHI.O.1,HHI.O.2,qH]);have Fy:Hid (∀y∈dS g m s del at_,y<256):=ag λ y hy=>by
  unfold dS at hy;simp only[aG,aO]at hy;rcases hy with h|h|h|h|rfl|h
  ·exact nQ _ _ _ h
  ·exact nQ _ _ _ h
  ·exact nQ _ _ _ h
  ·exact nQ _ _ _ h
  ·cases del<;>decide
  ·exact nQ _ _ _ h
 have KU:Hid (∀(W:World) (a:az) (c:Nat),W.ownsRow w 5 1 (.slice a 21 c) 21 (bE (fK 4 g++(fK 4 m++(fK 4 hi++(fK 4 lo++(fl::fK 4 at_))))))->ay W a (dS g m s del at_)/\21<=c/\eZ w a):=ag λ W a c bA=>by
  rw[<-afB.O]at bA;have hf:=KY bA;obtain⟨g1,rfl⟩:∃g,a=some ⟨g,0,none⟩:=by
   rcases bg bA with⟨_,h,_⟩|⟨g,_,h,_⟩
   ·omega
   ·exact⟨g,h⟩
  obtain⟨q1,q2,q3⟩:=dk bA Fy.O;exact⟨q1,q2,hf⟩
 clear h afA lH afB Fy;cases del
 all_goals
  simp only[ez,if_false,if_true]at qH;subst qH;go_enter Tryz.func87,Tryz.ntmps87
  go_wp2_with first
   |((with_reducible refine(HM.O _).mono ?_);rintro e w2 ⟨rfl,bG⟩;have hx:=(bG.block w cP).T (ai w _);have cu:Below w2 w2 (w2.alloc (.cells J6 223)):=(ah _ w2).alloc (cH) _;have ek:=ag ((j4.O.T (bG.mono j4.O.size)).T (cu.mono (j4.O.T (bG.mono j4.O.size)).size));have uX:=(cu.block w (cS hx).1).T hx;have HX3:=eS (lp w2 223 (.slice none 0 0)) (show(w2.alloc (.cells J6 223)).ownsRow w 5 1 (.slice none 0 0) 0 (bE [])from⟨by simp[bE],.inl ⟨rfl,rfl⟩⟩) uX;have x0:=(af uX 0).T rfl;simp only[cW]at x0;have hR:=ag (cS hx).1;have H1:=ag (HFO.O g _ 0 [] none 0 hg an ek.O w2 hR.O HX3.O);clear bG hx cu uX)
   |((with_reducible refine H1.O.mono ?_);rintro e w4 ⟨v4,a4,c4,rfl,h4⟩;have x1:=(af h4.O.2.2.2 1).T rfl;simp only[cW]at x1;have H2:=ag (HFO.O m w4 4 _ a4 c4 hm an h4.O.1 w2 hR.O h4.O.2);clear H1 x0)
   |((with_reducible refine H2.O.mono ?_);rintro e w5 ⟨v5,a5,c5,rfl,h5⟩;have x2:=(af h5.O.2.2.2 2).T rfl;simp only[cW]at x2;have H3:=ag (HFO.O hi w5 8 _ a5 c5 an an h5.O.1 w2 hR.O h5.O.2);clear H2 x1)
   |((with_reducible refine H3.O.mono ?_);rintro e w6 ⟨v6,a6,c6,rfl,h6⟩;have x3:=(af h6.O.2.2.2 2).T rfl;simp only[cW]at x3;have H4:=ag (HFO.O lo w6 12 _ a6 c6 an an h6.O.1 w2 hR.O h6.O.2);clear H3 x2)
   |((with_reducible refine H4.O.mono ?_);rintro e w7 ⟨v7,a7,c7,rfl,h7⟩;have x4:=(af h7.O.2.2.2 3).T rfl;have y0:=h7.O.2.1.cell;simp only[cW]at x4;obtain⟨g8,c8,w8,eh,f1,f2,h8⟩:=tn.O w7 16 _ a7 c7 w2 an h7.O.1 hR.O h7.O.2;simp only[Nat.reduceAdd,iY,Int.natCast_one]at eh h8;have x5:=(af h8.O.2.2.2 4).T rfl;simp only[cW]at x5;have H5:=ag (HFO.O at_ _ 17 _ _ _ an an h8.O.1 w2 hR.O h8.O.2);clear H4 x3)
   |((with_reducible refine H5.O.mono ?_);rintro e w9 ⟨v9,a9,c9,rfl,h9⟩;have y9:=h9.O.2.1.cell;simp only[Nat.reduceAdd]at y9)
   |fail
  go_ret2;refine⟨a9,c9,rfl,?_⟩;obtain⟨e1,e2,e3,e4⟩:=h9.O;obtain⟨q1,q2,q3⟩:=KU.O w9 a9 c9 (by simpa using e3);exact⟨q1,q2,q3,e1⟩
end
end Go.Proofs.YtbiififbfefkjaaGreatDoor

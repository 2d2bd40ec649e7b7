/- The store, part 15. -/
import Derived.Test.YtkgapncajjafoaaGreatDoorMAa
import Derived.Test.YtkgapncajjafoaaGreatDoorMAn
import Derived.Test.YtkgapncajjafoaaGreatDoorMAg
import Derived.Test.YtkgapncajjafoaaGreatDoorMAj
set_option linter.unusedSimpArgs false
set_option linter.unusedVariables false
set_option maxRecDepth 100000
set_option maxHeartbeats 16000000
namespace Go.Proofs.YtkgapncajjafoaaGreatDoor
open Go.RowKit Go.Shelf
variable{W w:World}{n₀ k c a X B0 cf a1 d1 c1 a2 d2 c2 q g m s p1 e1 f1 p2 e2 f2 n fuel:Nat}{b:Option Addr}{ps bY:List Piece}{id tx:ByteArray}{y:aG}{wk wn:Int}{kn d wt:Bool}{its:List KV}{l es:List aG}{o:Oper}{P:Program}{ev:Operand -> Value}{dead:List Nat}{listed:Array Bool}
section
attribute [local go_sem] Oper.semAt_some
attribute [-go_sem] Builtin.append_
theorem pP:(Tryz.prog.info? 194).map (λ i=>(i.zero,i.size,i.bytes))=some (some (.agg J5),5,72):=aO
theorem CW{β:Type}{f:β->List Value}{sz:Nat}{e:Nat}{a:Option Addr}{ys:List β}(hf:∀x,(f x).length=sz)(h1:0<sz)(h:W.ownsRow n₀ e sz (.slice a k c) k (ys.flatMap f)):bj f sz W a ys:=by
 rcases pW h with h0|⟨g,rfl, -, -,hc⟩
 ·cases ys with
  |nil=>exact .inl rfl
  |cons y ys=>
   have:=congrArg List.length h0
   rw[List.flatMap_cons,List.length_append,hf]at this
   simp at this;omega
 ·refine .inr ⟨g,0,rfl, λ j x hj i v hi=>?_⟩
  have:=hc _ _ (oZ f sz hf ys j x i v hj hi)
  rw[Nat.zero_add];exact this
theorem rQ{C:Nat}{xs:List Nat}(h:ai W (zp C) xs)(hl:xs.length=8):C<W.heap.size:=by
 rcases h.2 with h0|⟨C',o,e,hc⟩
 ·rw[h0]at hl;cases hl
 ·cases e
  obtain⟨x,hx⟩:∃x,xs[0]? =some x:=⟨_,List.getElem?_eq_getElem ag⟩
  exact World.block_lt_of_cell? W _ (hc 0 x hx)
theorem nZ{W':World}{c' K8 KI cI nI:Nat}{a:Option Addr}{g':Nat}{l:List bN}{s8 idl:List Nat}(ax:W'.ownsRow n₀ 194 5 (.slice (zp g') (k+1) c') (k+1) (l.flatMap bN.cells++[.slice (zp K8) 8 8,.bool true,.slice (zp KI) nI cI,.bool false,.int .i64 0]))
 (hg:bO n₀ W W' (.slice a k c) (.slice (zp g') (k+1) c'))(hl:∀x∈l,ai W x.ka x.key/\ai W x.va x.val)(h8:ai W (zp K8) s8)(hI:ai W (zp KI) idl)(e8l:s8.length=8)(eI:idl.length=nI)(ha:∀x∈l,(∀p,x.ka=some p->∀g,(Value.slice a k c).ownBlock=some g->p.block<g)/\x.val=[])(Tv:∀g,(Value.slice a k c).ownBlock=some g->g<K8)(Xg:∀g,(Value.slice a k c).ownBlock=some g->g<KI):
 dS W' (zp g') (l++[⟨some ⟨K8,0,none⟩,s8,8,true,some ⟨KI,0,none⟩,idl,cI⟩]):=by
 have key:∀(p:Option Addr) (xs:List Nat),ai W p xs->(∀q,p=some q->(Value.slice a k c).ownBlock≠some q.block)->ai W' p xs:= λ p xs h hn=>by
  refine⟨h.1,?_⟩
  rcases h.2 with h0|⟨C,o,e,hc⟩
  ·exact .inl h0
  ·exact .inr ⟨C,o,e, λ j x hj=>hg.cell (p:=(za C (o+j))) (hc j x hj) (hn ⟨C,o,none⟩ e)⟩
 refine⟨CW (n₀:=n₀) (e:=194) (k:=k+1) (c:=c') (λ _=>rfl) bd ?_, λ x hx=>?_⟩
 ·rw[List.flatMap_append]
  subst eI
  simpa[bN.cells,e8l]using ax
 ·rcases List.mem_append.1 hx with hx|hx
  ·refine⟨key _ _ (hl x hx).1 λ q hq e=>?_,?_⟩
   ·have:=(ha x hx).1 q hq _ e;omega
   ·rw[(ha x hx).2];exact ai.nil _ _
  ·rw[List.mem_singleton]at hx;subst hx
   exact⟨key _ _ h8 λ q hq e=>(by cases hq;have:=Tv _ e;exact Nat.lt_irrefl _ this),key _ _ hI λ q hq e=>(by cases hq;have:=Xg _ e;exact Nat.lt_irrefl _ this)⟩
theorem Pp(hS:eE w B0 b ps.length cf a1 d1 c1 a2 d2 c2 q)(hX:ew w X B0 id y wk wn kn tx g m s d a p1 e1 f1 p2 e2 f2 wt)(bS:X≠B0)
 (hF:au w b cf ps)(hm:Marks (al ps))(h2:id.size<=24)(Xh:s<18446744073709551616)(Xi:kn=true->y.s<s){items:List KV}(ht:dh (al ps) a2 d2 c2 items)(vf:items.length<=200)(fy:its=dK items ((if kn then[⟨e8 y.s,false,[]⟩]else[])++[⟨e8 s,true,dk id⟩]))(hlen:its.length<=200)(fG:cQ its)(dX:(al ps).length+200*its.length<=524288):
 Calls Tryz.prog 62 (dW (zp X)) w λ e w'=>∃(oA d' c':Nat) (b':Option Addr) (bL:Nat) (bz:List Piece),e= .returned (.int .i64 0)/\eE w' B0 b' bz.length bL a1 d1 c1 a2 d2 c2 q/\ew w' X B0 id y wk wn kn tx g m s d a p1 e1 f1 oA d' c' wt/\au w' b' bL bz/\Marks (al bz)/\dh (al bz) oA d' c' its/\(∃m,al bz=al ps++m)/\(al bz).length<=(al ps).length+120*its.length/\gd (λ j=>j=X\/j=B0) w w':=by
 have Ii:=(aX hX).1
 have QJ:=(aX hS).1
 have yQ:=af (λ (V:World) (hV:Below w w V)=>hS.below hV)
 have mA:=af (λ (V:World) (hV:Below w w V)=>hF.below hV)
 have Fy:Hid (∀(V:World) (ea:Option Addr) (ce:Nat) (l:List bN),Below w w V->dS V ea l->l.map rF=(if kn then[⟨e8 y.s,false,[]⟩]else[])++[⟨e8 s,true,dk id⟩]->l.length<=ce->Calls Tryz.prog 80 #[aE b ps.length cf,cM a2 d2 c2,.slice ea l.length ce] V λ e w'=>∃(oA d' c':Nat) (b':Option Addr) (bL:Nat) (bz:List Piece),e= .returned (.tuple #[aE b' bz.length bL,cM oA d' c',.int .i64 0])/\au w' b' bL bz/\Marks (al bz)/\dh (al bz) oA d' c' its/\(∃m,al bz=al ps++m)/\(al bz).length<=(al ps).length+120*its.length/\Below V V w'):=af λ V ea ce l hV he hl EW=>by
  have Yp:∀x∈l,mn x:= λ x hx=>by
   have h3:rF x∈(if kn then[(⟨e8 y.s,false,[]⟩:Ed)]else[])++[⟨e8 s,true,dk id⟩]:=by rw[<-hl];exact List.mem_map.2 ⟨x,hx,rfl⟩
   rcases List.mem_append.1 h3 with h3|h3
   ·cases kn with
    |false=>simp at h3
    |true=>
     have h4:rF x=⟨e8 y.s,false,[]⟩:=by simpa using h3
     have k1:x.key=e8 y.s:=congrArg Ed.key h4
     have k3:x.val=[]:=congrArg Ed.val h4
     exact⟨by rw[k1,dC];decide,by rw[k1,dC];decide,by rw[k3];decide, λ _=>k3⟩
   ·have h4:rF x=⟨e8 s,true,dk id⟩:=by simpa using h3
    have k1:x.key=e8 s:=congrArg Ed.key h4
    have k2:x.put=true:=congrArg Ed.put h4
    have k3:x.val=dk id:=congrArg Ed.val h4
    exact⟨by rw[k1,dC];decide,by rw[k1,dC];decide,by rw[k3,dI];omega, λ e=>by rw[k2]at e;cases e⟩
  have aam:l.map bN.key=(if kn then[e8 y.s]else[])++[e8 s]:=by
   have h3:=congrArg (List.map Ed.key) hl
   rw[List.map_map]at h3
   have h4:l.map bN.key=List.map (Ed.key∘rF) l:=rfl
   rw[h4,h3]
   cases kn<;>rfl
  have wK:bb (l.map bN.key):=by
   rw[aam]
   intro j u v hu hv
   cases kn with
   |false=>rcases j with _|j<;>simp at hv
   |true=>
    rcases j with _|j
    ·simp at hu hv;subst hu hv;exact qP (Xi rfl) Xh
    ·simp at hv
  have Re:l.length<=2:=by
   have h3:=congrArg List.length hl
   rw[List.length_map]at h3
   rw[h3];cases kn<;>simp
  exact Bv (hF.below hV) hm ht vf he EW Yp wK ag (fy.T (by rw[hl])) hlen fG dX
 have uk:=af bS
 have Pq:=af Xh
 unfold aE cM at Fy
 have ei:=af (Below.refl w w)
 have Xj:=af Xi
 clear hF hm h2 Xh fG bS ht vf fy hlen dX Xi
 cases kn with
 |false=>
  clear Xj
  have yM:=af (λ (V:World) (hV:Below w w V)=>show V.heap[X]? =some (.cells (UW (zp B0) id (aU y.id) y.g y.m y.s y.del y.at_ wk wn tx g m s d a p1 e1 f1 p2 e2 f2 wt) 124)from(hV.block X Ii).T hX)
  have HF:Hid (∀W,Below w w W->W.cell? (za X 0)=some (.pointer (zp B0))/\W.cell? (za X 1)=some (.string id)/\W.cell? (za X 5)=some (.int .u64 (y.s:Int))/\W.cell? (za X 17)=some (.int .u64 (s:Int))/\W.cell? (za B0 0)=some (.slice none 0 0)/\W.cell? (za B0 1)=some (.slice b ps.length cf)/\W.cell? (za B0 2)=some (.int .i64 (-1))/\W.cell? (za B0 3)=some (.int .i64 (-1))/\W.cell? (za B0 4)=some (.bool false)/\W.cell? (za B0 13)=some (.int .i64 (a2:Int))/\W.cell? (za B0 14)=some (.int .i64 (d2:Int))/\W.cell? (za B0 15)=some (.int .i64 (c2:Int))/\W.cell? (za B0 16)=some (.int .i64 0)/\W.cell? (za B0 17)=some (.int .i64 0)/\W.cell? (za B0 18)=some (.int .u64 0)/\W.cell? (za B0 19)=some (.int .i64 0)/\W.cell? (za B0 20)=some (.int .i64 0)):=af λ W hb=>by
   have h:=yM.O W hb
   have h2:=yQ.O W hb
   exact⟨(aa h 0).T rfl,(aa h 1).T rfl,(aa h 5).T rfl,(aa h 17).T rfl,(aa h2 0).T rfl,(aa h2 1).T rfl,(aa h2 2).T rfl,(aa h2 3).T rfl,(aa h2 4).T rfl,(aa h2 13).T rfl,(aa h2 14).T rfl,(aa h2 15).T rfl,(aa h2 16).T rfl,(aa h2 17).T rfl,(aa h2 18).T rfl,(aa h2 19).T rfl,(aa h2 20).T rfl⟩
  have yN:=(aa hX 13).T rfl
  simp only[qA,aD]at yN
  clear hS hX Ii QJ
  have Mp:Hid (Below w w w):=af ei.O
  have HRQ:Hid (w.ownsRow w 194 5 (.slice none 0 0) 0 (([]:List bN).flatMap bN.cells)):=af (World.ownsRow_nil _ _ _ _)
  have Pr:Hid (∀V:World,Below w w V->∀x∈([]:List bN),ai V x.ka x.key/\ai V x.va x.val):=af λ V _ x hx=>by cases hx
  have LR:Hid ((∀x∈([]:List bN),(∀p,x.ka=some p->∀g,(Value.slice none 0 0).ownBlock=some g->p.block<g)/\x.val=[])/\∀g,(Value.slice none 0 0).ownBlock=some g->g<w.heap.size):=af ⟨λ x hx=>(by cases hx), λ g hg=>by cases hg⟩
  have Xk:Hid (Calls Tryz.prog 39 (vS s) w.drew λ e w'=>e= .returned (.slice (zp w) 8 8)/\ai w' (zp w) (e8 s)/\Below w w w'):=af ((je s Pq.O w.drew).mono λ e w' ⟨h1,h2,h3⟩=>⟨h1,h2,((Below.refl _ w).drew).T h3⟩)
  obtain⟨cJ,wJ,hcJ,hkJ,hgJ,hbJ,hsJ⟩:=gO id w
  have HJ:=cV hkJ hbJ hsJ
  clear hkJ hgJ
  go_enter Tryz.func62,Tryz.ntmps62
  obtain⟨x0,x1,x5,gb,s0,s1,s2,s3,s4,jf,jg,jh,ji,jj,jk,jl,jm⟩:=HF.O _ ei.O
  go_wp2_with fail
  clear yN
  refine bP 16 ?_
  refine tP [0,1,2,3,4,5,7,8,9,10] ?_
  iterate 10 refine tO ?_
  refine ah 6 rfl ?_
  refine Gr 6 11 [1,2,3,4,5] [7,8,9,10] (λ K hK=>?_) λ K hK=>?_
  ·skip
   go_simp
   (with_reducible refine Xk.O.mono ?_);rintro e w4 ⟨rfl,h8,bH⟩
   obtain⟨cI,wV,hcI,Xg,hgI,Mt,Mu⟩:=yI id w4
   have iJ:=af (Mp.O.T (bH.mono Mp.O.size))
   have H8:=cj h8 bH
   clear x0 x1 x5 gb s0 s1 s2 s3 s4 jf jg jh ji jj jk jl jm
   obtain⟨x0,x1,x5,gb,s0,s1,s2,s3,s4,jf,jg,jh,ji,jj,jk,jl,jm⟩:=HF.O _ iJ.O
   refine nP hK ?_
   clear hK K
   refine sP 11 [1,2,3,4,5,7,8,9,10] λ K hK=>?_
   go_simp
   have eP:=af (iJ.O.T (Mt.mono iJ.O.size))
   have Mn:=cV Xg Mt Mu
   have Yd:Hid (w.heap.size<w4.heap.size):=af (rQ H8.O.1 (dC s))
   clear hcI Xg hgI Mt Mu h8 bH
   clear x0 x1 x5 gb s0 s1 s2 s3 s4 jf jg jh ji jj jk jl jm
   obtain⟨x0,x1,x5,gb,s0,s1,s2,s3,s4,jf,jg,jh,ji,jj,jk,jl,jm⟩:=HF.O _ eP.O
   refine nP hK ?_
   clear hK K
   refine tP [12] ?_
   refine tO ?_
   refine ah 3 rfl ?_
   refine sP 13 [1,2,3,4,5,6,7,8,9,10,11,12] λ K hK=>?_
   go_simp
   obtain⟨g2,k2,w6,bt,lu,rR⟩:=eF (P:=Tryz.prog) 195 194 (.agg J5) 5 72 aO pP rfl bd (W:=wV) (n₀:=w.heap.size) (zL (zp w) 8 8 (zp w4) id.size cI) rfl (by simp[Value.oneCell']) (bO.row (H8.O.2.T (Mn.O.2.1.mono H8.O.2.size)) HRQ.O) bd bd eP.O.size
   have Xl:=af (js lu)
   have iQ:=af (nZ lu rR (Pr.O wV (H8.O.2.T (Mn.O.2.1.mono H8.O.2.size))) (H8.O.1.below Mn.O.2.1) Mn.O.1 (dC s) (dI id) LR.O.1 LR.O.2 (λ g hg=>cG (LR.O.2 g hg) Yd.O))
   have jY:Hid (Below w w w6):=af (eP.O.T rR.below)
   have SR:=af (show Below w w (wV.alloc (.cells (zL (zp w) 8 8 (zp w4) id.size cI) 194))from eP.O.alloc eP.O.size _)
   clear lu rR
   clear x0 x1 x5 gb s0 s1 s2 s3 s4 jf jg jh ji jj jk jl jm
   obtain⟨x0,x1,x5,gb,s0,s1,s2,s3,s4,jf,jg,jh,ji,jj,jk,jl,jm⟩:=HF.O _ SR.O
   refine nP hK ?_
   clear hK K
   refine sP 14 [0,1,2,3,4,5,6,7,8,9,10,11,12,13] λ K hK=>?_
   go_simp
   clear bt
   clear x0 x1 x5 gb s0 s1 s2 s3 s4 jf jg jh ji jj jk jl jm
   obtain⟨x0,x1,x5,gb,s0,s1,s2,s3,s4,jf,jg,jh,ji,jj,jk,jl,jm⟩:=HF.O _ jY.O
   refine nP hK ?_
   clear hK K
   refine tP [15] ?_
   refine tO ?_
   refine ah 0 rfl ?_
   refine dP ?_
   go_simp
   have zB:=af (Fy.O w6.drew _ k2 _ jY.O.drew iQ.O rfl Xl.O)
   simp only[List.length_append,List.length_cons,List.length_nil]at zB
   clear x0 x1 x5 gb s0 s1 s2 s3 s4 jf jg jh ji jj jk jl jm
   go_wp2_with fail
   obtain⟨x0,x1,x5,gb,s0,s1,s2,s3,s4,jf,jg,jh,ji,jj,jk,jl,jm⟩:=HF.O _ jY.O
   refine bP 33 ?_
   refine tP [0,1,2,3,4,5,6,7,8,9,10,11,12,13,14,15,16,17,18,19,20] ?_
   iterate 21 refine tO ?_
   refine ah 12 rfl ?_
   refine sP 21 [5,6,7,8,9,10,11,12,13,14,15,16,17,18,19,20] λ K hK=>?_
   go_simp
   (with_reducible refine zB.O.mono ?_);rintro e w8 ⟨oA,d',c',b',bL,bz,rfl,yY,JN,JO,jG,Gh,bJ⟩
   have eN:Hid (Below w w w8):=af (jY.O.drew.T (bJ.mono jY.O.size))
   have nY:=BM yY JN JO jG Gh
   clear yY JN JO jG Gh bJ
   clear x0 x1 x5 gb s0 s1 s2 s3 s4 jf jg jh ji jj jk jl jm
   obtain⟨x0,x1,x5,gb,s0,s1,s2,s3,s4,jf,jg,jh,ji,jj,jk,jl,jm⟩:=HF.O _ eN.O
   refine nP hK ?_
   clear hK K
   refine tP [22,23,24,25,26,27] ?_
   iterate 6 refine tO ?_
   refine ah 5 rfl ?_
   refine sP 28 [0,1,2,3,5,6,7,8,9,10,11,12,13,14,15,16,17,18,19,20,21,22,23,26,27] λ K hK=>?_
   refine lB ?_
   refine bI 37 _ _ rfl B0 0 (zJ b ps.length cf a1 d1 c1 a2 d2 c2 q) (cK b' bz.length bL) 97 rfl rfl (yQ.O w8 eN.O) aR aO (by simp[Value.oneCell']) (λ w7 g1 g2 g3=>?_)
   simp only[aF,bD]at g1
   have qC:=qm nY.O.1 (mA.O w8 eN.O) (yQ.O w8 eN.O) g2
   have nc:=(g2 X uk.O).T (yM.O w8 eN.O)
   have eX:=jo g1 nc qC (g3 0 w8 (Nat.zero_le _) (dp))
   have Dg:=af (λ j (hj:j≠B0)=>g2 j hj)
   clear g1 g2 g3 qC nc x0 x1 x5 gb s0 s1 s2 s3 s4 jf jg jh ji jj jk jl jm
   refine nP hK ?_
   clear hK K
   refine tP [29,30] ?_
   iterate 2 refine tO ?_
   refine ah 2 rfl ?_
   refine sP 31 [0,1,2,3,4,5,6,7,8,9,10,11,12,13,14,15,16,17,18,19,20,21,22,23,24,26,27,28,29,30] λ K hK=>?_
   refine lB ?_
   refine bI 41 _ _ rfl X 28 (UW (zp B0) id (aU y.id) y.g y.m y.s y.del y.at_ wk wn tx g m s d a p1 e1 f1 p2 e2 f2 wt) (ju oA d' c') 124 rfl rfl eX.O.2.1 aR aO (by simp[Value.oneCell']) (λ w9 g1 g2 g3=>?_)
   simp only[aF,bD]at g1
   have Pm:=jo g1 ((g2 B0 (λ e=>uk.O e.symm)).T eX.O.1) (mb eX.O.2.2.1 eX.O.2.1 g2) (g3 0 w7 (Nat.zero_le _) (dp))
   have SP:=af (λ j (hj:j≠X)=>g2 j hj)
   clear g1 g2 g3
   refine nP hK ?_
   clear hK K
   refine tP [32] ?_
   refine tO ?_
   refine ah 0 rfl ?_
   refine dP ?_
   go_simp
   go_wp2_with fail
   go_ret
   obtain⟨Jy,Po,SQ,oQ⟩:=Pm.O
   obtain⟨zM,nc,qC,mv⟩:=eX.O
   refine⟨oA,d',c',b',bL,bz,rfl,Po,Jy,SQ,nY.O.2.1,nY.O.2.2.1,nY.O.2.2.2.1,nY.O.2.2.2.2,?_⟩
   exact(gd.aA eN.O).T (gd.T (V:=w7) ⟨mv.os,mv.tape,mv.output,mv.size, λ j _ hj=>Dg.O j (λ e=>hj (.inr e))⟩ ⟨oQ.os,oQ.tape,oQ.output,oQ.size, λ j _ hj=>SP.O j (λ e=>hj (.inl e))⟩)
  ·skip
   go_simp
   have eP:=af (Mp.O.T (hbJ.mono Mp.O.size))
   clear x0 x1 x5 gb s0 s1 s2 s3 s4 jf jg jh ji jj jk jl jm
   obtain⟨x0,x1,x5,gb,s0,s1,s2,s3,s4,jf,jg,jh,ji,jj,jk,jl,jm⟩:=HF.O _ eP.O
   refine nP hK ?_
   clear hK K
   refine sP 6 [1,2,3,4,5,7,8,9,10] λ K hK=>?_
   go_simp
   (with_reducible refine(je s Pq.O wJ).mono ?_);rintro e w4 ⟨rfl,h8,bH⟩
   have iJ:=af (eP.O.T (bH.mono eP.O.size))
   have H8:=cj h8 bH
   have TX:=af hsJ
   clear h8 bH
   clear x0 x1 x5 gb s0 s1 s2 s3 s4 jf jg jh ji jj jk jl jm
   obtain⟨x0,x1,x5,gb,s0,s1,s2,s3,s4,jf,jg,jh,ji,jj,jk,jl,jm⟩:=HF.O _ iJ.O
   refine nP hK ?_
   clear hK K
   refine tP [12] ?_
   refine tO ?_
   refine ah 3 rfl ?_
   refine sP 13 [1,2,3,4,5,6,7,8,9,10,11,12] λ K hK=>?_
   go_simp
   obtain⟨g2,k2,w6,bt,lu,rR⟩:=eF (P:=Tryz.prog) 195 194 (.agg J5) 5 72 aO pP rfl bd (W:=w4) (n₀:=w.heap.size) (zL (zp (w.heap.size+1)) 8 8 (zp w) id.size cJ) rfl (by simp[Value.oneCell']) (bO.row (HJ.O.2.1.T (H8.O.2.mono HJ.O.2.1.size)) HRQ.O) bd bd iJ.O.size
   have Xl:=af (js lu)
   have iQ:=af (nZ lu rR (Pr.O w4 (HJ.O.2.1.T (H8.O.2.mono HJ.O.2.1.size))) (by have:=H8.O.1;rwa [TX.O]at this) (HJ.O.1.below H8.O.2) (dC s) (dI id) LR.O.1 (λ g hg=>aM (LR.O.2 g hg)) (λ g hg=>aM (LR.O.2 g hg)))
   have jY:Hid (Below w w w6):=af (iJ.O.T rR.below)
   have SR:=af (show Below w w (w4.alloc (.cells (zL (zp (w.heap.size+1)) 8 8 (zp w) id.size cJ) 194))from iJ.O.alloc iJ.O.size _)
   clear lu rR
   clear x0 x1 x5 gb s0 s1 s2 s3 s4 jf jg jh ji jj jk jl jm
   obtain⟨x0,x1,x5,gb,s0,s1,s2,s3,s4,jf,jg,jh,ji,jj,jk,jl,jm⟩:=HF.O _ SR.O
   refine nP hK ?_
   clear hK K
   refine sP 14 [0,1,2,3,4,5,6,7,8,9,10,11,12,13] λ K hK=>?_
   go_simp
   clear bt
   clear x0 x1 x5 gb s0 s1 s2 s3 s4 jf jg jh ji jj jk jl jm
   obtain⟨x0,x1,x5,gb,s0,s1,s2,s3,s4,jf,jg,jh,ji,jj,jk,jl,jm⟩:=HF.O _ jY.O
   refine nP hK ?_
   clear hK K
   refine tP [15] ?_
   refine tO ?_
   refine ah 0 rfl ?_
   refine dP ?_
   go_simp
   have zB:=af (Fy.O w6.drew _ k2 _ jY.O.drew iQ.O rfl Xl.O)
   simp only[List.length_append,List.length_cons,List.length_nil]at zB
   clear x0 x1 x5 gb s0 s1 s2 s3 s4 jf jg jh ji jj jk jl jm
   go_wp2_with fail
   obtain⟨x0,x1,x5,gb,s0,s1,s2,s3,s4,jf,jg,jh,ji,jj,jk,jl,jm⟩:=HF.O _ jY.O
   refine bP 33 ?_
   refine tP [0,1,2,3,4,5,6,7,8,9,10,11,12,13,14,15,16,17,18,19,20] ?_
   iterate 21 refine tO ?_
   refine ah 12 rfl ?_
   refine sP 21 [5,6,7,8,9,10,11,12,13,14,15,16,17,18,19,20] λ K hK=>?_
   go_simp
   (with_reducible refine zB.O.mono ?_);rintro e w8 ⟨oA,d',c',b',bL,bz,rfl,yY,JN,JO,jG,Gh,bJ⟩
   have eN:Hid (Below w w w8):=af (jY.O.drew.T (bJ.mono jY.O.size))
   have nY:=BM yY JN JO jG Gh
   clear yY JN JO jG Gh bJ
   clear x0 x1 x5 gb s0 s1 s2 s3 s4 jf jg jh ji jj jk jl jm
   obtain⟨x0,x1,x5,gb,s0,s1,s2,s3,s4,jf,jg,jh,ji,jj,jk,jl,jm⟩:=HF.O _ eN.O
   refine nP hK ?_
   clear hK K
   refine tP [22,23,24,25,26,27] ?_
   iterate 6 refine tO ?_
   refine ah 5 rfl ?_
   refine sP 28 [0,1,2,3,5,6,7,8,9,10,11,12,13,14,15,16,17,18,19,20,21,22,23,26,27] λ K hK=>?_
   refine lB ?_
   refine bI 37 _ _ rfl B0 0 (zJ b ps.length cf a1 d1 c1 a2 d2 c2 q) (cK b' bz.length bL) 97 rfl rfl (yQ.O w8 eN.O) aR aO (by simp[Value.oneCell']) (λ w7 g1 g2 g3=>?_)
   simp only[aF,bD]at g1
   have qC:=qm nY.O.1 (mA.O w8 eN.O) (yQ.O w8 eN.O) g2
   have nc:=(g2 X uk.O).T (yM.O w8 eN.O)
   have eX:=jo g1 nc qC (g3 0 w8 (Nat.zero_le _) (dp))
   have Dg:=af (λ j (hj:j≠B0)=>g2 j hj)
   clear g1 g2 g3 qC nc x0 x1 x5 gb s0 s1 s2 s3 s4 jf jg jh ji jj jk jl jm
   refine nP hK ?_
   clear hK K
   refine tP [29,30] ?_
   iterate 2 refine tO ?_
   refine ah 2 rfl ?_
   refine sP 31 [0,1,2,3,4,5,6,7,8,9,10,11,12,13,14,15,16,17,18,19,20,21,22,23,24,26,27,28,29,30] λ K hK=>?_
   refine lB ?_
   refine bI 41 _ _ rfl X 28 (UW (zp B0) id (aU y.id) y.g y.m y.s y.del y.at_ wk wn tx g m s d a p1 e1 f1 p2 e2 f2 wt) (ju oA d' c') 124 rfl rfl eX.O.2.1 aR aO (by simp[Value.oneCell']) (λ w9 g1 g2 g3=>?_)
   simp only[aF,bD]at g1
   have Pm:=jo g1 ((g2 B0 (λ e=>uk.O e.symm)).T eX.O.1) (mb eX.O.2.2.1 eX.O.2.1 g2) (g3 0 w7 (Nat.zero_le _) (dp))
   have SP:=af (λ j (hj:j≠X)=>g2 j hj)
   clear g1 g2 g3
   refine nP hK ?_
   clear hK K
   refine tP [32] ?_
   refine tO ?_
   refine ah 0 rfl ?_
   refine dP ?_
   go_simp
   go_wp2_with fail
   go_ret
   obtain⟨Jy,Po,SQ,oQ⟩:=Pm.O
   obtain⟨zM,nc,qC,mv⟩:=eX.O
   refine⟨oA,d',c',b',bL,bz,rfl,Po,Jy,SQ,nY.O.2.1,nY.O.2.2.1,nY.O.2.2.2.1,nY.O.2.2.2.2,?_⟩
   exact(gd.aA eN.O).T (gd.T (V:=w7) ⟨mv.os,mv.tape,mv.output,mv.size, λ j _ hj=>Dg.O j (λ e=>hj (.inr e))⟩ ⟨oQ.os,oQ.tape,oQ.output,oQ.size, λ j _ hj=>SP.O j (λ e=>hj (.inl e))⟩)
 |true=>
  have HY:=af (je y.s (Nat.lt_trans (Xj.O rfl) Pq.O) w)
  clear Xj
  have yM:=af (λ (V:World) (hV:Below w w V)=>show V.heap[X]? =some (.cells (UX (zp B0) id (aU y.id) y.g y.m y.s y.del y.at_ wk wn tx g m s d a p1 e1 f1 p2 e2 f2 wt) 124)from(hV.block X Ii).T hX)
  have HF:Hid (∀W,Below w w W->W.cell? (za X 0)=some (.pointer (zp B0))/\W.cell? (za X 1)=some (.string id)/\W.cell? (za X 5)=some (.int .u64 (y.s:Int))/\W.cell? (za X 17)=some (.int .u64 (s:Int))/\W.cell? (za B0 0)=some (.slice none 0 0)/\W.cell? (za B0 1)=some (.slice b ps.length cf)/\W.cell? (za B0 2)=some (.int .i64 (-1))/\W.cell? (za B0 3)=some (.int .i64 (-1))/\W.cell? (za B0 4)=some (.bool false)/\W.cell? (za B0 13)=some (.int .i64 (a2:Int))/\W.cell? (za B0 14)=some (.int .i64 (d2:Int))/\W.cell? (za B0 15)=some (.int .i64 (c2:Int))/\W.cell? (za B0 16)=some (.int .i64 0)/\W.cell? (za B0 17)=some (.int .i64 0)/\W.cell? (za B0 18)=some (.int .u64 0)/\W.cell? (za B0 19)=some (.int .i64 0)/\W.cell? (za B0 20)=some (.int .i64 0)):=af λ W hb=>by
   have h:=yM.O W hb
   have h2:=yQ.O W hb
   exact⟨(aa h 0).T rfl,(aa h 1).T rfl,(aa h 5).T rfl,(aa h 17).T rfl,(aa h2 0).T rfl,(aa h2 1).T rfl,(aa h2 2).T rfl,(aa h2 3).T rfl,(aa h2 4).T rfl,(aa h2 13).T rfl,(aa h2 14).T rfl,(aa h2 15).T rfl,(aa h2 16).T rfl,(aa h2 17).T rfl,(aa h2 18).T rfl,(aa h2 19).T rfl,(aa h2 20).T rfl⟩
  have yN:=(aa hX 13).T rfl
  simp only[qA,aD]at yN
  clear hS hX Ii QJ
  go_enter Tryz.func62,Tryz.ntmps62
  obtain⟨x0,x1,x5,gb,s0,s1,s2,s3,s4,jf,jg,jh,ji,jj,jk,jl,jm⟩:=HF.O _ ei.O
  go_wp2_with first
   |((with_reducible refine HY.O.mono ?_);rintro e w2 ⟨rfl,h8,aC⟩
     obtain⟨g0,k0,wq,bt,By,yZ⟩:=eF (P:=Tryz.prog) 195 194 (.agg J5) 5 72 aO pP rfl bd (W:=w2) (n₀:=w.heap.size) [.slice (zp w) 8 8,.bool false,.slice none 0 0,.bool false,.int .i64 0] rfl (by simp[Value.oneCell']) (World.ownsRow_nil _ _ _ _) bd bd aC.size
     have Ff:=jo h8 aC By yZ
     clear h8 aC By yZ x0 x1 x5 gb s0 s1 s2 s3 s4 jf jg jh ji jj jk jl jm yN)
   |fail
  obtain⟨h8,aC,By,yZ⟩:=Ff.O
  clear bt
  have iL:Below w2 w2 wq:=⟨yZ.below.os,yZ.below.tape,yZ.below.output,yZ.below.size, λ j hj=>yZ.bT j hj (by simp[Value.ownBlock])⟩
  have hg0:w2.heap.size<=g0:=by
   rcases yZ.at_ with e|⟨g,e,h⟩
   ·simp[Value.ownBlock]at e
   ·simp only[Value.ownBlock,Option.some.injEq]at e;omega
  have da:=rQ h8 (dC y.s)
  have Rp:g0<wq.heap.size:=by
   rcases ay By with⟨h,_⟩|⟨g,cur,h,_,hh⟩
   ·cases h
   ·cases h;exact(aX hh).1
  have Mp:Hid (Below w w wq):=af (aC.T yZ.below)
  have HRQ:Hid (wq.ownsRow w 194 5 (.slice (zp g0) 1 k0) 1 (([⟨some ⟨w.heap.size,0,none⟩,e8 y.s,8,false,none,[],0⟩]:List bN).flatMap bN.cells)):=af (by simpa[bN.cells,dC]using By)
  have Pr:Hid (∀V:World,Below wq wq V->∀x∈([⟨some ⟨w.heap.size,0,none⟩,e8 y.s,8,false,none,[],0⟩]:List bN),ai V x.ka x.key/\ai V x.va x.val):=af λ V hV x hx=>by
   rw[List.mem_singleton]at hx;subst hx
   exact⟨(ai.below h8 iL).below hV,ai.nil _ _⟩
  have LR:Hid ((∀x∈([⟨some ⟨w.heap.size,0,none⟩,e8 y.s,8,false,none,[],0⟩]:List bN),(∀p,x.ka=some p->∀g,(Value.slice (zp g0) 1 k0).ownBlock=some g->p.block<g)/\x.val=[])/\∀g,(Value.slice (zp g0) 1 k0).ownBlock=some g->g<wq.heap.size):=af ⟨λ x hx=>by
   rw[List.mem_singleton]at hx;subst hx
   refine⟨λ p hp g hg=>?_,rfl⟩
   cases hp;simp only[Value.ownBlock,Option.some.injEq]at hg
   show w.heap.size<g;omega, λ g hg=>by simp only[Value.ownBlock,Option.some.injEq]at hg;omega⟩
  have Xk:Hid (Calls Tryz.prog 39 (vS s) wq.drew λ e w'=>e= .returned (.slice (zp wq) 8 8)/\ai w' (zp wq) (e8 s)/\Below wq wq w'):=af ((je s Pq.O wq.drew).mono λ e w' ⟨h1,h2,h3⟩=>⟨h1,h2,((Below.refl _ wq).drew).T h3⟩)
  obtain⟨cJ,wJ,hcJ,hkJ,hgJ,hbJ,hsJ⟩:=gO id wq
  have HJ:=cV hkJ hbJ hsJ
  clear hkJ hgJ h8 aC By yZ iL hg0 da Rp
  obtain⟨x0,x1,x5,gb,s0,s1,s2,s3,s4,jf,jg,jh,ji,jj,jk,jl,jm⟩:=HF.O _ Mp.O
  refine bP 16 ?_
  refine tP [0,1,2,3,4,5,7,8,9,10] ?_
  iterate 10 refine tO ?_
  refine ah 6 rfl ?_
  refine Gr 6 11 [1,2,3,4,5] [7,8,9,10] (λ K hK=>?_) λ K hK=>?_
  ·skip
   go_simp
   (with_reducible refine Xk.O.mono ?_);rintro e w4 ⟨rfl,h8,bH⟩
   obtain⟨cI,wV,hcI,Xg,hgI,Mt,Mu⟩:=yI id w4
   have iJ:=af (Mp.O.T (bH.mono Mp.O.size))
   have H8:=cj h8 bH
   clear x0 x1 x5 gb s0 s1 s2 s3 s4 jf jg jh ji jj jk jl jm
   obtain⟨x0,x1,x5,gb,s0,s1,s2,s3,s4,jf,jg,jh,ji,jj,jk,jl,jm⟩:=HF.O _ iJ.O
   refine nP hK ?_
   clear hK K
   refine sP 11 [1,2,3,4,5,7,8,9,10] λ K hK=>?_
   go_simp
   have eP:=af (iJ.O.T (Mt.mono iJ.O.size))
   have Mn:=cV Xg Mt Mu
   have Yd:Hid (wq.heap.size<w4.heap.size):=af (rQ H8.O.1 (dC s))
   clear hcI Xg hgI Mt Mu h8 bH
   clear x0 x1 x5 gb s0 s1 s2 s3 s4 jf jg jh ji jj jk jl jm
   obtain⟨x0,x1,x5,gb,s0,s1,s2,s3,s4,jf,jg,jh,ji,jj,jk,jl,jm⟩:=HF.O _ eP.O
   refine nP hK ?_
   clear hK K
   refine tP [12] ?_
   refine tO ?_
   refine ah 3 rfl ?_
   refine sP 13 [1,2,3,4,5,6,7,8,9,10,11,12] λ K hK=>?_
   go_simp
   obtain⟨g2,k2,w6,bt,lu,rR⟩:=eF (P:=Tryz.prog) 195 194 (.agg J5) 5 72 aO pP rfl bd (W:=wV) (n₀:=w.heap.size) (zL (zp wq) 8 8 (zp w4) id.size cI) rfl (by simp[Value.oneCell']) (bO.row (H8.O.2.T (Mn.O.2.1.mono H8.O.2.size)) HRQ.O) bd bd eP.O.size
   have Xl:=af (js lu)
   have iQ:=af (nZ lu rR (Pr.O wV (H8.O.2.T (Mn.O.2.1.mono H8.O.2.size))) (H8.O.1.below Mn.O.2.1) Mn.O.1 (dC s) (dI id) LR.O.1 LR.O.2 (λ g hg=>cG (LR.O.2 g hg) Yd.O))
   have jY:Hid (Below w w w6):=af (eP.O.T rR.below)
   have SR:=af (show Below w w (wV.alloc (.cells (zL (zp wq) 8 8 (zp w4) id.size cI) 194))from eP.O.alloc eP.O.size _)
   clear lu rR
   clear x0 x1 x5 gb s0 s1 s2 s3 s4 jf jg jh ji jj jk jl jm
   obtain⟨x0,x1,x5,gb,s0,s1,s2,s3,s4,jf,jg,jh,ji,jj,jk,jl,jm⟩:=HF.O _ SR.O
   refine nP hK ?_
   clear hK K
   refine sP 14 [0,1,2,3,4,5,6,7,8,9,10,11,12,13] λ K hK=>?_
   go_simp
   clear bt
   clear x0 x1 x5 gb s0 s1 s2 s3 s4 jf jg jh ji jj jk jl jm
   obtain⟨x0,x1,x5,gb,s0,s1,s2,s3,s4,jf,jg,jh,ji,jj,jk,jl,jm⟩:=HF.O _ jY.O
   refine nP hK ?_
   clear hK K
   refine tP [15] ?_
   refine tO ?_
   refine ah 0 rfl ?_
   refine dP ?_
   go_simp
   have zB:=af (Fy.O w6.drew _ k2 _ jY.O.drew iQ.O rfl Xl.O)
   simp only[List.length_append,List.length_cons,List.length_nil]at zB
   clear x0 x1 x5 gb s0 s1 s2 s3 s4 jf jg jh ji jj jk jl jm
   go_wp2_with fail
   obtain⟨x0,x1,x5,gb,s0,s1,s2,s3,s4,jf,jg,jh,ji,jj,jk,jl,jm⟩:=HF.O _ jY.O
   refine bP 33 ?_
   refine tP [0,1,2,3,4,5,6,7,8,9,10,11,12,13,14,15,16,17,18,19,20] ?_
   iterate 21 refine tO ?_
   refine ah 12 rfl ?_
   refine sP 21 [5,6,7,8,9,10,11,12,13,14,15,16,17,18,19,20] λ K hK=>?_
   go_simp
   (with_reducible refine zB.O.mono ?_);rintro e w8 ⟨oA,d',c',b',bL,bz,rfl,yY,JN,JO,jG,Gh,bJ⟩
   have eN:Hid (Below w w w8):=af (jY.O.drew.T (bJ.mono jY.O.size))
   have nY:=BM yY JN JO jG Gh
   clear yY JN JO jG Gh bJ
   clear x0 x1 x5 gb s0 s1 s2 s3 s4 jf jg jh ji jj jk jl jm
   obtain⟨x0,x1,x5,gb,s0,s1,s2,s3,s4,jf,jg,jh,ji,jj,jk,jl,jm⟩:=HF.O _ eN.O
   refine nP hK ?_
   clear hK K
   refine tP [22,23,24,25,26,27] ?_
   iterate 6 refine tO ?_
   refine ah 5 rfl ?_
   refine sP 28 [0,1,2,3,5,6,7,8,9,10,11,12,13,14,15,16,17,18,19,20,21,22,23,26,27] λ K hK=>?_
   refine lB ?_
   refine bI 37 _ _ rfl B0 0 (zJ b ps.length cf a1 d1 c1 a2 d2 c2 q) (cK b' bz.length bL) 97 rfl rfl (yQ.O w8 eN.O) aR aO (by simp[Value.oneCell']) (λ w7 g1 g2 g3=>?_)
   simp only[aF,bD]at g1
   have qC:=qm nY.O.1 (mA.O w8 eN.O) (yQ.O w8 eN.O) g2
   have nc:=(g2 X uk.O).T (yM.O w8 eN.O)
   have eX:=jo g1 nc qC (g3 0 w8 (Nat.zero_le _) (dp))
   have Dg:=af (λ j (hj:j≠B0)=>g2 j hj)
   clear g1 g2 g3 qC nc x0 x1 x5 gb s0 s1 s2 s3 s4 jf jg jh ji jj jk jl jm
   refine nP hK ?_
   clear hK K
   refine tP [29,30] ?_
   iterate 2 refine tO ?_
   refine ah 2 rfl ?_
   refine sP 31 [0,1,2,3,4,5,6,7,8,9,10,11,12,13,14,15,16,17,18,19,20,21,22,23,24,26,27,28,29,30] λ K hK=>?_
   refine lB ?_
   refine bI 41 _ _ rfl X 28 (UX (zp B0) id (aU y.id) y.g y.m y.s y.del y.at_ wk wn tx g m s d a p1 e1 f1 p2 e2 f2 wt) (ju oA d' c') 124 rfl rfl eX.O.2.1 aR aO (by simp[Value.oneCell']) (λ w9 g1 g2 g3=>?_)
   simp only[aF,bD]at g1
   have Pm:=jo g1 ((g2 B0 (λ e=>uk.O e.symm)).T eX.O.1) (mb eX.O.2.2.1 eX.O.2.1 g2) (g3 0 w7 (Nat.zero_le _) (dp))
   have SP:=af (λ j (hj:j≠X)=>g2 j hj)
   clear g1 g2 g3
   refine nP hK ?_
   clear hK K
   refine tP [32] ?_
   refine tO ?_
   refine ah 0 rfl ?_
   refine dP ?_
   go_simp
   go_wp2_with fail
   go_ret
   obtain⟨Jy,Po,SQ,oQ⟩:=Pm.O
   obtain⟨zM,nc,qC,mv⟩:=eX.O
   refine⟨oA,d',c',b',bL,bz,rfl,Po,Jy,SQ,nY.O.2.1,nY.O.2.2.1,nY.O.2.2.2.1,nY.O.2.2.2.2,?_⟩
   exact(gd.aA eN.O).T (gd.T (V:=w7) ⟨mv.os,mv.tape,mv.output,mv.size, λ j _ hj=>Dg.O j (λ e=>hj (.inr e))⟩ ⟨oQ.os,oQ.tape,oQ.output,oQ.size, λ j _ hj=>SP.O j (λ e=>hj (.inl e))⟩)
  ·skip
   go_simp
   have eP:=af (Mp.O.T (hbJ.mono Mp.O.size))
   clear x0 x1 x5 gb s0 s1 s2 s3 s4 jf jg jh ji jj jk jl jm
   obtain⟨x0,x1,x5,gb,s0,s1,s2,s3,s4,jf,jg,jh,ji,jj,jk,jl,jm⟩:=HF.O _ eP.O
   refine nP hK ?_
   clear hK K
   refine sP 6 [1,2,3,4,5,7,8,9,10] λ K hK=>?_
   go_simp
   (with_reducible refine(je s Pq.O wJ).mono ?_);rintro e w4 ⟨rfl,h8,bH⟩
   have iJ:=af (eP.O.T (bH.mono eP.O.size))
   have H8:=cj h8 bH
   have TX:=af hsJ
   clear h8 bH
   clear x0 x1 x5 gb s0 s1 s2 s3 s4 jf jg jh ji jj jk jl jm
   obtain⟨x0,x1,x5,gb,s0,s1,s2,s3,s4,jf,jg,jh,ji,jj,jk,jl,jm⟩:=HF.O _ iJ.O
   refine nP hK ?_
   clear hK K
   refine tP [12] ?_
   refine tO ?_
   refine ah 3 rfl ?_
   refine sP 13 [1,2,3,4,5,6,7,8,9,10,11,12] λ K hK=>?_
   go_simp
   obtain⟨g2,k2,w6,bt,lu,rR⟩:=eF (P:=Tryz.prog) 195 194 (.agg J5) 5 72 aO pP rfl bd (W:=w4) (n₀:=w.heap.size) (zL (zp (wq.heap.size+1)) 8 8 (zp wq) id.size cJ) rfl (by simp[Value.oneCell']) (bO.row (HJ.O.2.1.T (H8.O.2.mono HJ.O.2.1.size)) HRQ.O) bd bd iJ.O.size
   have Xl:=af (js lu)
   have iQ:=af (nZ lu rR (Pr.O w4 (HJ.O.2.1.T (H8.O.2.mono HJ.O.2.1.size))) (by have:=H8.O.1;rwa [TX.O]at this) (HJ.O.1.below H8.O.2) (dC s) (dI id) LR.O.1 (λ g hg=>aM (LR.O.2 g hg)) (λ g hg=>aM (LR.O.2 g hg)))
   have jY:Hid (Below w w w6):=af (iJ.O.T rR.below)
   have SR:=af (show Below w w (w4.alloc (.cells (zL (zp (wq.heap.size+1)) 8 8 (zp wq) id.size cJ) 194))from iJ.O.alloc iJ.O.size _)
   clear lu rR
   clear x0 x1 x5 gb s0 s1 s2 s3 s4 jf jg jh ji jj jk jl jm
   obtain⟨x0,x1,x5,gb,s0,s1,s2,s3,s4,jf,jg,jh,ji,jj,jk,jl,jm⟩:=HF.O _ SR.O
   refine nP hK ?_
   clear hK K
   refine sP 14 [0,1,2,3,4,5,6,7,8,9,10,11,12,13] λ K hK=>?_
   go_simp
   clear bt
   clear x0 x1 x5 gb s0 s1 s2 s3 s4 jf jg jh ji jj jk jl jm
   obtain⟨x0,x1,x5,gb,s0,s1,s2,s3,s4,jf,jg,jh,ji,jj,jk,jl,jm⟩:=HF.O _ jY.O
   refine nP hK ?_
   clear hK K
   refine tP [15] ?_
   refine tO ?_
   refine ah 0 rfl ?_
   refine dP ?_
   go_simp
   have zB:=af (Fy.O w6.drew _ k2 _ jY.O.drew iQ.O rfl Xl.O)
   simp only[List.length_append,List.length_cons,List.length_nil]at zB
   clear x0 x1 x5 gb s0 s1 s2 s3 s4 jf jg jh ji jj jk jl jm
   go_wp2_with fail
   obtain⟨x0,x1,x5,gb,s0,s1,s2,s3,s4,jf,jg,jh,ji,jj,jk,jl,jm⟩:=HF.O _ jY.O
   refine bP 33 ?_
   refine tP [0,1,2,3,4,5,6,7,8,9,10,11,12,13,14,15,16,17,18,19,20] ?_
   iterate 21 refine tO ?_
   refine ah 12 rfl ?_
   refine sP 21 [5,6,7,8,9,10,11,12,13,14,15,16,17,18,19,20] λ K hK=>?_
   go_simp
   (with_reducible refine zB.O.mono ?_);rintro e w8 ⟨oA,d',c',b',bL,bz,rfl,yY,JN,JO,jG,Gh,bJ⟩
   have eN:Hid (Below w w w8):=af (jY.O.drew.T (bJ.mono jY.O.size))
   have nY:=BM yY JN JO jG Gh
   clear yY JN JO jG Gh bJ
   clear x0 x1 x5 gb s0 s1 s2 s3 s4 jf jg jh ji jj jk jl jm
   obtain⟨x0,x1,x5,gb,s0,s1,s2,s3,s4,jf,jg,jh,ji,jj,jk,jl,jm⟩:=HF.O _ eN.O
   refine nP hK ?_
   clear hK K
   refine tP [22,23,24,25,26,27] ?_
   iterate 6 refine tO ?_
   refine ah 5 rfl ?_
   refine sP 28 [0,1,2,3,5,6,7,8,9,10,11,12,13,14,15,16,17,18,19,20,21,22,23,26,27] λ K hK=>?_
   refine lB ?_
   refine bI 37 _ _ rfl B0 0 (zJ b ps.length cf a1 d1 c1 a2 d2 c2 q) (cK b' bz.length bL) 97 rfl rfl (yQ.O w8 eN.O) aR aO (by simp[Value.oneCell']) (λ w7 g1 g2 g3=>?_)
   simp only[aF,bD]at g1
   have qC:=qm nY.O.1 (mA.O w8 eN.O) (yQ.O w8 eN.O) g2
   have nc:=(g2 X uk.O).T (yM.O w8 eN.O)
   have eX:=jo g1 nc qC (g3 0 w8 (Nat.zero_le _) (dp))
   have Dg:=af (λ j (hj:j≠B0)=>g2 j hj)
   clear g1 g2 g3 qC nc x0 x1 x5 gb s0 s1 s2 s3 s4 jf jg jh ji jj jk jl jm
   refine nP hK ?_
   clear hK K
   refine tP [29,30] ?_
   iterate 2 refine tO ?_
   refine ah 2 rfl ?_
   refine sP 31 [0,1,2,3,4,5,6,7,8,9,10,11,12,13,14,15,16,17,18,19,20,21,22,23,24,26,27,28,29,30] λ K hK=>?_
   refine lB ?_
   refine bI 41 _ _ rfl X 28 (UX (zp B0) id (aU y.id) y.g y.m y.s y.del y.at_ wk wn tx g m s d a p1 e1 f1 p2 e2 f2 wt) (ju oA d' c') 124 rfl rfl eX.O.2.1 aR aO (by simp[Value.oneCell']) (λ w9 g1 g2 g3=>?_)
   simp only[aF,bD]at g1
   have Pm:=jo g1 ((g2 B0 (λ e=>uk.O e.symm)).T eX.O.1) (mb eX.O.2.2.1 eX.O.2.1 g2) (g3 0 w7 (Nat.zero_le _) (dp))
   have SP:=af (λ j (hj:j≠X)=>g2 j hj)
   clear g1 g2 g3
   refine nP hK ?_
   clear hK K
   refine tP [32] ?_
   refine tO ?_
   refine ah 0 rfl ?_
   refine dP ?_
   go_simp
   go_wp2_with fail
   go_ret
   obtain⟨Jy,Po,SQ,oQ⟩:=Pm.O
   obtain⟨zM,nc,qC,mv⟩:=eX.O
   refine⟨oA,d',c',b',bL,bz,rfl,Po,Jy,SQ,nY.O.2.1,nY.O.2.2.1,nY.O.2.2.2.1,nY.O.2.2.2.2,?_⟩
   exact(gd.aA eN.O).T (gd.T (V:=w7) ⟨mv.os,mv.tape,mv.output,mv.size, λ j _ hj=>Dg.O j (λ e=>hj (.inr e))⟩ ⟨oQ.os,oQ.tape,oQ.output,oQ.size, λ j _ hj=>SP.O j (λ e=>hj (.inl e))⟩)
theorem ed{fn:Func}{p q r u:Tmp}{tp tq tr:TypeId}(h:fn.results=#[.cell p tp,.cell q tq,.cell r tr,.tmp u])(tmps:Array Value)(P:Program)(w:World):
 (results fn tmps).run P w=
   ((asAddr (tmps.getD p undef)).run P w).andThen λ a xv=>((loadVar tp a).run P xv).andThen λ x B9=>((asAddr (tmps.getD q undef)).run P B9).andThen λ b G5=>((loadVar tq b).run P G5).andThen λ y G6=>((asAddr (tmps.getD r undef)).run P G6).andThen λ c We=>((loadVar tr c).run P We).andThen λ z Wf=>.ok (.tuple #[x,y,z,tmps.getD u undef]) Wf:=by
 simp only[results,h]
 simp[Sem.run_bind,Result.andThen]
theorem Ps(S0 S1 S2:World->Prop)(R:Nat->List Piece->Nat->Nat->Nat->Nat->Nat->Nat->Prop)
 (hXl:X<w.heap.size)(hBl:B0<w.heap.size)(hS0:∀W,Below w w W->S0 W)
 (h1:∀W,S0 W->Calls Tryz.prog 60 (dW (zp X)) W λ e w'=>e= .returned (.int .i64 0)/\S1 w'/\gd (λ j=>j=X\/j=B0) W w')
 (h2:∀W,S1 W->Calls Tryz.prog 61 (dW (zp X)) W λ e w'=>e= .returned (.int .i64 0)/\S2 w'/\gd (λ j=>j=X\/j=B0) W w')
 (h3:∀W,S2 W->Calls Tryz.prog 62 (dW (zp X)) W λ e w'=>e= .returned (.int .i64 0)/\(∃(a:Nat) (b':Option Addr) (bL:Nat) (bY:List Piece) (p1 e1 f1 p2 e2 f2:Nat),eE w' B0 b' bY.length bL a1 d1 c1 a2 d2 c2 q/\ew w' X B0 id y wk wn kn tx g m s d a p1 e1 f1 p2 e2 f2 wt/\au w' b' bL bY/\R a bY p1 e1 f1 p2 e2 f2)/\gd (λ j=>j=X\/j=B0) W w'):
 Calls Tryz.prog 46 #[.pointer (zp X),cU a1 d1 c1 a2 d2 c2 q] w λ e w'=>∃(a:Nat) (b':Option Addr) (bL:Nat) (bY:List Piece) (p1 e1 f1 p2 e2 f2:Nat),e= .returned (.tuple #[aE b' bY.length bL,cU p1 e1 f1 p2 e2 f2 s,.agg (cP g m),.int .i64 0])/\au w' b' bL bY/\R a bY p1 e1 f1 p2 e2 f2/\gd (λ j=>j=X\/j=B0) w w':=by
 obtain⟨w1,aH⟩:=aK (((((w.alloc (.cells (Ie a1 d1 c1 a2 d2 c2 q) 43)).alloc (.cells eY 37)).alloc (.cells iH 43)).alloc (.cells ck 54)).alloc (.cells (MF (.func (.func 60) (dW (zp X)) #[]) (.func (.func 61) (dW (zp X)) #[]) (.func (.func 62) (dW (zp X)) #[])) 152))
 have aQ:Below w w w1:=by rw[aH];go_grown
 have bB:w1.heap[w.heap.size+1]? =some (.cells eY 37)/\w1.heap[w.heap.size+1+1]? =some (.cells iH 43)/\w1.heap[w.heap.size+1+1+1]? =some (.cells ck 54):=by
  rw[aH]
  have h:=(vP w (Ie a1 d1 c1 a2 d2 c2 q) eY iH ck 43 37 43 54).2
  exact⟨(Below.heap_alloc _ _ _ aR).T h.1,(Below.heap_alloc _ _ _ aR).T h.2.1,(Below.heap_alloc _ _ _ aR).T h.2.2⟩
 have dD:w1.heap[w.heap.size+1+1+1+1]? =some (.cells (MF (.func (.func 60) (dW (zp X)) #[]) (.func (.func 61) (dW (zp X)) #[]) (.func (.func 62) (dW (zp X)) #[])) 152):=by
  obtain⟨v,hv⟩:=aK ((((w.alloc (.cells (Ie a1 d1 c1 a2 d2 c2 q) 43)).alloc (.cells eY 37)).alloc (.cells iH 43)).alloc (.cells ck 54))
  rw[aH,<-hv,show w.heap.size+1+1+1+1=v.heap.size by rw[hv];simp];exact World.alloc_heap_new _ _
 have wP:=aj dD
 have H0:=af (hS0 w1 aQ)
 have HH1:=af h1
 have HH2:=af h2
 have HH3:=af h3
 have Ce:=cj hXl hBl
 have H1:=cV aQ bB (show w1.heap.size=w.heap.size+1+1+1+1+1 by rw[aH];simp)
 have kg:=af aH
 rw[aH]at wP
 unfold aE cU
 clear hXl hBl hS0 h1 h2 h3 aQ bB dD aH
 go_enter Tryz.func46,Tryz.ntmps46
 go_wp2_with first
  |(refine bh 152 ?_)
  |(refine et 152 ?_)
  |fail
 go_step3
 go_wp2_with first
  |(refine bh 152 ?_)
  |(refine et 152 ?_)
  |fail
 go_step3
 go_wp2_with first
  |(refine bh 152 ?_)
  |(refine et 152 ?_)
  |fail
 rw[<-kg.O]
 clear wP
 go_loopw [9,20] (λ ev iv wr=>∃(i:Nat),ev= .int .i64 0/\iv= .int .i64 (i:Int)/\i<=3/\Hid (((i=0->wr=w1)/\(i=1->S1 wr)/\(i=2->S2 wr)/\(i=3->∃(a:Nat) (b':Option Addr) (bL:Nat) (bY:List Piece) (p1 e1 f1 p2 e2 f2:Nat),eE wr B0 b' bY.length bL a1 d1 c1 a2 d2 c2 q/\ew wr X B0 id y wk wn kn tx g m s d a p1 e1 f1 p2 e2 f2 wt/\au wr b' bL bY/\R a bY p1 e1 f1 p2 e2 f2))/\gd (λ j=>j=X\/j=B0) w1 wr)) (λ _ iv _=>3 - (intOf iv).toNat)
 case atStart=>exact⟨0,rfl,rfl,by decide,af ⟨⟨λ _=>rfl, λ h=>absurd h bd, λ h=>absurd h bd, λ h=>absurd h bd⟩,gd.refl _ _⟩⟩
 case round=>
  obtain⟨i,rfl,rfl,AE,iZ⟩:=hrel
  rcases(show i=0\/i=1\/i=2\/i=3 by omega)with rfl|rfl|rfl|rfl
  ·skip
   have abo:(Instr.index 152 (.agg (MF (.func (.func 60) (dW (zp X)) #[]) (.func (.func 61) (dW (zp X)) #[]) (.func (.func 62) (dW (zp X)) #[]))) (.int .i64 0)).run Tryz.prog wr= .ok (.func (.func 60) (dW (zp X)) #[]) wr:=aO
   have HC:=af (HH1.O wr (by rw[iZ.O.1.1 rfl];exact H0.O))
   go_wp2_with first
    |((with_reducible refine HC.O.mono ?_);rintro e w3 ⟨rfl,iU,Ur⟩;have Us:=cj iU (iZ.O.2.T Ur);clear iU Ur)
    |fail
   exact⟨⟨1,rfl,by simp,by decide,af ⟨⟨λ h=>absurd h bd, λ _=>Us.O.1, λ h=>absurd h bd, λ h=>absurd h bd⟩,Us.O.2⟩⟩,by simp[intOf]⟩
  ·skip
   have abo:(Instr.index 152 (.agg (MF (.func (.func 60) (dW (zp X)) #[]) (.func (.func 61) (dW (zp X)) #[]) (.func (.func 62) (dW (zp X)) #[]))) (.int .i64 1)).run Tryz.prog wr= .ok (.func (.func 61) (dW (zp X)) #[]) wr:=aO
   have HC:=af (HH2.O wr (iZ.O.1.2.1 rfl))
   go_wp2_with first
    |((with_reducible refine HC.O.mono ?_);rintro e w3 ⟨rfl,iU,Ur⟩;have Us:=cj iU (iZ.O.2.T Ur);clear iU Ur)
    |fail
   exact⟨⟨2,rfl,by simp,by decide,af ⟨⟨λ h=>absurd h bd, λ h=>absurd h bd, λ _=>Us.O.1, λ h=>absurd h bd⟩,Us.O.2⟩⟩,by simp[intOf]⟩
  ·skip
   have abo:(Instr.index 152 (.agg (MF (.func (.func 60) (dW (zp X)) #[]) (.func (.func 61) (dW (zp X)) #[]) (.func (.func 62) (dW (zp X)) #[]))) (.int .i64 2)).run Tryz.prog wr= .ok (.func (.func 62) (dW (zp X)) #[]) wr:=aO
   have HC:=af (HH3.O wr (iZ.O.1.2.2.1 rfl))
   go_wp2_with first
    |((with_reducible refine HC.O.mono ?_);rintro e w3 ⟨rfl,iU,Ur⟩;have Us:=cj iU (iZ.O.2.T Ur);clear iU Ur)
    |fail
   exact⟨⟨3,rfl,by simp,by decide,af ⟨⟨λ h=>absurd h bd, λ h=>absurd h bd, λ h=>absurd h bd, λ _=>Us.O.1⟩,Us.O.2⟩⟩,by simp[intOf]⟩
  ·obtain⟨⟨-, -, -,h3⟩,Fz⟩:=iZ.O
   obtain⟨a,b',bL,bY,p1,e1,f1,p2,e2,f2,QQ,jn,Ro,hR⟩:=h3 rfl
   have Mr:=af jn
   have Dc:=af Ro
   have Qz:Hid (R a bY p1 e1 f1 p2 e2 f2/\wr.heap[w.heap.size+1]? =some (.cells eY 37)/\wr.heap[w.heap.size+1+1]? =some (.cells iH 43)/\wr.heap[w.heap.size+1+1+1]? =some (.cells ck 54)/\Below 0 wr wr/\gd (λ j=>j=X\/j=B0) w wr):=af ⟨hR,(Fz.block _ (aM H1.O.2.2) (aM Ce.O)).T H1.O.2.1.1,(Fz.block _ (aM H1.O.2.2) (aM Ce.O)).T H1.O.2.1.2.1,(Fz.block _ (aM H1.O.2.2) (aM Ce.O)).T H1.O.2.1.2.2,dp,(gd.aA H1.O.1).T Fz⟩
   have um:=af QQ
   clear Fz h3 hR iZ jn QQ Ro
   go_wp2_with fail
   have jn:=Mr.O
   have QQ:=um.O
   unfold ew at jn
   unfold eE at QQ
   have x0:=(aa jn 0).T rfl
   have Ut:=(aa jn 15).T rfl
   have Uu:=(aa jn 16).T rfl
   have gb:=(aa jn 17).T rfl
   have x20:=(aa jn 20).T rfl
   have x21:=(aa jn 21).T rfl
   have x22:=(aa jn 22).T rfl
   have x23:=(aa jn 23).T rfl
   have x24:=(aa jn 24).T rfl
   have x25:=(aa jn 25).T rfl
   have x26:=(aa jn 26).T rfl
   have x27:=(aa jn 27).T rfl
   have x28:=(aa jn 28).T rfl
   have x29:=(aa jn 29).T rfl
   have x30:=(aa jn 30).T rfl
   have x31:=(aa jn 31).T rfl
   have x32:=(aa jn 32).T rfl
   have x33:=(aa jn 33).T rfl
   have x34:=(aa jn 34).T rfl
   have x35:=(aa jn 35).T rfl
   have s0:=(aa QQ 0).T rfl
   have s1:=(aa QQ 1).T rfl
   have s2:=(aa QQ 2).T rfl
   have s3:=(aa QQ 3).T rfl
   have s4:=(aa QQ 4).T rfl
   simp only[qA,Sc,aD]at x0 Ut Uu gb x20 x21 x22 x23 x24 x25 x26 x27 x28 x29 x30 x31 x32 x33 x34 x35 s0 s1 s2 s3 s4
   clear jn QQ
   refine bP 30 ?_
   refine tP [0,1,2,3,4,5,6,7,8,9,10,11,12,13,14,15,16,17,18,19,20,21,22,23,24,25] ?_
   iterate 26 refine tO ?_
   refine ah 4 rfl ?_
   refine sP 26 [0,1,2,3,4,5,6] λ K hK=>?_
   refine lB ?_
   refine bI 37 _ _ rfl (w.heap.size+1) 0 eY (cK b' bY.length bL) 37 rfl rfl Qz.O.2.1 aR aO (by simp[Value.oneCell']) (λ w4 g1 g2 g3=>?_)
   simp only[aF,bD]at g1
   have Ir:=cV g1 (λ j (hj:j≠w.heap.size+1)=>g2 j hj) (g3 0 wr (Nat.zero_le _) (dp).drew)
   clear g1 g2 g3 s0 s1 s2 s3 s4 x0
   have jn:=(Ir.O.2.1 X (aM Ce.O)).T Mr.O
   clear Ut
   clear Uu
   clear gb
   clear x20
   clear x21
   clear x22
   clear x23
   clear x24
   clear x25
   clear x26
   clear x27
   clear x28
   clear x29
   clear x30
   clear x31
   clear x32
   clear x33
   clear x34
   clear x35
   have Ut:=(aa jn 15).T rfl
   have Uu:=(aa jn 16).T rfl
   have gb:=(aa jn 17).T rfl
   have x20:=(aa jn 20).T rfl
   have x21:=(aa jn 21).T rfl
   have x22:=(aa jn 22).T rfl
   have x23:=(aa jn 23).T rfl
   have x24:=(aa jn 24).T rfl
   have x25:=(aa jn 25).T rfl
   have x26:=(aa jn 26).T rfl
   have x27:=(aa jn 27).T rfl
   have x28:=(aa jn 28).T rfl
   have x29:=(aa jn 29).T rfl
   have x30:=(aa jn 30).T rfl
   have x31:=(aa jn 31).T rfl
   have x32:=(aa jn 32).T rfl
   have x33:=(aa jn 33).T rfl
   have x34:=(aa jn 34).T rfl
   have x35:=(aa jn 35).T rfl
   simp only[qA,aD]at Ut Uu gb x20 x21 x22 x23 x24 x25 x26 x27 x28 x29 x30 x31 x32 x33 x34 x35
   clear jn
   refine nP hK ?_
   clear hK K
   refine sP 27 [0,1,2,3,4,5,6,7,8,9,10,11,12,13,14,15,16,17,18,19,20,26] λ K hK=>?_
   refine lB ?_
   refine bI 43 _ _ rfl (w.heap.size+1+1) 0 iH (cw p1 e1 f1 p2 e2 f2 s) 43 rfl rfl ((Ir.O.2.1 _ ag).T Qz.O.2.2.1) aR aO (by simp[Value.oneCell']) (λ w5 g1 g2 g3=>?_)
   simp only[aF,bD]at g1
   have Ge:=cV g1 (λ j (hj:j≠w.heap.size+1+1)=>g2 j hj) (g3 0 wr (Nat.zero_le _) Ir.O.2.2)
   clear g1 g2 g3 Ut Uu gb x20 x21 x22 x23 x24 x25 x26 x27 x28 x29 x30 x31 x32 x33 x34 x35
   have jn:=(Ge.O.2.1 X (aM Ce.O)).T ((Ir.O.2.1 X (aM Ce.O)).T Mr.O)
   have Ut:=(aa jn 15).T rfl
   have Uu:=(aa jn 16).T rfl
   simp only[qA,aD]at Ut Uu
   clear jn
   refine nP hK ?_
   clear hK K
   refine sP 28 [0,1,2,3,4,5,6,7,8,9,10,11,12,13,14,15,16,17,18,19,20,21,22,23,24,25,26,27] λ K hK=>?_
   refine lB ?_
   refine bI 54 _ _ rfl (w.heap.size+1+1+1) 0 ck (cP g m) 54 rfl rfl ((Ge.O.2.1 _ ag).T ((Ir.O.2.1 _ ag).T Qz.O.2.2.2.1)) aR aO (by simp[Value.oneCell']) (λ w6 g1 g2 g3=>?_)
   simp only[aF,bD]at g1
   have Uv:=cV g1 (λ j (hj:j≠w.heap.size+1+1+1)=>g2 j hj) (g3 0 wr (Nat.zero_le _) Ge.O.2.2)
   clear g1 g2 g3 Ut Uu
   refine nP hK ?_
   clear hK K
   refine tP [29] ?_
   refine tO ?_
   refine ah 0 rfl ?_
   refine dP ?_
   go_simp
   go_wp2_with fail
   have k1:=(Uv.O.2.1 (w.heap.size+1) ag).T ((Ge.O.2.1 (w.heap.size+1) ag).T Ir.O.1)
   have k2:=(Uv.O.2.1 (w.heap.size+1+1) ag).T Ge.O.1
   have k3:=Uv.O.1
   have y0:=(aa k1 0).T rfl
   have y1:=(aa k1 1).T rfl
   have y2:=(aa k1 2).T rfl
   have y3:=(aa k1 3).T rfl
   have y4:=(aa k1 4).T rfl
   have z0:=(aa k2 0).T rfl
   have z1:=(aa k2 1).T rfl
   have z2:=(aa k2 2).T rfl
   have z3:=(aa k2 3).T rfl
   have z4:=(aa k2 4).T rfl
   have z5:=(aa k2 5).T rfl
   have z6:=(aa k2 6).T rfl
   have z7:=(aa k2 7).T rfl
   have z8:=(aa k2 8).T rfl
   have z9:=(aa k2 9).T rfl
   have CR:=(aa k2 10).T rfl
   have FA:=(aa k2 11).T rfl
   have z12:=(aa k2 12).T rfl
   have FB:=(aa k2 13).T rfl
   have FC:=(aa k2 14).T rfl
   have FE:=(aa k2 15).T rfl
   have FF:=(aa k2 16).T rfl
   have v0:=(aa k3 0).T rfl
   have v1:=(aa k3 1).T rfl
   simp only[aD]at y0 y1 y2 y3 y4 z0 z1 z2 z3 z4 z5 z6 z7 z8 z9 CR FA z12 FB FC FE FF v0 v1
   have GC:au w4 b' bL bY:=cO (W:=wr) (g:=w.heap.size+1) (λ j _ hj=>Ir.O.2.1 j hj) Dc.O (db.Fw Dc.O Qz.O.2.1 (λ j x=>by rcases j with _|_|_|_|_|j<;>simp) (λ j a n k e=>by rcases j with _|_|_|_|_|j<;>simp at e<;>omega))
   have yY:au w5 b' bL bY:=cO (g:=w.heap.size+1+1) (λ j _ hj=>Ge.O.2.1 j hj) GC (db.Fw GC ((Ir.O.2.1 _ ag).T Qz.O.2.2.1) (λ j x=>by rcases j with _|_|_|_|_|_|_|_|_|_|_|_|_|_|_|_|_|j<;>simp) (λ j a n k e=>by rcases j with _|_|_|_|_|_|_|_|_|_|_|_|_|_|_|_|_|j<;>simp at e))
   have QR:au w6 b' bL bY:=cO (g:=w.heap.size+1+1+1) (λ j _ hj=>Uv.O.2.1 j hj) yY (db.Fw yY ((Ge.O.2.1 _ ag).T ((Ir.O.2.1 _ ag).T Qz.O.2.2.2.1)) (λ j x=>by rcases j with _|_|j<;>simp) (λ j a n k e=>by rcases j with _|_|j<;>simp at e))
   have Fz:gd (λ j=>j=X\/j=B0) w w6:=by
    have ho:=Qz.O.2.2.2.2.2
    have hb:=Uv.O.2.2
    exact⟨hb.os.T ho.os,hb.tape.T ho.tape,hb.output.T ho.output,Nat.le_trans ho.size hb.size, λ j hj hn=>(Uv.O.2.1 j ag).T ((Ge.O.2.1 j ag).T ((Ir.O.2.1 j ag).T (ho.block j hj hn)))⟩
   have eJ:=cj QR Fz
   clear k1 k2 k3 GC yY QR Fz
   rw[Exit.noGoto_ret]
   refine bodyPost_ret (v:=.tuple (UY (.agg (cK b' bY.length bL)) (.agg (cw p1 e1 f1 p2 e2 f2 s)) (.agg (cP g m)))) (by rw[ed rfl];go_simp) (by rfl) ⟨a,b',bL,bY,p1,e1,f1,p2,e2,f2,rfl,eJ.O.1,Qz.O.1,eJ.O.2⟩
theorem Iu(hX:ew w X B0 id y wk wn kn tx g m s true a p1 e1 f1 p2 e2 f2 wt):
 Calls Tryz.prog 60 (dW (zp X)) w λ e w'=>e= .returned (.int .i64 0)/\w'=w:=by
 have Gg:=(aa hX 18).T rfl
 simp only[qA,aD]at Gg
 clear hX
 go_enter Tryz.func60,Tryz.ntmps60
 go_wp2_with fail
 go_ret
 exact⟨rfl,rfl⟩
structure iF(ps bY:List Piece)(k:Nat):Prop where
 ext:∃m,al bY=al ps++m
 len:(al bY).length<=(al ps).length+k
 marks:Marks (al bY)
theorem iF.T{abp:List Piece}{j:Nat}(h:iF ps bY j)(h2:iF bY abp k):iF ps abp (j+k):=by
 obtain⟨m,hm⟩:=h.ext
 obtain⟨n,hn⟩:=h2.ext
 exact⟨⟨m++n,by rw[hn,hm,List.append_assoc]⟩,by have:=h.len;have:=h2.len;omega,h2.marks⟩
theorem iF.tree(h:iF ps bY k){d:Nat}(ht:dh (al ps) a d c its):dh (al bY) a d c its:=by
 obtain⟨m,hm⟩:=h.ext;rw[hm];exact ht.more m
theorem iF.recAt(h:iF ps bY k){p:List Nat}(ht:dO (al ps) a p):dO (al bY) a p:=by
 obtain⟨m,hm⟩:=h.ext;rw[hm];exact ht.more m
def Iv(all:List Nat)(d:Bool)(a:Nat)(n:Int):Prop:=(d=true->a=0)/\(d=false->1<=a/\a<524288/\dO all a (cR n))
theorem LS(N:Nat):1<=br N/\br N<=N+1:=by unfold br;split<;>omega
theorem SS(n:Int)(h2: -9223372036854775808<=n)(h3:n<9223372036854775808):∀x∈cR n,x<256:=by
 obtain⟨ds,hd,_,_⟩:=EJ n h2 h3
 intro x hx
 obtain⟨j,hj⟩:=List.mem_iff_getElem?.1 hx
 by_cases h:j<nR (decide (n<0))
 ·have hn:n<0:=by
   unfold nR at h
   by_cases hn:n<0
   ·exact hn
   ·simp[hn]at h
  have h0:j=0:=by unfold nR at h;simp[hn]at h;exact h
  subst h0
  unfold cR at hj
  rw[if_pos hn]at hj
  simp at hj;omega
 ·have hl:=(List.getElem?_eq_some_iff.1 hj).1
  rw[hd.length]at hl
  obtain⟨d,Ss⟩:∃d,ds[j - nR (decide (n<0))]? =some d:=⟨_,List.getElem?_eq_getElem ag⟩
  have:=hd.at _ d Ss
  rw[show nR (decide (n<0))+(j - nR (decide (n<0)))=j by omega,hj]at this
  have h2:x=48+d:=by simpa using this.2
  omega
theorem LU(h:∀x∈l,1<=x.id.length/\x.id.length<=24)(hp:its.Perm (l.map yF)):cQ its:= λ kv hk=>by
 obtain⟨x,hx,rfl⟩:=List.mem_map.1 (hp.mem_iff.1 hk)
 have:=h x hx
 exact⟨this.1,this.2,by rw[show(yF x).2=x.enc from rfl,ti];decide,by rw[show(yF x).2=x.enc from rfl,ti];decide⟩
theorem Iw(h:∀x∈l,1<=x.id.length/\x.id.length<=24):cQ (l.map iP):= λ kv hk=>by
 obtain⟨x,hx,rfl⟩:=List.mem_map.1 hk
 have:=h x hx
 exact⟨by rw[show(iP x).1=e8 x.s from rfl,dC];decide,by rw[show(iP x).1=e8 x.s from rfl,dC];decide,this.1,this.2⟩
theorem Bz(hS:eE w B0 b ps.length cf a1 d1 c1 a2 d2 c2 q){o:Option aG}(hX:ew w X B0 id (o.getD aV) wk wn o.isSome tx g m (q+1) d 0 0 0 0 0 0 0 wt)(bS:X≠B0)
 (hF:au w b cf ps)(hm:Marks (al ps))(hC:cB (al ps) a1 d1 c1 a2 d2 c2 q es)(ho:fT es (dk id) o)(hid:oR id=0)(hg:1<=g)(hgq:g<=q+1)(CJ:m<4294967296)(hq:q<1000)(n:Int)(Yg:d=false->tx=aU (cR n)/\ -9223372036854775808<=n/\n<9223372036854775808)
 (dX:(al ps).length+12000<=524288)(ma:(es.filter λ y=>decide (y.id≠dk id)).length+1<=32):
 Calls Tryz.prog 46 #[.pointer (zp X),cU a1 d1 c1 a2 d2 c2 q] w λ e w'=>∃(at_:Nat) (b':Option Addr) (bL:Nat) (bY:List Piece) (p1 e1 f1 p2 e2 f2:Nat),e= .returned (.tuple #[aE b' bY.length bL,cU p1 e1 f1 p2 e2 f2 (q+1),.agg (cP g m),.int .i64 0])/\au w' b' bL bY/\(iF ps bY 8000/\cB (al bY) p1 e1 f1 p2 e2 f2 (q+1) (ee es ⟨dk id,g,m,q+1,d,at_,if d then 0 else n⟩))/\gd (λ j=>j=X\/j=B0) w w':=by
 have hXl:=(aX hX).1
 have hBl:=(aX hS).1
 have vf:1<=id.size/\id.size<=24:=by
  have:=rK (id:=dk id) (by rw[lg];exact hid)
  rw[dI]at this;exact this
 have aan:∀x∈es,1<=x.id.length/\x.id.length<=24:= λ x hx=>rK (hC.ok x hx).id
 have hwl:∀(x:aG),x.id=dk id->∀z∈ee es x,1<=z.id.length/\z.id.length<=24:= λ x hx z hz=>by
  rcases List.mem_append.1 hz with hz|hz
  ·exact aan z (List.mem_filter.1 hz).1
  ·rw[List.mem_singleton]at hz;subst hz;rw[hx,dI];exact vf
 have hwn:∀(x:aG),x.id=dk id->(ee es x).length<=32:= λ x hx=>by
  unfold ee;rw[List.length_append,List.length_singleton,hx];exact ma
 have Uw:∀a all,Iv all d a n->rJ g m (q+1) d a:= λ a all hb=>⟨hg,ag,CJ,ag,ag,hb.1, λ e=>⟨(hb.2 e).1,(hb.2 e).2.1⟩⟩
 obtain⟨its,hip,Yc⟩:=hC.ids
 have abq:=qa.1 Yc.oW
 have ac0:its.length<=32:=by rw[hip.length_eq,List.length_map];exact hC.many
 refine Ps (id:=id) (y:=o.getD aV) (wk:=wk) (wn:=wn) (kn:=o.isSome) (tx:=tx) (d:=d) (wt:=wt) (λ W=>eE W B0 b ps.length cf a1 d1 c1 a2 d2 c2 q/\ew W X B0 id (o.getD aV) wk wn o.isSome tx g m (q+1) d 0 0 0 0 0 0 0 wt/\au W b cf ps)
  (λ W=>∃a b' bL bY,eE W B0 b' bY.length bL a1 d1 c1 a2 d2 c2 q/\ew W X B0 id (o.getD aV) wk wn o.isSome tx g m (q+1) d a 0 0 0 0 0 0 wt/\au W b' bL bY/\iF ps bY 27/\Iv (al bY) d a n)
  (λ W=>∃a b' bL bY p1 e1 f1,eE W B0 b' bY.length bL a1 d1 c1 a2 d2 c2 q/\ew W X B0 id (o.getD aV) wk wn o.isSome tx g m (q+1) d a p1 e1 f1 0 0 0 wt/\au W b' bL bY/\iF ps bY (27+3840)/\Iv (al bY) d a n/\dh (al bY) p1 e1 f1 (dK its [⟨dk id,true,b5 g m (q+1) d a⟩]))
  (λ a bY p1 e1 f1 p2 e2 f2=>iF ps bY 8000/\cB (al bY) p1 e1 f1 p2 e2 f2 (q+1) (ee es ⟨dk id,g,m,q+1,d,a,if d then 0 else n⟩)) hXl hBl (λ W hW=>⟨hS.below hW,(hW.block X hXl).T hX,hF.below hW⟩) ?_ ?_ ?_
 ·rintro W ⟨s1,s2,s3⟩
  cases d with
  |true=>
   refine(Iu s2).mono ?_
   rintro e w' ⟨rfl,rfl⟩
   exact⟨rfl,⟨0,b,cf,ps,s1,s2,s3,⟨⟨[],by simp⟩,ag,hm⟩,⟨λ _=>rfl, λ e=>absurd e bd⟩⟩,gd.refl _ _⟩
  |false=>
   obtain⟨h1,h2,h3⟩:=Yg rfl
   have jr:=kx n h2 h3
   have vT:dk tx=cR n:=by rw[h1];exact yH (SS n h2 h3)
   have acJ:(cR n).length<=20/\1<=(cR n).length:=by
    have:(aU (cR n)).size=(cR n).length:=by simp[aU,ByteArray.size]
    omega
   have yV:=pX (eV (dk tx)) (al ps).length
   rw[mE,vT]at yV
   have Kv:(dq (al ps).length (eV (dk tx))).length<=27:=by rw[vT];omega
   refine(It s1 s2 bS s3 hm (by rw[h1];exact jr.1) (by rw[h1];omega) ag).mono ?_
   rintro e w' ⟨b',bL,bY,rfl,t1,t2,t3,t4,t5⟩
   have hb:=LS (al ps).length
   refine⟨rfl,⟨_,b',bL,bY,t1,t2,t3,⟨⟨_,t4⟩,by rw[t4,List.length_append];omega,by rw[t4];exact AH hm _⟩,⟨λ e=>absurd e bd, λ _=>⟨hb.1,ag,?_⟩⟩⟩,t5⟩
   rw[t4,vT]
   exact dO.new _ _ acJ.2 ag (λ x hx=>by rw[<-vT]at hx;exact Ia tx x hx)
 ·rintro W ⟨a,b',bL,bY,s1,s2,s3,s4,s5⟩
  have hx:(⟨dk id,g,m,q+1,d,a,if d then 0 else n⟩:aG).id=dk id:=rfl
  obtain⟨k1,k2⟩:=EY ⟨dk id,g,m,q+1,d,a,if d then 0 else n⟩ hip abq hC.apart
  have hl:(dK its [⟨dk id,true,b5 g m (q+1) d a⟩]).length<=32:=by
   have:=k2.length_eq
   rw[List.length_map]at this
   have h2:=hwn _ hx
   unfold ee at h2
   exact this▸h2
  have Iy:(al bY).length+200*(dK its [⟨dk id,true,b5 g m (q+1) d a⟩]).length<=524288:=aM s4.len
  refine(SO s1 s2 bS s3 s4.marks (Uw a _ s5) vf.1 vf.2 (s4.tree Yc) ag rfl ag (LU (hwl _ hx) k2) Iy).mono ?_
  rintro e w' ⟨p1,e1,f1,b2,Ym,Xc,rfl,t1,t2,t3,t4,t5,t6,t7,t8⟩
  have eU:iF bY Xc 3840:=⟨t6,ag,t4⟩
  exact⟨rfl,⟨a,b2,Ym,Xc,p1,e1,f1,t1,t2,t3,s4.T eU,⟨s5.1, λ e=>⟨(s5.2 e).1,(s5.2 e).2.1,eU.recAt (s5.2 e).2.2⟩⟩,t5⟩,t8⟩
 ·rintro W ⟨a,b',bL,bY,p1,e1,f1,s1,s2,s3,s4,s5,s6⟩
  have hx:(⟨dk id,g,m,q+1,d,a,if d then 0 else n⟩:aG).id=dk id:=rfl
  have bg:∀y∈es,y.s<q+1:= λ y hy=>by have:=(hC.ok y hy).le;omega
  have hsd:dK (es.map iP) ((if o.isSome then[⟨e8 (o.getD aV).s,false,[]⟩]else[])++[⟨e8 (q+1),true,dk id⟩])=(ee es ⟨dk id,g,m,q+1,d,a,if d then 0 else n⟩).map iP:=by
   refine Lq ⟨dk id,g,m,q+1,d,a,if d then 0 else n⟩ hC.oW bg (show q+1<_ by omega) hC.apart ?_
   cases o with
   |none=>exact .inl ⟨ho,rfl⟩
   |some x=>exact .inr ⟨x,ho.1,ho.2,rfl⟩
  have hl:((ee es ⟨dk id,g,m,q+1,d,a,if d then 0 else n⟩).map iP).length<=32:=by rw[List.length_map];exact hwn _ hx
  have Iy:(al bY).length+200*((ee es ⟨dk id,g,m,q+1,d,a,if d then 0 else n⟩).map iP).length<=524288:=aM s4.len
  refine(Pp s1 s2 bS s3 s4.marks vf.2 ag (λ e=>?_) (s4.tree hC.Lo) (by rw[List.length_map];have:=hC.many;omega) hsd.symm ag (Iw (hwl _ hx)) Iy).mono ?_
  ·cases o with
   |none=>cases e
   |some x=>exact bg x ho.1
  ·rintro e w' ⟨p2,e2,f2,b2,Ym,Xc,rfl,t1,t2,t3,t4,t5,t6,t7,t8⟩
   have eU:iF bY Xc 3840:=⟨t6,ag,t4⟩
   have Se:=s4.T eU
   refine⟨rfl,⟨a,b2,Ym,Xc,p1,e1,f1,p2,e2,f2,t1,t2,t3,⟨Se.ext,by have:=Se.len;omega,Se.marks⟩,⟨⟨_,(EY ⟨dk id,g,m,q+1,d,a,if d then 0 else n⟩ hip abq hC.apart).2,eU.tree s6⟩,t5, λ z hz=>?_,hwn _ hx⟩⟩,t8⟩
   obtain⟨mm,acK⟩:=Se.ext
   rcases List.mem_append.1 hz with hz|hz
   ·rw[acK];exact(hC.ok z (List.mem_filter.1 hz).1).more mm ag
   ·rw[List.mem_singleton]at hz;subst hz
    refine⟨by rw[show(⟨dk id,g,m,q+1,d,a,if d then 0 else n⟩:aG).id=dk id from rfl,lg];exact hid,Uw a _ s5,aW,hgq, λ e=>?_⟩
    have e':d=false:=e
    subst e'
    exact⟨(Yg rfl).2.1,(Yg rfl).2.2,eU.recAt (s5.2 rfl).2.2⟩
theorem BA{all:List Nat}(hC:cB all a1 d1 c1 a2 d2 c2 q es){id:List Nat}:∀{o o':Option aG},fT es id o->fT es id o'->o=o'
 |none,none,_,_=>rfl
 |some x,some y,h,h'=>by rw[yG (f:=aG.id) hC.apart h.1 h'.1 (h.2.T h'.2.symm)]
 |none,some y,h,h'=>absurd h'.2 (h y h'.1)
 |some x,none,h,h'=>absurd h.2 (h' x h.1)
theorem Pt(es:List aG)(id:List Nat):∃o,fT es id o:=by
 by_cases h:∃x,x∈es/\x.id=id
 ·obtain⟨x,hx⟩:=h;exact⟨some x,hx⟩
 ·exact⟨none, λ x hx e=>h ⟨x,hx,e⟩⟩
theorem m9(hF:au w b cf ps)(hm:Marks (al ps))(hC:cB (al ps) a1 d1 c1 a2 d2 c2 q es)(hq:q<=1099511627776)(s:ByteArray)(j4:s.size<=4611686018427387904)(hid:oR s=0){o:Option aG}(ho:fT es (dk s) o):
 Calls Tryz.prog 44 #[aE b ps.length cf,cU a1 d1 c1 a2 d2 c2 q,.string s] w λ e w'=>∃(X B0:Nat) (wk wn:Int),e= .returned (.tuple #[.pointer (zp X),.int .i64 0])/\w.heap.size<=X/\w.heap.size<=B0/\X≠B0/\eE w' B0 b ps.length cf a1 d1 c1 a2 d2 c2 q/\ew w' X B0 s (o.getD aV) wk wn o.isSome ⟨#[]⟩ 0 0 0 false 0 0 0 0 0 0 0 (bZ o)/\Below w w w':=
 (Bh hF hm hC hq s j4).mono λ e w' ⟨hb,h⟩=>by
   rcases h with⟨h1,_⟩|⟨_,o',X,B0,wk,wn,rfl,h2,h3,h4,h5,h6,h7⟩
   ·exact absurd hid h1
   ·have:=BA hC h5 ho
    subst this
    exact⟨X,B0,wk,wn,rfl,h2,h3,h4,h6,h7,hb⟩
theorem FG(hF:au w b cf ps)(hm:Marks (al ps))(hC:cB (al ps) a1 d1 c1 a2 d2 c2 q es)(hq:q<=1099511627776)(s:ByteArray)(j4:s.size<=4611686018427387904)(hid:oR s≠0):
 Calls Tryz.prog 44 #[aE b ps.length cf,cU a1 d1 c1 a2 d2 c2 q,.string s] w λ e w'=>e= .returned (.tuple #[.pointer none,.int .i64 290])/\Below w w w':=
 (Bh hF hm hC hq s j4).mono λ e w' ⟨hb,h⟩=>by
   rcases h with⟨_,rfl⟩|⟨h1,_⟩
   ·exact⟨rfl,hb⟩
   ·exact absurd h1 hid
end
theorem Pu(ty:TypeId)(x:Operand)(ho:o.op= .load ty x)(b SU:Nat)(hx:ev x= .pointer (some ⟨b,SU,none⟩))(cs:List Value)(d:TypeDesc)(hc:W.rangeAt b SU cs)(hu:P.underlying ty=some d)(hd:d.isRow=true)(hi:(P.info? ty).map (·.size)=some cs.length):
 (execOp ev o).run P W= .ok (.value (.agg cs.toArray)) W:=by
 have h:=run_loadAt_mid W b SU ty cs d hc hu hd hi
 unfold execOp
 simp[ho,hx,h,Result.andThen]
def LV(fa:Option Addr)(n fc:Nat):jH:=⟨fa,e8 n,fc,false,none,[],0⟩
def eS(es:List aG)(n:Nat)(bX:Int):List aG:=(es.filter λ x=>decide (n<x.s)).take bX.toNat
def eQ(x:aG):List Value:=(se x.s (aU x.id) x.g x.m x.del)
theorem Iz(hs:s<18446744073709551616)(hn:n<18446744073709551616)(fa:Option Addr)(fc:Nat):(LV fa n fc).holds (e8 s)=decide (n<=s):=by
 have key:0<=cmpL (e8 s) (e8 n)↔n<=s:=by
  rcases Nat.lt_trichotomy s n with h|h|h
  ·have h1:=qP h hn
   unfold fV at h1
   rw[h1];omega
  ·subst h;rw[uf];omega
  ·have h1:=qP h hs
   unfold fV at h1
   rw[mP,h1];omega
 unfold jH.holds jH.ends LV
 simp[key]
theorem LW(h:∀x∈es,x.s<18446744073709551616)(hn:n+1<18446744073709551616)(fa:Option Addr)(fc:Nat)(bX:Int)(hm:1<=bX):
 lQ bX (iO (LV fa (n+1) fc) (es.map iP))=(eS es n bX).map iP:=by
 have e:iO (LV fa (n+1) fc) (es.map iP)=(es.filter λ x=>decide (n<x.s)).map iP:=by
  unfold iO
  rw[List.filter_map]
  congr 1
  refine List.filter_congr λ x hx=>?_
  exact Iz (h x hx) hn fa fc
 unfold lQ eS
 rw[if_neg ag,e,List.map_take]
theorem FH{bX:Int}:∀x∈eS es n bX,x∈es/\n<x.s:= λ x hx=>by
 have h:=List.mem_filter.1 (List.mem_of_mem_take hx)
 exact⟨h.1,of_decide_eq_true h.2⟩
theorem Ux{ty:TypeId}{x:Operand}{b SU:Nat}{cs:List Value}(ho:o.op= .load ty x:=by rfl)(hx:ev x= .pointer (some ⟨b,SU,none⟩):=by rfl)(hc:W.rangeAt b SU cs:=by assumption)(hu:(P.underlying ty).any TypeDesc.isRow=true:=by kernel_rfl)(hi:(P.info? ty).map (·.size)=some cs.length:=by kernel_rfl):(execOp ev o).run P W= .ok (.value (.agg cs.toArray)) W:=by
 cases hd:P.underlying ty with
 |none=>rw[hd]at hu;cases hu
 |some d=>rw[hd]at hu;exact Pu ty x ho b SU hx cs d hc hd hu hi
section
variable {P : Program} {ops : Array Oper} {Q : Exit -> Act -> World -> Prop} {md : Region.Mode}
theorem IA{i:Nat}{is:List (Nat×Bool)}{ob:iV}{a:Act}{v:Value}{q:Prop}(hq:q)(ho:ops[i]? =some o:=by exact rfl)(hw:Region.wanted o (yielded ops a.tmps)=true:=by kernel_rfl)(hv:(execOp a.eval o).run P w= .ok (.value v) w:=by first|exact Ux|(go_simp<;>with_reducible rfl))
 (h:q->gh P md ops Q dead is (fuel - 1) ((i, λ w'=>(execOp a.eval o).run P w'= .ok (.value v) w')::ob) (listed.setIfInBounds i true) (a.put o.dst v) w:=by intro h;(try simp only[Act.put,List.setIfInBounds_toArray,List.set_cons_zero,List.set_cons_succ,List.getElem_toArray,List.getElem_cons_zero,List.getElem_cons_succ]);exact h):gh P md ops Q dead ((i,true)::is) fuel ob listed a w:=sh ho hw v hv (h hq)
theorem My{K':Act->World->Prop}{ob:iV}{a:Act}(hK:Shut (∀a w,qo dead ob w->vU P md ops Q fuel dead ob listed a w->K' a w))(h:vU P md ops Q fuel dead ob listed a w)(ho:qo dead ob w:=by(repeat(refine⟨?_,?_⟩;·(first|exact trivial|((try dsimp only);exact Ux)|((try dsimp only);go_simp))));exact trivial):K' a w:=hK.out a w ho h
end
end Go.Proofs.YtkgapncajjafoaaGreatDoor

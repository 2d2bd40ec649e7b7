/- The store, part 24. -/
import Derived.Test.YtbiififbfefkjaaGreatDoorMAu
import Derived.Test.YtbiififbfefkjaaGreatDoorMAv
set_option linter.unusedSimpArgs false
set_option linter.unusedVariables false
set_option maxRecDepth 100000
set_option maxHeartbeats 16000000
namespace Go.Proofs.YtbiififbfefkjaaGreatDoor
open Go.RowKit Go.Shelf
variable{W W' w:World}{g c c0 a1 d1 c1 a2 d2 c2 q X B0 m s a p1 e1 f1 p2 e2 f2 cf n₀ k:Nat}{ps T3 eQ:List Piece}{id tx:ByteArray}{y:bX}{wk wn:Int}{kn d wt:Bool}{items its:List KV}{p:Prop}{l es:List bX}{o:Option bX}
section
attribute [local go_sem] Oper.semAt_some
attribute [-go_sem] Builtin.append_
theorem fE.aiv{b b0:az}(h:aQ W b c ps)(h0:aQ W b0 c0 T3){cs:Array Value}{t:TypeId}(hg:W.heap[g]? =some (.cells cs t))(h8:∀(j x:Nat),cs[j]? ≠some (.int .u8 (x:Int)))(hs:∀(j:Nat) (a:az) (n k:Nat),cs[j]? =some (.slice a n k)->n=0\/(a=b0/\n=T3.length)):fE g b ps:=by
 constructor
 ·rcases h.pieces.1 with h1|⟨B,o,e,hc⟩
  ·exact .inl h1
  ·cases ps with
   |nil=>exact .inl rfl
   |cons p0 pr=>
    refine .inr λ G o2 e2=>?_;rw[e]at e2;cases e2;rintro rfl;have h2:=hc 0 p0 rfl;rw[af hg]at h2;have h3:=h.pieces.2 p0 bD;rcases hs _ _ _ _ h2 with h4|⟨h4,h5⟩
    ·exact h3.1 (cw.1 h4)
    ·have h6:0<T3.length:=by rw[<-h5];exact gZ.2 h3.1
     rcases h0.pieces.1 with h7|⟨B',o',e',hc'⟩
     ·rw[h7]at h6;cases h6
     ·obtain⟨q0,Rf⟩:∃q0,T3[0]? =some q0:=⟨_,aB h6⟩;have h8':=hc' 0 q0 Rf;rcases h3.2.2.2 with h9|⟨C,o3,e3,CT⟩
      ·exact h3.1 h9
      ·rw[h4,e']at e3;cases e3;cases C0:p0.2.1 with
       |nil=>exact h3.1 C0
       |cons x l=>
        have:=CT 0 x mP;rw[h8']at this;cases this
 ·intro p hp G o e;obtain⟨h1,_,h2⟩:=h.pieces.2 p hp;rcases h2.2 with h0|⟨C,o2,e2,hc⟩
  ·exact absurd h0 h1
  ·rw[e]at e2;cases e2;cases C0:p.2.1 with
   |nil=>exact absurd C0 h1
   |cons x l=>
    rintro rfl;have:=hc 0 x mP;rw[af hg]at this;exact h8 _ _ this
theorem EG{B:Nat}{b b0:az}(h:aQ W b c ps)(h0:aQ W b0 c0 T3)(hS:jV W B b0 T3.length c0 a1 d1 c1 a2 d2 c2 q)(hk:∀j,j≠B->W'.heap[j]? =W.heap[j]?):aQ W' b c ps:=
 dZ (g:=B) (λ j _ hj=>hk j hj) h (fE.aiv h h0 hS
  (λ j x=>by intro e;have:=dR e;simp at this)
  (λ j a n k e=>by have:=dR e;simp at this;exact this.imp (·.2.1) λ h=>⟨h.1,h.2.1⟩))
theorem yG{b:az}(h:aQ W b c ps)(hX:kP W X B0 id y wk wn kn tx g m s d a p1 e1 f1 p2 e2 f2 wt)(hk:∀j,j≠X->W'.heap[j]? =W.heap[j]?):aQ W' b c ps:=
 dZ (g:=X) (λ j _ hj=>hk j hj) h (fE.Uu h hX
  (λ j x=>by intro e;have:=dR e;simp at this)
  (λ j a' n k e=>by have:=dR e;simp at this;omega))
theorem QV{b:az}(hS:jV w B0 b ps.length cf a1 d1 c1 a2 d2 c2 q)(hX:kP w X B0 id y wk wn kn tx g m s false a p1 e1 f1 p2 e2 f2 wt)(dN:X≠B0)
 (hF:aQ w b cf ps)(hm:Marks (aw ps))(h1:1<=tx.size)(h2:tx.size<=4096)(jN:(aw ps).length+(ed (aw ps).length (ft (kE tx))).length<=524288):
 Calls Tryz.prog 45 (iS (zp X)) w λ e w'=>∃(b':az) (iC:Nat) (eQ:List Piece),e= .returned (.int .i64 0)/\jV w' B0 b' eQ.length iC a1 d1 c1 a2 d2 c2 q/\kP w' X B0 id y wk wn kn tx g m s false (db (aw ps).length) p1 e1 f1 p2 e2 f2 wt/\aQ w' b' iC eQ/\aw eQ=aw ps++ed (aw ps).length (ft (kE tx))/\ns (λ j=>j=X\/j=B0) w w':=by
 have O7:=(cS hX).1;have hBs:=(cS hS).1;obtain⟨cA,wA,hcA,UW,TR,Hg,Zb⟩:=nr tx w;have JW:=ag (λ (V:World) (hV:Below w w V)=>show V.heap[X]? =some (.cells #[.pointer (zp B0),.string id,.string (cE y.id),.int .u32 (y.g:Int),.int .u32 (y.m:Int),.int .u64 (y.s:Int),.bool y.del,.int .i64 (y.at_:Int),.int .i64 wk,.int .i64 wn,.string ⟨#[]⟩,.slice none 0 0,.slice none 0 0,.bool kn,.string tx,.int .u32 (g:Int),.int .u32 (m:Int),.int .u64 (s:Int),.bool false,.int .i64 (a:Int),.int .i64 (p1:Int),.int .i64 (e1:Int),.int .i64 (f1:Int),.int .i64 0,.int .i64 0,.int .u64 0,.int .i64 0,.int .i64 0,.int .i64 (p2:Int),.int .i64 (e2:Int),.int .i64 (f2:Int),.int .i64 0,.int .i64 0,.int .u64 0,.int .i64 0,.int .i64 0,.bool wt] 79)from(hV.block X O7).T hX);have LW:=ag (λ (V:World) (hV:Below w w V)=>hS.below hV);have tn:=ag (λ (V:World) (hV:Below w w V)=>hF.below hV);have HF:Hid (∀W,Below w w W->W.cell? (za X 0)=some (.pointer (zp B0))/\W.cell? (za X 14)=some (.string tx)/\W.cell? (za X 18)=some (.bool false)/\W.cell? (za B0 0)=some (.slice none 0 0)/\W.cell? (za B0 1)=some (.slice b ps.length cf)/\W.cell? (za B0 2)=some (.int .i64 (-1))/\W.cell? (za B0 3)=some (.int .i64 (-1))/\W.cell? (za B0 4)=some (.bool false)):=ag λ W hb=>by have h:=JW.O W hb;have h2:=LW.O W hb;exact⟨(af h 0).T rfl,(af h 14).T rfl,(af h 18).T rfl,(af h2 0).T rfl,(af h2 1).T rfl,(af h2 2).T rfl,(af h2 3).T rfl,(af h2 4).T rfl⟩
 have HPT:=ag (MC (hF.below Hg) hm (kE tx) (zp w) cA UW (by rw[iA];exact h1) (by rw[iA];exact h2) jN);rw[iA]at HPT;have j4:=ag (ah w w);have vd:=ag dN;unfold bN at HPT;clear hS hX O7 hBs hF hm h1 h2 jN dN UW TR Zb;go_enter Tryz.func45,Tryz.ntmps45;obtain⟨x0,BL,ZP,s0,s1,s2,s3,s4⟩:=HF.O _ j4.O
 go_wp2_with fail
 refine bP 30 ?_;refine tP [0,1,2,3,4,5,6,7,8,9,10,11,12,13,14,15] ?_
 iterate 16 refine tO ?_
 refine au 14 rfl ?_;refine sP 16 [12,13,14,15] λ K hK=>?_;go_simp;clear x0 BL ZP s0 s1 s2 s3 s4;obtain⟨x0,BL,ZP,s0,s1,s2,s3,s4⟩:=HF.O _ Hg;refine nP hK ?_;clear hK K;refine sP 17 [5,6,7,8,9,10,11,12,13,14,15,16] λ K hK=>?_;go_simp;(with_reducible refine HPT.O.mono ?_);rintro e w3 ⟨b',c',pc,rfl,MQ,vY,nH,cu⟩;have ek:=ag (Hg.T (cu.mono Hg.size));have Hy:=eS MQ vY nH;clear cu MQ vY nH;clear x0 BL ZP s0 s1 s2 s3 s4;obtain⟨x0,BL,ZP,s0,s1,s2,s3,s4⟩:=HF.O _ ek.O;refine nP hK ?_;clear hK K;refine tP [18,19,20,21,22,23] ?_
 iterate 6 refine tO ?_
 refine au 6 rfl ?_;refine sP 24 [0,1,2,3,5,6,7,8,9,10,11,12,13,14,15,16,17,18,19,22,23] λ K hK=>?_;refine DO ?_;refine iG 31 _ _ rfl B0 0 (O8 b ps.length cf a1 d1 c1 a2 d2 c2 q) (fA b' (ps.length+1) c') 84 rfl rfl (LW.O w3 ek.O) cP bU bz (λ w7 g1 g2 g3=>?_);simp only[eu,jX,cW]at g1;have EH:=EG Hy.O.1 (tn.O w3 ek.O) (LW.O w3 ek.O) g2;have El:=(g2 X vd.O).T (JW.O w3 ek.O);have x19:=(af El 19).T rfl;simp only[cW]at x19;have xf:=ax El 19;have nz:=oT g1 El EH (g3 0 w3 (aD _) (gb));have Sg:=ag (λ j (hj:j≠B0)=>g2 j hj);clear g1 g2 g3 EH El x0 BL ZP s0 s1 s2 s3 s4;refine nP hK ?_;clear hK K;refine tP [25,26,27] ?_
 iterate 3 refine tO ?_
 refine au 2 rfl ?_;refine sP 28 [0,1,2,3,4,5,6,7,8,9,10,11,12,13,14,15,16,17,18,19,20,22,23,24,25,26,27] λ K hK=>?_;go_simp;refine nP hK ?_;clear hK K;refine tP [29] ?_;refine tO ?_;refine au 0 rfl ?_;refine dP ?_;go_simp
 go_wp2_with fail
 go_ret;obtain⟨hl,bY,fH,gV⟩:=nz.O;have u9:∀j,j≠X->(w7.setCell (za X 19) (.int .i64 ((db (aw ps).length:Nat):Int))).heap[j]? =w7.heap[j]? := λ j hj=>aq _ _ _ _ hj;refine⟨b',c',ps++[pc],rfl,?_,?_,yG fH bY u9,?_,?_⟩
 ·rw[ar];exact(u9 B0 (λ e=>vd.O e.symm)).T hl
 ·unfold kP JZ;simpa using aU (j:=19) (.int .i64 ((db (aw ps).length:Nat):Int)) bY
 ·have:aw (ps++[pc])=aw ps++pc.2.1:=by simp[aw]
  rw[this,Hy.O.2.1]
 ·have h3:=ek.O;refine(ns.bH h3).T (ns.T (V:=w7) ⟨gV.os,gV.tape,gV.output,gV.size, λ j _ hj=>Sg.O j (λ e=>hj (.inr e))⟩ ⟨rfl,rfl,rfl,by simp[World.setCell], λ j _ hj=>u9 j (λ e=>hj (.inl e))⟩)
theorem YG{R:Nat}{ka va:az}{kl kc vl vc:Nat}{p:Bool}{key val:List Nat}(h:W.heap[R]? =some (.cells (vq ka kl kc p va vl vc) 174))(hk:ay W ka key)(hv:ay W va val)(h1:key.length=kl)(h2:val.length=vl):je W (zp R) [⟨ka,key,kc,p,va,val,vc⟩]:=by
 subst h1 h2;refine⟨.inr ⟨R,0,rfl, λ j x hj=>?_⟩, λ x hx=>?_⟩
 ·rcases j with _|j
  ·cases hj;exact aF h
  ·simp at hj
 ·rw[aE]at hx;subst hx;exact⟨hk,hv⟩
theorem aaR{b:az}(hS:jV w B0 b ps.length cf a1 d1 c1 a2 d2 c2 q)(hX:kP w X B0 id y wk wn kn tx g m s d a p1 e1 f1 p2 e2 f2 wt)(dN:X≠B0)
 (hF:aQ w b cf ps)(hm:Marks (aw ps))(hI:wZ g m s d a)(h1:1<=id.size)(h2:id.size<=24)(ht:fx (aw ps) a1 d1 c1 items)(Ha:items.length<=200)(kz:its=iH items [⟨kE id,true,dS g m s d a⟩])(hlen:its.length<=200)(jN:ee its)(gk:(aw ps).length+200*its.length<=524288):
 Calls Tryz.prog 46 (iS (zp X)) w λ e w'=>∃(at' d' c':Nat) (b':az) (iC:Nat) (eR:List Piece),e= .returned (.int .i64 0)/\jV w' B0 b' eR.length iC a1 d1 c1 a2 d2 c2 q/\kP w' X B0 id y wk wn kn tx g m s d a at' d' c' p2 e2 f2 wt/\aQ w' b' iC eR/\Marks (aw eR)/\fx (aw eR) at' d' c' its/\(∃m,aw eR=aw ps++m)/\(aw eR).length<=(aw ps).length+120*its.length/\ns (λ j=>j=X\/j=B0) w w':=by
 have O7:=(cS hX).1;have hBs:=(cS hS).1;have JW:=ag (λ (V:World) (hV:Below w w V)=>show V.heap[X]? =some (.cells (Ij (zp B0) id (cE y.id) y.g y.m y.s y.del y.at_ wk wn kn tx g m s d a p1 e1 f1 p2 e2 f2 wt) 79)from(hV.block X O7).T hX);have LW:=ag (λ (V:World) (hV:Below w w V)=>hS.below hV);have tn:=ag (λ (V:World) (hV:Below w w V)=>hF.below hV);have HF:Hid (∀W,Below w w W->W.cell? (za X 0)=some (.pointer (zp B0))/\W.cell? (za X 1)=some (.string id)/\W.cell? (za B0 0)=some (.slice none 0 0)/\W.cell? (za B0 1)=some (.slice b ps.length cf)/\W.cell? (za B0 2)=some (.int .i64 (-1))/\W.cell? (za B0 3)=some (.int .i64 (-1))/\W.cell? (za B0 4)=some (.bool false)/\W.cell? (za B0 5)=some (.int .i64 (a1:Int))/\W.cell? (za B0 6)=some (.int .i64 (d1:Int))/\W.cell? (za B0 7)=some (.int .i64 (c1:Int))/\W.cell? (za B0 8)=some (.int .i64 0)/\W.cell? (za B0 9)=some (.int .i64 0)/\W.cell? (za B0 10)=some (.int .u64 0)/\W.cell? (za B0 11)=some (.int .i64 0)/\W.cell? (za B0 12)=some (.int .i64 0)):=ag λ W hb=>by have h:=JW.O W hb;have h2:=LW.O W hb;exact⟨(af h 0).T rfl,(af h 1).T rfl,(af h2 0).T rfl,(af h2 1).T rfl,(af h2 2).T rfl,(af h2 3).T rfl,(af h2 4).T rfl,(af h2 5).T rfl,(af h2 6).T rfl,(af h2 7).T rfl,(af h2 8).T rfl,(af h2 9).T rfl,(af h2 10).T rfl,(af h2 11).T rfl,(af h2 12).T rfl⟩
 have Zl:=ag (Dr hI w);have hrg:w.rangeAt X 15 (BZ g m s d a):=pk (o:=0) [.pointer (zp B0),.string id,.string (cE y.id),.int .u32 (y.g:Int),.int .u32 (y.m:Int),.int .u64 (y.s:Int),.bool y.del,.int .i64 (y.at_:Int),.int .i64 wk,.int .i64 wn,.string ⟨#[]⟩,.slice none 0 0,.slice none 0 0,.bool kn,.string tx] (BZ g m s d a) [.int .i64 (p1:Int),.int .i64 (e1:Int),.int .i64 (f1:Int),.int .i64 0,.int .i64 0,.int .u64 0,.int .i64 0,.int .i64 0,.int .i64 (p2:Int),.int .i64 (e2:Int),.int .i64 (f2:Int),.int .i64 0,.int .i64 0,.int .u64 0,.int .i64 0,.int .i64 0,.bool wt] (aF hX);have Nb:Hid (∀(V:World) (ea:az) (l:List eH),Below w w V->je V ea l->l.map Ac=[⟨kE id,true,dS g m s d a⟩]->Calls Tryz.prog 88 #[bN b ps.length cf,ij a1 d1 c1,.slice ea 1 1] V λ e w'=>∃(at' d' c':Nat) (b':az) (iC:Nat) (eR:List Piece),e= .returned (.tuple #[bN b' eR.length iC,ij at' d' c',.int .i64 0])/\aQ w' b' iC eR/\Marks (aw eR)/\fx (aw eR) at' d' c' its/\(∃m,aw eR=aw ps++m)/\(aw eR).length<=(aw ps).length+120*its.length/\Below V V w'):=ag λ V ea l hV he hl=>by
  have zK:l.length=1:=by have:=congrArg List.length hl;simpa using this
  have XQ:(dS g m s d a).length=21:=by simp[dS,ie]
  obtain⟨x,rfl⟩:=List.length_eq_one_iff.1 zK;have hx:Ac x=⟨kE id,true,dS g m s d a⟩:=by simpa using hl
  have k1:x.key=kE id:=congrArg Ed.key hx;have k2:x.put=true:=congrArg Ed.put hx;have k3:x.val=dS g m s d a:=congrArg Ed.val hx;have eh:=J2 (ce:=1) (hF.below hV) hm ht Ha he cP (λ z hz=>by rw[aE]at hz;subst hz;refine⟨by rw[k1,iA];exact h1,by rw[k1,iA];omega,by rw[k3,XQ];decide, λ e=>by rw[k2]at e;cases e⟩) (λ j a b h1 h2=>by rcases j with _|j<;>simp at h2) cP (kz.T (by rw[hl])) hlen jN gk
  exact eh
 have vd:=ag dN;unfold pQ at Zl;unfold bN ij at Nb;clear hS hX O7 hBs hF hm h1 h2 jN dN hI ht Ha kz hlen gk;go_enter Tryz.func46,Tryz.ntmps46
 go_wp2_with first
  |(refine dG 45 ?_)
  |((with_reducible refine Zl.O.mono ?_);rintro e w1 ⟨va,vc,rfl,yI,aiw,aix,cN⟩;have HV1:=ag yI;have fW:=ag cN;clear yI aiw aix cN hrg)
  |fail
 obtain⟨cA,wA,hcA,UW,TR,Hg,Zb⟩:=nr id w1;obtain⟨wS,Rk⟩:=bL (wA.alloc (.cells (Ik (zp w1) id.size cA va 21 vc) 174));have hbS:Below wA wA wS:=by rw[Rk];go_grown
 have hnS:wS.heap[wA.heap.size]? =some (.cells (Ik (zp w1) id.size cA va 21 vc) 174):=qK Rk;have Cu:=ag (fW.O.T (Hg.mono fW.O.size));have O1:=ag (Cu.O.T (hbS.mono Cu.O.size));have Aw:=ag (Nb.O wS _ _ O1.O (YG hnS (UW.below hbS) ((HV1.O.below Hg).below hbS) (iA id) (by simp[dS,ie])) rfl);have HWS:=ag Rk;clear UW TR Hg Rk hbS hnS;rw[Zb]at Aw;obtain⟨x0,x1,s0,s1,s2,s3,s4,s5,s6,s7,s8,s9,s10,s11,s12⟩:=HF.O _ fW.O;refine bP 40 ?_;refine tP [0,1,2,3,4,5,6,7,8,9,10,11,12,13,14,15,16,17,18,19,20,21,22,23,25] ?_
 iterate 25 refine tO ?_
 refine au 15 rfl ?_;refine sP 24 [20,21,22,23] λ K hK=>?_;go_simp;clear x0 x1 s0 s1 s2 s3 s4 s5 s6 s7 s8 s9 s10 s11 s12;obtain⟨x0,x1,s0,s1,s2,s3,s4,s5,s6,s7,s8,s9,s10,s11,s12⟩:=HF.O _ Cu.O;refine nP hK ?_;clear hK K;refine tP [26] ?_;refine tO ?_;refine au 13 rfl ?_;refine sP 27 [20,21,22,23,24,25,26] λ K hK=>?_;go_simp;rw[<-HWS.O];clear x0 x1 s0 s1 s2 s3 s4 s5 s6 s7 s8 s9 s10 s11 s12;obtain⟨x0,x1,s0,s1,s2,s3,s4,s5,s6,s7,s8,s9,s10,s11,s12⟩:=HF.O _ O1.O;refine nP hK ?_;clear hK K;refine sP 28 [5,6,7,8,9,10,11,12,13,14,15,16,17,18,19,20,21,22,23,24,25,26,27] λ K hK=>?_;go_simp;(with_reducible refine Aw.O.mono ?_);rintro e w5 ⟨at',d',c',b',iC,eR,rfl,Oy,hm5,ht5,BO,hc5,dV⟩;have jE:=ag (O1.O.T (dV.mono O1.O.size));have ts:=G2 Oy hm5 ht5 BO hc5;clear Oy hm5 ht5 BO hc5 dV;clear x0 x1 s0 s1 s2 s3 s4 s5 s6 s7 s8 s9 s10 s11 s12;obtain⟨x0,x1,s0,s1,s2,s3,s4,s5,s6,s7,s8,s9,s10,s11,s12⟩:=HF.O _ jE.O;refine nP hK ?_;clear hK K;refine tP [29,30,31,32,33,34] ?_
 iterate 6 refine tO ?_
 refine au 5 rfl ?_;refine sP 35 [0,1,2,3,5,6,7,8,9,10,11,12,13,14,15,16,17,18,19,20,21,22,23,24,25,26,27,28,29,30,33,34] λ K hK=>?_;refine DO ?_;refine iG 31 _ _ rfl B0 0 (O8 b ps.length cf a1 d1 c1 a2 d2 c2 q) (fA b' eR.length iC) 84 rfl rfl (LW.O w5 jE.O) cP bU bz (λ w7 g1 g2 g3=>?_);simp only[eu,jX,cW]at g1;have EH:=EG ts.O.1 (tn.O w5 jE.O) (LW.O w5 jE.O) g2;have El:=(g2 X vd.O).T (JW.O w5 jE.O);have nz:=oT g1 El EH (g3 0 w5 (aD _) (gb));have Sg:=ag (λ j (hj:j≠B0)=>g2 j hj);clear g1 g2 g3 EH El x0 x1 s0 s1 s2 s3 s4 s5 s6 s7 s8 s9 s10 s11 s12;refine nP hK ?_;clear hK K;refine tP [36,37] ?_
 iterate 2 refine tO ?_
 refine au 2 rfl ?_;refine sP 38 [0,1,2,3,4,5,6,7,8,9,10,11,12,13,14,15,16,17,18,19,20,21,22,23,24,25,26,27,28,29,30,31,33,34,35,36,37] λ K hK=>?_;refine DO ?_;refine iG 35 _ _ rfl X 20 (Ij (zp B0) id (cE y.id) y.g y.m y.s y.del y.at_ wk wn kn tx g m s d a p1 e1 f1 p2 e2 f2 wt) (qt at' d' c') 79 rfl rfl nz.O.2.1 cP bU bz (λ w9 g1 g2 g3=>?_);simp only[eu,jX,cW]at g1;have HW9:=oT g1 ((g2 B0 (λ e=>vd.O e.symm)).T nz.O.1) (yG nz.O.2.2.1 nz.O.2.1 g2) (g3 0 w7 (aD _) (gb));have HG9:=ag (λ j (hj:j≠X)=>g2 j hj);clear g1 g2 g3;refine nP hK ?_;clear hK K;refine tP [39] ?_;refine tO ?_;refine au 0 rfl ?_;refine dP ?_;go_simp
 go_wp2_with fail
 go_ret;obtain⟨Zy,hs9,hf9,ug⟩:=HW9.O;obtain⟨Ka,El,EH,vL⟩:=nz.O;refine⟨at',d',c',b',iC,eR,rfl,hs9,Zy,hf9,ts.O.2.1,ts.O.2.2.1,ts.O.2.2.2.1,ts.O.2.2.2.2,?_⟩;exact(ns.bH jE.O).T (ns.T (V:=w7) ⟨vL.os,vL.tape,vL.output,vL.size, λ j _ hj=>Sg.O j (λ e=>hj (.inr e))⟩ ⟨ug.os,ug.tape,ug.output,ug.size, λ j _ hj=>HG9.O j (λ e=>hj (.inl e))⟩)
theorem xY:(Tryz.prog.info? 174).map (λ i=>(i.zero,i.size,i.bytes))=some (some (.agg IZ),5,72):=bU
theorem Ly{β:Type}{f:β->List Value}{sz:Nat}{e:Nat}{a:az}{ys:List β}(hf:∀x,(f x).length=sz)(h1:0<sz)(h:W.ownsRow n₀ e sz (.slice a k c) k (ys.flatMap f)):cV f sz W a ys:=by
 rcases Ew h with h0|⟨g,rfl, -, -,hc⟩
 ·cases ys with
  |nil=>exact .inl rfl
  |cons y ys=>
   have:=congrArg List.length h0;rw[bf,ar,hf]at this;simp at this;omega
 ·refine .inr ⟨g,0,rfl, λ j x hj i v hi=>?_⟩;have:=hc _ _ (wm f sz hf ys j x i v hj hi);rw[aN];exact this
theorem Aq{C:Nat}{xs:List Nat}(h:ay W (zp C) xs)(hl:xs.length=8):C<W.heap.size:=by
 rcases h.2 with h0|⟨C',o,e,hc⟩
 ·rw[h0]at hl;cases hl
 ·cases e;obtain⟨x,hx⟩:∃x,xs[0]? =some x:=⟨_,aB an⟩;exact aZ W _ (hc 0 x hx)
theorem uU{c' K8 KI cI nI:Nat}{a:az}{g':Nat}{l:List eH}{s8 idl:List Nat}(bA:W'.ownsRow n₀ 174 5 (.slice (zp g') (k+1) c') (k+1) (l.flatMap eH.cells++[.slice (zp K8) 8 8,.bool true,.slice (zp KI) nI cI,.bool false,.int .i64 0]))
 (hg:dC n₀ W W' (.slice a k c) (.slice (zp g') (k+1) c'))(hl:∀x∈l,ay W x.ka x.key/\ay W x.va x.val)(h8:ay W (zp K8) s8)(hI:ay W (zp KI) idl)(e8l:s8.length=8)(eI:idl.length=nI)(ha:∀x∈l,(∀p,x.ka=some p->∀g,(Value.slice a k c).ownBlock=some g->p.block<g)/\x.val=[])(YW:∀g,(Value.slice a k c).ownBlock=some g->g<K8)(hkI:∀g,(Value.slice a k c).ownBlock=some g->g<KI):
 je W' (zp g') (l++[⟨some ⟨K8,0,none⟩,s8,8,true,some ⟨KI,0,none⟩,idl,cI⟩]):=by
 have key:∀(p:az) (xs:List Nat),ay W p xs->(∀q,p=some q->(Value.slice a k c).ownBlock≠some q.block)->ay W' p xs:= λ p xs h hn=>by
  refine⟨h.1,?_⟩;rcases h.2 with h0|⟨C,o,e,hc⟩
  ·exact .inl h0
  ·exact .inr ⟨C,o,e, λ j x hj=>hg.cell (p:=(za C (o+j))) (hc j x hj) (hn ⟨C,o,none⟩ e)⟩
 refine⟨Ly (n₀:=n₀) (e:=174) (k:=k+1) (c:=c') (λ _=>rfl) de ?_, λ x hx=>?_⟩
 ·rw[bV];subst eI;simpa[eH.cells,e8l]using bA
 ·rcases aG.1 hx with hx|hx
  ·refine⟨key _ _ (hl x hx).1 λ q hq e=>?_,?_⟩
   ·have:=(ha x hx).1 q hq _ e;omega
   ·rw[(ha x hx).2];exact ay.nil _ _
  ·rw[aE]at hx;subst hx;exact⟨key _ _ h8 λ q hq e=>(by cases hq;have:=YW _ e;exact Nat.lt_irrefl _ this),key _ _ hI λ q hq e=>(by cases hq;have:=hkI _ e;exact Nat.lt_irrefl _ this)⟩
theorem xZ(h:p:=by
 have h:=JW.O W hb;have h2:=LW.O W hb;exact⟨(af h 0).T rfl,(af h 1).T rfl,(af h 5).T rfl,(af h 17).T rfl,(af h2 0).T rfl,(af h2 1).T rfl,(af h2 2).T rfl,(af h2 3).T rfl,(af h2 4).T rfl,(af h2 13).T rfl,(af h2 14).T rfl,(af h2 15).T rfl,(af h2 16).T rfl,(af h2 17).T rfl,(af h2 18).T rfl,(af h2 19).T rfl,(af h2 20).T rfl⟩
 ):p:=h
theorem yb(h:p:=by
 clear ud CZ;clear x0 x1 x5 qE s0 s1 s2 s3 s4 vB vC vD vE vF vG vH vI;obtain⟨x0,x1,x5,qE,s0,s1,s2,s3,s4,vB,vC,vD,vE,vF,vG,vH,vI⟩:=HF.O _ HLX.O;refine nP hK ?_;clear hK K;refine sP 14 [0,1,2,3,4,5,6,7,8,9,10,11,12,13] λ K hK=>?_;go_simp;clear eh;clear x0 x1 x5 qE s0 s1 s2 s3 s4 vB vC vD vE vF vG vH vI;obtain⟨x0,x1,x5,qE,s0,s1,s2,s3,s4,vB,vC,vD,vE,vF,vG,vH,vI⟩:=HF.O _ tl.O;refine nP hK ?_;clear hK K;refine tP [15] ?_;refine tO ?_;refine au 0 rfl ?_;refine dP ?_;go_simp;have Aw:=ag (Nb.O w6.drew _ k2 _ tl.O.drew sh.O rfl HCP.O);simp only[ar,aK,bK]at Aw;clear x0 x1 x5 qE s0 s1 s2 s3 s4 vB vC vD vE vF vG vH vI
 go_wp2_with fail
 obtain⟨x0,x1,x5,qE,s0,s1,s2,s3,s4,vB,vC,vD,vE,vF,vG,vH,vI⟩:=HF.O _ tl.O;refine bP 33 ?_;refine tP [0,1,2,3,4,5,6,7,8,9,10,11,12,13,14,15,16,17,18,19,20] ?_
 iterate 21 refine tO ?_
 refine au 12 rfl ?_;refine sP 21 [5,6,7,8,9,10,11,12,13,14,15,16,17,18,19,20] λ K hK=>?_;go_simp;(with_reducible refine Aw.O.mono ?_);rintro e w8 ⟨at',d',c',b',iC,eR,rfl,Oy,hm5,ht5,BO,hc5,dV⟩;have jE:Hid (Below w w w8):=ag (tl.O.drew.T (dV.mono tl.O.size));have ts:=G2 Oy hm5 ht5 BO hc5;clear Oy hm5 ht5 BO hc5 dV;clear x0 x1 x5 qE s0 s1 s2 s3 s4 vB vC vD vE vF vG vH vI;obtain⟨x0,x1,x5,qE,s0,s1,s2,s3,s4,vB,vC,vD,vE,vF,vG,vH,vI⟩:=HF.O _ jE.O;refine nP hK ?_;clear hK K;refine tP [22,23,24,25,26,27] ?_
 iterate 6 refine tO ?_
 refine au 5 rfl ?_;refine sP 28 [0,1,2,3,5,6,7,8,9,10,11,12,13,14,15,16,17,18,19,20,21,22,23,26,27] λ K hK=>?_;refine DO ?_;refine iG 31 _ _ rfl B0 0 (O8 b ps.length cf a1 d1 c1 a2 d2 c2 q) (fA b' eR.length iC) 84 rfl rfl (LW.O w8 jE.O) cP bU bz (λ w7 g1 g2 g3=>?_);simp only[eu,jX,cW]at g1;have EH:=EG ts.O.1 (tn.O w8 jE.O) (LW.O w8 jE.O) g2;have El:=(g2 X vd.O).T (JW.O w8 jE.O);have nz:=oT g1 El EH (g3 0 w8 (aD _) (gb));have Sg:=ag (λ j (hj:j≠B0)=>g2 j hj);clear g1 g2 g3 EH El x0 x1 x5 qE s0 s1 s2 s3 s4 vB vC vD vE vF vG vH vI;refine nP hK ?_;clear hK K;refine tP [29,30] ?_
 iterate 2 refine tO ?_
 refine au 2 rfl ?_;refine sP 31 [0,1,2,3,4,5,6,7,8,9,10,11,12,13,14,15,16,17,18,19,20,21,22,23,24,26,27,28,29,30] λ K hK=>?_;refine DO ?_;refine iG 35 _ _ rfl X 28 (aaZ (zp B0) id (cE y.id) y.g y.m y.s y.del y.at_ wk wn tx g m s d a p1 e1 f1 p2 e2 f2 wt) (qt at' d' c') 79 rfl rfl nz.O.2.1 cP bU bz (λ w9 g1 g2 g3=>?_);simp only[eu,jX,cW]at g1;have HW9:=oT g1 ((g2 B0 (λ e=>vd.O e.symm)).T nz.O.1) (yG nz.O.2.2.1 nz.O.2.1 g2) (g3 0 w7 (aD _) (gb));have HG9:=ag (λ j (hj:j≠X)=>g2 j hj);clear g1 g2 g3;refine nP hK ?_;clear hK K;refine tP [32] ?_;refine tO ?_;refine au 0 rfl ?_;refine dP ?_;go_simp
 go_wp2_with fail
 go_ret;obtain⟨Zy,hs9,hf9,ug⟩:=HW9.O;obtain⟨Ka,El,EH,vL⟩:=nz.O;refine⟨at',d',c',b',iC,eR,rfl,hs9,Zy,hf9,ts.O.2.1,ts.O.2.2.1,ts.O.2.2.2.1,ts.O.2.2.2.2,?_⟩;exact(ns.bH jE.O).T (ns.T (V:=w7) ⟨vL.os,vL.tape,vL.output,vL.size, λ j _ hj=>Sg.O j (λ e=>hj (.inr e))⟩ ⟨ug.os,ug.tape,ug.output,ug.size, λ j _ hj=>HG9.O j (λ e=>hj (.inl e))⟩)
 ):p:=h
theorem yc(h:p:=by
 clear ud CZ;clear x0 x1 x5 qE s0 s1 s2 s3 s4 vB vC vD vE vF vG vH vI;obtain⟨x0,x1,x5,qE,s0,s1,s2,s3,s4,vB,vC,vD,vE,vF,vG,vH,vI⟩:=HF.O _ HLX.O;refine nP hK ?_;clear hK K;refine sP 14 [0,1,2,3,4,5,6,7,8,9,10,11,12,13] λ K hK=>?_;go_simp;clear eh;clear x0 x1 x5 qE s0 s1 s2 s3 s4 vB vC vD vE vF vG vH vI;obtain⟨x0,x1,x5,qE,s0,s1,s2,s3,s4,vB,vC,vD,vE,vF,vG,vH,vI⟩:=HF.O _ tl.O;refine nP hK ?_;clear hK K;refine tP [15] ?_;refine tO ?_;refine au 0 rfl ?_;refine dP ?_;go_simp;have Aw:=ag (Nb.O w6.drew _ k2 _ tl.O.drew sh.O rfl HCP.O);simp only[ar,aK,bK]at Aw;clear x0 x1 x5 qE s0 s1 s2 s3 s4 vB vC vD vE vF vG vH vI
 go_wp2_with fail
 obtain⟨x0,x1,x5,qE,s0,s1,s2,s3,s4,vB,vC,vD,vE,vF,vG,vH,vI⟩:=HF.O _ tl.O;refine bP 33 ?_;refine tP [0,1,2,3,4,5,6,7,8,9,10,11,12,13,14,15,16,17,18,19,20] ?_
 iterate 21 refine tO ?_
 refine au 12 rfl ?_;refine sP 21 [5,6,7,8,9,10,11,12,13,14,15,16,17,18,19,20] λ K hK=>?_;go_simp;(with_reducible refine Aw.O.mono ?_);rintro e w8 ⟨at',d',c',b',iC,eR,rfl,Oy,hm5,ht5,BO,hc5,dV⟩;have jE:Hid (Below w w w8):=ag (tl.O.drew.T (dV.mono tl.O.size));have ts:=G2 Oy hm5 ht5 BO hc5;clear Oy hm5 ht5 BO hc5 dV;clear x0 x1 x5 qE s0 s1 s2 s3 s4 vB vC vD vE vF vG vH vI;obtain⟨x0,x1,x5,qE,s0,s1,s2,s3,s4,vB,vC,vD,vE,vF,vG,vH,vI⟩:=HF.O _ jE.O;refine nP hK ?_;clear hK K;refine tP [22,23,24,25,26,27] ?_
 iterate 6 refine tO ?_
 refine au 5 rfl ?_;refine sP 28 [0,1,2,3,5,6,7,8,9,10,11,12,13,14,15,16,17,18,19,20,21,22,23,26,27] λ K hK=>?_;refine DO ?_;refine iG 31 _ _ rfl B0 0 (O8 b ps.length cf a1 d1 c1 a2 d2 c2 q) (fA b' eR.length iC) 84 rfl rfl (LW.O w8 jE.O) cP bU bz (λ w7 g1 g2 g3=>?_);simp only[eu,jX,cW]at g1;have EH:=EG ts.O.1 (tn.O w8 jE.O) (LW.O w8 jE.O) g2;have El:=(g2 X vd.O).T (JW.O w8 jE.O);have nz:=oT g1 El EH (g3 0 w8 (aD _) (gb));have Sg:=ag (λ j (hj:j≠B0)=>g2 j hj);clear g1 g2 g3 EH El x0 x1 x5 qE s0 s1 s2 s3 s4 vB vC vD vE vF vG vH vI;refine nP hK ?_;clear hK K;refine tP [29,30] ?_
 iterate 2 refine tO ?_
 refine au 2 rfl ?_;refine sP 31 [0,1,2,3,4,5,6,7,8,9,10,11,12,13,14,15,16,17,18,19,20,21,22,23,24,26,27,28,29,30] λ K hK=>?_;refine DO ?_;refine iG 35 _ _ rfl X 28 (aa0 (zp B0) id (cE y.id) y.g y.m y.s y.del y.at_ wk wn tx g m s d a p1 e1 f1 p2 e2 f2 wt) (qt at' d' c') 79 rfl rfl nz.O.2.1 cP bU bz (λ w9 g1 g2 g3=>?_);simp only[eu,jX,cW]at g1;have HW9:=oT g1 ((g2 B0 (λ e=>vd.O e.symm)).T nz.O.1) (yG nz.O.2.2.1 nz.O.2.1 g2) (g3 0 w7 (aD _) (gb));have HG9:=ag (λ j (hj:j≠X)=>g2 j hj);clear g1 g2 g3;refine nP hK ?_;clear hK K;refine tP [32] ?_;refine tO ?_;refine au 0 rfl ?_;refine dP ?_;go_simp
 go_wp2_with fail
 go_ret;obtain⟨Zy,hs9,hf9,ug⟩:=HW9.O;obtain⟨Ka,El,EH,vL⟩:=nz.O;refine⟨at',d',c',b',iC,eR,rfl,hs9,Zy,hf9,ts.O.2.1,ts.O.2.2.1,ts.O.2.2.2.1,ts.O.2.2.2.2,?_⟩;exact(ns.bH jE.O).T (ns.T (V:=w7) ⟨vL.os,vL.tape,vL.output,vL.size, λ j _ hj=>Sg.O j (λ e=>hj (.inr e))⟩ ⟨ug.os,ug.tape,ug.output,ug.size, λ j _ hj=>HG9.O j (λ e=>hj (.inl e))⟩)
 ):p:=h
theorem YH{b:az}(hS:jV w B0 b ps.length cf a1 d1 c1 a2 d2 c2 q)(hX:kP w X B0 id y wk wn kn tx g m s d a p1 e1 f1 p2 e2 f2 wt)(dN:X≠B0)
 (hF:aQ w b cf ps)(hm:Marks (aw ps))(h2:id.size<=24)(aea:s<18446744073709551616)(aeb:kn=true->y.s<s)(ht:fx (aw ps) a2 d2 c2 items)(Ha:items.length<=200)(kz:its=iH items ((if kn then[⟨e8 y.s,false,[]⟩]else[])++[⟨e8 s,true,kE id⟩]))(hlen:its.length<=200)(jN:ee its)(gk:(aw ps).length+200*its.length<=524288):
 Calls Tryz.prog 47 (iS (zp X)) w λ e w'=>∃(at' d' c':Nat) (b':az) (iC:Nat) (eR:List Piece),e= .returned (.int .i64 0)/\jV w' B0 b' eR.length iC a1 d1 c1 a2 d2 c2 q/\kP w' X B0 id y wk wn kn tx g m s d a p1 e1 f1 at' d' c' wt/\aQ w' b' iC eR/\Marks (aw eR)/\fx (aw eR) at' d' c' its/\(∃m,aw eR=aw ps++m)/\(aw eR).length<=(aw ps).length+120*its.length/\ns (λ j=>j=X\/j=B0) w w':=by
 have O7:=(cS hX).1;have hBs:=(cS hS).1;have LW:=ag (λ (V:World) (hV:Below w w V)=>hS.below hV);have tn:=ag (λ (V:World) (hV:Below w w V)=>hF.below hV);have Nb:Hid (∀(V:World) (ea:az) (ce:Nat) (l:List eH),Below w w V->je V ea l->l.map Ac=(if kn then[⟨e8 y.s,false,[]⟩]else[])++[⟨e8 s,true,kE id⟩]->l.length<=ce->Calls Tryz.prog 88 #[bN b ps.length cf,ij a2 d2 c2,.slice ea l.length ce] V λ e w'=>∃(at' d' c':Nat) (b':az) (iC:Nat) (eR:List Piece),e= .returned (.tuple #[bN b' eR.length iC,ij at' d' c',.int .i64 0])/\aQ w' b' iC eR/\Marks (aw eR)/\fx (aw eR) at' d' c' its/\(∃m,aw eR=aw ps++m)/\(aw eR).length<=(aw ps).length+120*its.length/\Below V V w'):=ag λ V ea ce l hV he hl N6=>by
  have hed:∀x∈l,sZ x:= λ x hx=>by
   have h3:Ac x∈(if kn then[(⟨e8 y.s,false,[]⟩:Ed)]else[])++[⟨e8 s,true,kE id⟩]:=by rw[<-hl];exact aM.2 ⟨x,hx,rfl⟩
   rcases aG.1 h3 with h3|h3
   ·cases kn with
    |false=>simp at h3
    |true=>
     have h4:Ac x=⟨e8 y.s,false,[]⟩:=by simpa using h3
     have k1:x.key=e8 y.s:=congrArg Ed.key h4;have k3:x.val=[]:=congrArg Ed.val h4;exact⟨by rw[k1,jh];decide,by rw[k1,jh];decide,by rw[k3];decide, λ _=>k3⟩
   ·have h4:Ac x=⟨e8 s,true,kE id⟩:=by simpa using h3
    have k1:x.key=e8 s:=congrArg Ed.key h4;have k2:x.put=true:=congrArg Ed.put h4;have k3:x.val=kE id:=congrArg Ed.val h4;exact⟨by rw[k1,jh];decide,by rw[k1,jh];decide,by rw[k3,iA];omega, λ e=>by rw[k2]at e;cases e⟩
  have aeO:l.map eH.key=(if kn then[e8 y.s]else[])++[e8 s]:=by have h3:=congrArg (List.map Ed.key) hl;rw[jq]at h3;have h4:l.map eH.key=List.map (Ed.key∘Ac) l:=rfl;rw[h4,h3];cases kn<;>rfl
  have Em:cR (l.map eH.key):=by
   rw[aeO];intro j u v hu hv;cases kn with
   |false=>rcases j with _|j<;>simp at hv
   |true=>
    rcases j with _|j
    ·simp at hu hv;subst hu hv;exact Dz (aeb rfl) aea
    ·simp at hv
  have VH:l.length<=2:=by have h3:=congrArg List.length hl;rw[aR]at h3;rw[h3];cases kn<;>simp
  exact J2 (hF.below hV) hm ht Ha he N6 hed Em an (kz.T (by rw[hl])) hlen jN gk
 have vd:=ag dN;have YI:=ag aea;unfold bN ij at Nb;have j4:=ag (ah w w);have aec:=ag aeb;clear hF hm h2 aea jN dN ht Ha kz hlen gk aeb;cases kn with
 |false=>
  clear aec;have JW:=ag (λ (V:World) (hV:Below w w V)=>show V.heap[X]? =some (.cells (aaZ (zp B0) id (cE y.id) y.g y.m y.s y.del y.at_ wk wn tx g m s d a p1 e1 f1 p2 e2 f2 wt) 79)from(hV.block X O7).T hX);have HF:Hid (∀W,Below w w W->W.cell? (za X 0)=some (.pointer (zp B0))/\W.cell? (za X 1)=some (.string id)/\W.cell? (za X 5)=some (.int .u64 (y.s:Int))/\W.cell? (za X 17)=some (.int .u64 (s:Int))/\W.cell? (za B0 0)=some (.slice none 0 0)/\W.cell? (za B0 1)=some (.slice b ps.length cf)/\W.cell? (za B0 2)=some (.int .i64 (-1))/\W.cell? (za B0 3)=some (.int .i64 (-1))/\W.cell? (za B0 4)=some (.bool false)/\W.cell? (za B0 13)=some (.int .i64 (a2:Int))/\W.cell? (za B0 14)=some (.int .i64 (d2:Int))/\W.cell? (za B0 15)=some (.int .i64 (c2:Int))/\W.cell? (za B0 16)=some (.int .i64 0)/\W.cell? (za B0 17)=some (.int .i64 0)/\W.cell? (za B0 18)=some (.int .u64 0)/\W.cell? (za B0 19)=some (.int .i64 0)/\W.cell? (za B0 20)=some (.int .i64 0)):=ag λ W hb=>by exact xZ
  have LV:=(af hX 13).T rfl;simp only[JZ,cW]at LV;clear hS hX O7 hBs;have UP:Hid (Below w w w):=ag j4.O;have HRQ:Hid (w.ownsRow w 174 5 (.slice none 0 0) 0 (([]:List eH).flatMap eH.cells)):=ag (dA _ _ _ _);have YJ:Hid (∀V:World,Below w w V->∀x∈([]:List eH),ay V x.ka x.key/\ay V x.va x.val):=ag λ V _ x hx=>by cases hx
  have Uw:Hid ((∀x∈([]:List eH),(∀p,x.ka=some p->∀g,(Value.slice none 0 0).ownBlock=some g->p.block<g)/\x.val=[])/\∀g,(Value.slice none 0 0).ownBlock=some g->g<w.heap.size):=ag ⟨λ x hx=>(by cases hx), λ g hg=>by cases hg⟩;have aed:Hid (Calls Tryz.prog 51 #[.int .u64 (s:Int)] w.drew λ e w'=>e= .returned (.slice (zp w) 8 8)/\ay w' (zp w) (e8 s)/\Below w w w'):=ag ((px s YI.O w.drew).mono λ e w' ⟨h1,h2,h3⟩=>⟨h1,h2,((ah _ w).drew).T h3⟩);obtain⟨cJ,wJ,hcJ,hkJ,hgJ,hbJ,hsJ⟩:=nr id w;have HJ:=eS hkJ hbJ hsJ;clear hkJ hgJ;go_enter Tryz.func47,Tryz.ntmps47;obtain⟨x0,x1,x5,qE,s0,s1,s2,s3,s4,vB,vC,vD,vE,vF,vG,vH,vI⟩:=HF.O _ j4.O
  go_wp2_with fail
  clear LV;refine bP 16 ?_;refine tP [0,1,2,3,4,5,7,8,9,10] ?_
  iterate 10 refine tO ?_
  refine au 6 rfl ?_;refine G6 6 11 [1,2,3,4,5] [7,8,9,10] (λ K hK=>?_) λ K hK=>?_
  ·skip;go_simp;(with_reducible refine aed.O.mono ?_);rintro e w4 ⟨rfl,h8,dX⟩;obtain⟨cI,wV,hcI,hkI,hgI,UX,UY⟩:=BE id w4;have pB:=ag (UP.O.T (dX.mono UP.O.size));have H8:=dO h8 dX;clear x0 x1 x5 qE s0 s1 s2 s3 s4 vB vC vD vE vF vG vH vI;obtain⟨x0,x1,x5,qE,s0,s1,s2,s3,s4,vB,vC,vD,vE,vF,vG,vH,vI⟩:=HF.O _ pB.O;refine nP hK ?_;clear hK K;refine sP 11 [1,2,3,4,5,7,8,9,10] λ K hK=>?_;go_simp;have jG:=ag (pB.O.T (UX.mono pB.O.size));have UN:=eS hkI UX UY;have HS4:Hid (w.heap.size<w4.heap.size):=ag (Aq H8.O.1 (jh s));clear hcI hkI hgI UX UY h8 dX;clear x0 x1 x5 qE s0 s1 s2 s3 s4 vB vC vD vE vF vG vH vI;obtain⟨x0,x1,x5,qE,s0,s1,s2,s3,s4,vB,vC,vD,vE,vF,vG,vH,vI⟩:=HF.O _ jG.O;refine nP hK ?_;clear hK K;refine tP [12] ?_;refine tO ?_;refine au 3 rfl ?_;refine sP 13 [1,2,3,4,5,6,7,8,9,10,11,12] λ K hK=>?_;go_simp;obtain⟨g2,k2,w6,eh,ud,CZ⟩:=gR (P:=Tryz.prog) 175 174 (.agg IZ) 5 72 bU xY rfl de (W:=wV) (n₀:=w.heap.size) (Ik (zp w) 8 8 (zp w4) id.size cI) rfl bz (dC.row (H8.O.2.T (UN.O.2.1.mono H8.O.2.size)) HRQ.O) de de jG.O.size;have HCP:=ag (lQ ud);have sh:=ag (uU ud CZ (YJ.O wV (H8.O.2.T (UN.O.2.1.mono H8.O.2.size))) (H8.O.1.below UN.O.2.1) UN.O.1 (jh s) (iA id) Uw.O.1 Uw.O.2 (λ g hg=>iX (Uw.O.2 g hg) HS4.O));have tl:Hid (Below w w w6):=ag (jG.O.T CZ.below);have HLX:=ag (show Below w w (wV.alloc (.cells (Ik (zp w) 8 8 (zp w4) id.size cI) 174))from jG.O.alloc jG.O.size _);exact yb
  ·skip;go_simp;have jG:=ag (UP.O.T (hbJ.mono UP.O.size));clear x0 x1 x5 qE s0 s1 s2 s3 s4 vB vC vD vE vF vG vH vI;obtain⟨x0,x1,x5,qE,s0,s1,s2,s3,s4,vB,vC,vD,vE,vF,vG,vH,vI⟩:=HF.O _ jG.O;refine nP hK ?_;clear hK K;refine sP 6 [1,2,3,4,5,7,8,9,10] λ K hK=>?_;go_simp;(with_reducible refine(px s YI.O wJ).mono ?_);rintro e w4 ⟨rfl,h8,dX⟩;have pB:=ag (jG.O.T (dX.mono jG.O.size));have H8:=dO h8 dX;have HSJ:=ag hsJ;clear h8 dX;clear x0 x1 x5 qE s0 s1 s2 s3 s4 vB vC vD vE vF vG vH vI;obtain⟨x0,x1,x5,qE,s0,s1,s2,s3,s4,vB,vC,vD,vE,vF,vG,vH,vI⟩:=HF.O _ pB.O;refine nP hK ?_;clear hK K;refine tP [12] ?_;refine tO ?_;refine au 3 rfl ?_;refine sP 13 [1,2,3,4,5,6,7,8,9,10,11,12] λ K hK=>?_;go_simp;obtain⟨g2,k2,w6,eh,ud,CZ⟩:=gR (P:=Tryz.prog) 175 174 (.agg IZ) 5 72 bU xY rfl de (W:=w4) (n₀:=w.heap.size) (Ik (zp (w+1)) 8 8 (zp w) id.size cJ) rfl bz (dC.row (HJ.O.2.1.T (H8.O.2.mono HJ.O.2.1.size)) HRQ.O) de de pB.O.size;have HCP:=ag (lQ ud);have sh:=ag (uU ud CZ (YJ.O w4 (HJ.O.2.1.T (H8.O.2.mono HJ.O.2.1.size))) (by have:=H8.O.1;rwa [HSJ.O]at this) (HJ.O.1.below H8.O.2) (jh s) (iA id) Uw.O.1 (λ g hg=>cm (Uw.O.2 g hg)) (λ g hg=>cm (Uw.O.2 g hg)));have tl:Hid (Below w w w6):=ag (pB.O.T CZ.below);have HLX:=ag (show Below w w (w4.alloc (.cells (Ik (zp (w+1)) 8 8 (zp w) id.size cJ) 174))from pB.O.alloc pB.O.size _);exact yb
 |true=>
  have HY:=ag (px y.s (Nat.lt_trans (aec.O rfl) YI.O) w);clear aec;have JW:=ag (λ (V:World) (hV:Below w w V)=>show V.heap[X]? =some (.cells (aa0 (zp B0) id (cE y.id) y.g y.m y.s y.del y.at_ wk wn tx g m s d a p1 e1 f1 p2 e2 f2 wt) 79)from(hV.block X O7).T hX);have HF:Hid (∀W,Below w w W->W.cell? (za X 0)=some (.pointer (zp B0))/\W.cell? (za X 1)=some (.string id)/\W.cell? (za X 5)=some (.int .u64 (y.s:Int))/\W.cell? (za X 17)=some (.int .u64 (s:Int))/\W.cell? (za B0 0)=some (.slice none 0 0)/\W.cell? (za B0 1)=some (.slice b ps.length cf)/\W.cell? (za B0 2)=some (.int .i64 (-1))/\W.cell? (za B0 3)=some (.int .i64 (-1))/\W.cell? (za B0 4)=some (.bool false)/\W.cell? (za B0 13)=some (.int .i64 (a2:Int))/\W.cell? (za B0 14)=some (.int .i64 (d2:Int))/\W.cell? (za B0 15)=some (.int .i64 (c2:Int))/\W.cell? (za B0 16)=some (.int .i64 0)/\W.cell? (za B0 17)=some (.int .i64 0)/\W.cell? (za B0 18)=some (.int .u64 0)/\W.cell? (za B0 19)=some (.int .i64 0)/\W.cell? (za B0 20)=some (.int .i64 0)):=ag λ W hb=>by exact xZ
  have LV:=(af hX 13).T rfl;simp only[JZ,cW]at LV;clear hS hX O7 hBs;go_enter Tryz.func47,Tryz.ntmps47;obtain⟨x0,x1,x5,qE,s0,s1,s2,s3,s4,vB,vC,vD,vE,vF,vG,vH,vI⟩:=HF.O _ j4.O
  go_wp2_with first
   |((with_reducible refine HY.O.mono ?_);rintro e w2 ⟨rfl,h8,bG⟩;obtain⟨g0,k0,wq,eh,J3,CS⟩:=gR (P:=Tryz.prog) 175 174 (.agg IZ) 5 72 bU xY rfl de (W:=w2) (n₀:=w.heap.size) [.slice (zp w) 8 8,.bool false,.slice none 0 0,.bool false,.int .i64 0] rfl bz (dA _ _ _ _) de de bG.size;have HQ2:=oT h8 bG J3 CS;clear h8 bG J3 CS x0 x1 x5 qE s0 s1 s2 s3 s4 vB vC vD vE vF vG vH vI LV)
   |fail
  obtain⟨h8,bG,J3,CS⟩:=HQ2.O;clear eh;have nt:Below w2 w2 wq:=⟨CS.below.os,CS.below.tape,CS.below.output,CS.below.size, λ j hj=>CS.eG j hj (by simp[Value.ownBlock])⟩;have hg0:w2.heap.size<=g0:=by
   rcases CS.at_ with e|⟨g,e,h⟩
   ·simp[Value.ownBlock]at e
   ·simp only[Value.ownBlock,dz]at e;omega
  have fH:=Aq h8 (jh y.s);have UG:g0<wq.heap.size:=by
   rcases bg J3 with⟨h,_⟩|⟨g,cur,h,_,hh⟩
   ·cases h
   ·cases h;exact(cS hh).1
  have UP:Hid (Below w w wq):=ag (bG.T CS.below);have HRQ:Hid (wq.ownsRow w 174 5 (.slice (zp g0) 1 k0) 1 (([⟨some ⟨w.heap.size,0,none⟩,e8 y.s,8,false,none,[],0⟩]:List eH).flatMap eH.cells)):=ag (by simpa[eH.cells,jh]using J3);have YJ:Hid (∀V:World,Below wq wq V->∀x∈([⟨some ⟨w.heap.size,0,none⟩,e8 y.s,8,false,none,[],0⟩]:List eH),ay V x.ka x.key/\ay V x.va x.val):=ag λ V hV x hx=>by rw[aE]at hx;subst hx;exact⟨(ay.below h8 nt).below hV,ay.nil _ _⟩
  have Uw:Hid ((∀x∈([⟨some ⟨w.heap.size,0,none⟩,e8 y.s,8,false,none,[],0⟩]:List eH),(∀p,x.ka=some p->∀g,(Value.slice (zp g0) 1 k0).ownBlock=some g->p.block<g)/\x.val=[])/\∀g,(Value.slice (zp g0) 1 k0).ownBlock=some g->g<wq.heap.size):=ag ⟨λ x hx=>by rw[aE]at hx;subst hx;refine⟨λ p hp g hg=>?_,rfl⟩;cases hp;simp only[Value.ownBlock,dz]at hg;show w.heap.size<g;omega, λ g hg=>by simp only[Value.ownBlock,dz]at hg;omega⟩
  have aed:Hid (Calls Tryz.prog 51 #[.int .u64 (s:Int)] wq.drew λ e w'=>e= .returned (.slice (zp wq) 8 8)/\ay w' (zp wq) (e8 s)/\Below wq wq w'):=ag ((px s YI.O wq.drew).mono λ e w' ⟨h1,h2,h3⟩=>⟨h1,h2,((ah _ wq).drew).T h3⟩);obtain⟨cJ,wJ,hcJ,hkJ,hgJ,hbJ,hsJ⟩:=nr id wq;have HJ:=eS hkJ hbJ hsJ;clear hkJ hgJ h8 bG J3 CS nt hg0 fH UG;obtain⟨x0,x1,x5,qE,s0,s1,s2,s3,s4,vB,vC,vD,vE,vF,vG,vH,vI⟩:=HF.O _ UP.O;refine bP 16 ?_;refine tP [0,1,2,3,4,5,7,8,9,10] ?_
  iterate 10 refine tO ?_
  refine au 6 rfl ?_;refine G6 6 11 [1,2,3,4,5] [7,8,9,10] (λ K hK=>?_) λ K hK=>?_
  ·skip;go_simp;(with_reducible refine aed.O.mono ?_);rintro e w4 ⟨rfl,h8,dX⟩;obtain⟨cI,wV,hcI,hkI,hgI,UX,UY⟩:=BE id w4;have pB:=ag (UP.O.T (dX.mono UP.O.size));have H8:=dO h8 dX;clear x0 x1 x5 qE s0 s1 s2 s3 s4 vB vC vD vE vF vG vH vI;obtain⟨x0,x1,x5,qE,s0,s1,s2,s3,s4,vB,vC,vD,vE,vF,vG,vH,vI⟩:=HF.O _ pB.O;refine nP hK ?_;clear hK K;refine sP 11 [1,2,3,4,5,7,8,9,10] λ K hK=>?_;go_simp;have jG:=ag (pB.O.T (UX.mono pB.O.size));have UN:=eS hkI UX UY;have HS4:Hid (wq.heap.size<w4.heap.size):=ag (Aq H8.O.1 (jh s));clear hcI hkI hgI UX UY h8 dX;clear x0 x1 x5 qE s0 s1 s2 s3 s4 vB vC vD vE vF vG vH vI;obtain⟨x0,x1,x5,qE,s0,s1,s2,s3,s4,vB,vC,vD,vE,vF,vG,vH,vI⟩:=HF.O _ jG.O;refine nP hK ?_;clear hK K;refine tP [12] ?_;refine tO ?_;refine au 3 rfl ?_;refine sP 13 [1,2,3,4,5,6,7,8,9,10,11,12] λ K hK=>?_;go_simp;obtain⟨g2,k2,w6,eh,ud,CZ⟩:=gR (P:=Tryz.prog) 175 174 (.agg IZ) 5 72 bU xY rfl de (W:=wV) (n₀:=w.heap.size) (Ik (zp wq) 8 8 (zp w4) id.size cI) rfl bz (dC.row (H8.O.2.T (UN.O.2.1.mono H8.O.2.size)) HRQ.O) de de jG.O.size;have HCP:=ag (lQ ud);have sh:=ag (uU ud CZ (YJ.O wV (H8.O.2.T (UN.O.2.1.mono H8.O.2.size))) (H8.O.1.below UN.O.2.1) UN.O.1 (jh s) (iA id) Uw.O.1 Uw.O.2 (λ g hg=>iX (Uw.O.2 g hg) HS4.O));have tl:Hid (Below w w w6):=ag (jG.O.T CZ.below);have HLX:=ag (show Below w w (wV.alloc (.cells (Ik (zp wq) 8 8 (zp w4) id.size cI) 174))from jG.O.alloc jG.O.size _);exact yc
  ·skip;go_simp;have jG:=ag (UP.O.T (hbJ.mono UP.O.size));clear x0 x1 x5 qE s0 s1 s2 s3 s4 vB vC vD vE vF vG vH vI;obtain⟨x0,x1,x5,qE,s0,s1,s2,s3,s4,vB,vC,vD,vE,vF,vG,vH,vI⟩:=HF.O _ jG.O;refine nP hK ?_;clear hK K;refine sP 6 [1,2,3,4,5,7,8,9,10] λ K hK=>?_;go_simp;(with_reducible refine(px s YI.O wJ).mono ?_);rintro e w4 ⟨rfl,h8,dX⟩;have pB:=ag (jG.O.T (dX.mono jG.O.size));have H8:=dO h8 dX;have HSJ:=ag hsJ;clear h8 dX;clear x0 x1 x5 qE s0 s1 s2 s3 s4 vB vC vD vE vF vG vH vI;obtain⟨x0,x1,x5,qE,s0,s1,s2,s3,s4,vB,vC,vD,vE,vF,vG,vH,vI⟩:=HF.O _ pB.O;refine nP hK ?_;clear hK K;refine tP [12] ?_;refine tO ?_;refine au 3 rfl ?_;refine sP 13 [1,2,3,4,5,6,7,8,9,10,11,12] λ K hK=>?_;go_simp;obtain⟨g2,k2,w6,eh,ud,CZ⟩:=gR (P:=Tryz.prog) 175 174 (.agg IZ) 5 72 bU xY rfl de (W:=w4) (n₀:=w.heap.size) (Ik (zp (wq+1)) 8 8 (zp wq) id.size cJ) rfl bz (dC.row (HJ.O.2.1.T (H8.O.2.mono HJ.O.2.1.size)) HRQ.O) de de pB.O.size;have HCP:=ag (lQ ud);have sh:=ag (uU ud CZ (YJ.O w4 (HJ.O.2.1.T (H8.O.2.mono HJ.O.2.1.size))) (by have:=H8.O.1;rwa [HSJ.O]at this) (HJ.O.1.below H8.O.2) (jh s) (iA id) Uw.O.1 (λ g hg=>cm (Uw.O.2 g hg)) (λ g hg=>cm (Uw.O.2 g hg)));have tl:Hid (Below w w w6):=ag (pB.O.T CZ.below);have HLX:=ag (show Below w w (w4.alloc (.cells (Ik (zp (wq+1)) 8 8 (zp wq) id.size cJ) 174))from pB.O.alloc pB.O.size _);exact yc
theorem ajP{fn:Func}{p q r u:Tmp}{tp tq tr:TypeId}(h:fn.results=#[.cell p tp,.cell q tq,.cell r tr,.tmp u])(tmps:Array Value)(P:Program)(w:World):
 (results fn tmps).run P w=
   ((asAddr (tmps.getD p undef)).run P w).andThen λ a Ku=>((loadVar tp a).run P Ku).andThen λ x Pu=>((asAddr (tmps.getD q undef)).run P Pu).andThen λ b Xd=>((loadVar tq b).run P Xd).andThen λ y Xe=>((asAddr (tmps.getD r undef)).run P Xe).andThen λ c ahA=>((loadVar tr c).run P ahA).andThen λ z ahB=>.ok (.tuple #[x,y,z,tmps.getD u undef]) ahB:=by
 simp only[results,h];simp[eD,Result.andThen]
theorem YK(S0 S1 S2:World->Prop)(R:Nat->List Piece->Nat->Nat->Nat->Nat->Nat->Nat->Prop)
 (hXl:X<w.heap.size)(hBl:B0<w.heap.size)(hS0:∀W,Below w w W->S0 W)
 (h1:∀W,S0 W->Calls Tryz.prog 45 (iS (zp X)) W λ e w'=>e= .returned (.int .i64 0)/\S1 w'/\ns (λ j=>j=X\/j=B0) W w')
 (h2:∀W,S1 W->Calls Tryz.prog 46 (iS (zp X)) W λ e w'=>e= .returned (.int .i64 0)/\S2 w'/\ns (λ j=>j=X\/j=B0) W w')
 (h3:∀W,S2 W->Calls Tryz.prog 47 (iS (zp X)) W λ e w'=>e= .returned (.int .i64 0)/\(∃(a:Nat) (b':az) (iC:Nat) (eQ:List Piece) (p1 e1 f1 p2 e2 f2:Nat),jV w' B0 b' eQ.length iC a1 d1 c1 a2 d2 c2 q/\kP w' X B0 id y wk wn kn tx g m s d a p1 e1 f1 p2 e2 f2 wt/\aQ w' b' iC eQ/\R a eQ p1 e1 f1 p2 e2 f2)/\ns (λ j=>j=X\/j=B0) W w'):
 Calls Tryz.prog 24 #[.pointer (zp X),j7 a1 d1 c1 a2 d2 c2 q] w λ e w'=>∃(a:Nat) (b':az) (iC:Nat) (eQ:List Piece) (p1 e1 f1 p2 e2 f2:Nat),e= .returned (.tuple #[bN b' eQ.length iC,j7 p1 e1 f1 p2 e2 f2 s,.agg (vk g m),.int .i64 0])/\aQ w' b' iC eQ/\R a eQ p1 e1 f1 p2 e2 f2/\ns (λ j=>j=X\/j=B0) w w':=by
 obtain⟨w1,bY⟩:=bL (((((w.alloc (.cells (CU a1 d1 c1 a2 d2 c2 q) 37)).alloc (.cells kF 31)).alloc (.cells sO 37)).alloc (.cells ml 43)).alloc (.cells (L9 (.func (.func 45) (iS (zp X)) #[]) (.func (.func 46) (iS (zp X)) #[]) (.func (.func 47) (iS (zp X)) #[])) 124));have cN:Below w w w1:=by rw[bY];go_grown
 have eb:w1.heap[w.heap.size+1]? =some (.cells kF 31)/\w1.heap[w.heap.size+1+1]? =some (.cells sO 37)/\w1.heap[w.heap.size+1+1+1]? =some (.cells ml 43):=by rw[bY];have h:=(DL w (CU a1 d1 c1 a2 d2 c2 q) kF sO ml 37 31 37 43).2;exact⟨(aT _ _ _ cP).T h.1,(aT _ _ _ cP).T h.2.1,(aT _ _ _ cP).T h.2.2⟩
 have kH:w1.heap[w.heap.size+1+1+1+1]? =some (.cells (L9 (.func (.func 45) (iS (zp X)) #[]) (.func (.func 46) (iS (zp X)) #[]) (.func (.func 47) (iS (zp X)) #[])) 124):=by obtain⟨v,hv⟩:=bL ((((w.alloc (.cells (CU a1 d1 c1 a2 d2 c2 q) 37)).alloc (.cells kF 31)).alloc (.cells sO 37)).alloc (.cells ml 43));rw[bY,<-hv,show w.heap.size+1+1+1+1=v.heap.size by rw[hv];simp];exact ai _ _
 have Cv:=aF kH;have H0:=ag (hS0 w1 cN);have HH1:=ag h1;have HH2:=ag h2;have HH3:=ag h3;have Fy:=dO hXl hBl;have H1:=eS cN eb (show w1.heap.size=w.heap.size+1+1+1+1+1 by rw[bY];simp);have qj:=ag bY;rw[bY]at Cv;unfold bN j7;clear hXl hBl hS0 h1 h2 h3 cN eb kH bY;go_enter Tryz.func24,Tryz.ntmps24
 go_wp2_with first
  |(refine dG 124 ?_)
  |(refine lU 124 ?_)
  |fail
 go_step3
 go_wp2_with first
  |(refine dG 124 ?_)
  |(refine lU 124 ?_)
  |fail
 go_step3
 go_wp2_with first
  |(refine dG 124 ?_)
  |(refine lU 124 ?_)
  |fail
 rw[<-qj.O];clear Cv
 go_loopw [9,20] (λ ev iv wr=>∃(i:Nat),ev= .int .i64 0/\iv= .int .i64 (i:Int)/\i<=3/\Hid (((i=0->wr=w1)/\(i=1->S1 wr)/\(i=2->S2 wr)/\(i=3->∃(a:Nat) (b':az) (iC:Nat) (eQ:List Piece) (p1 e1 f1 p2 e2 f2:Nat),jV wr B0 b' eQ.length iC a1 d1 c1 a2 d2 c2 q/\kP wr X B0 id y wk wn kn tx g m s d a p1 e1 f1 p2 e2 f2 wt/\aQ wr b' iC eQ/\R a eQ p1 e1 f1 p2 e2 f2))/\ns (λ j=>j=X\/j=B0) w1 wr)) (λ _ iv _=>3 - (intOf iv).toNat)
 case atStart=>exact⟨0,rfl,rfl,by decide,ag ⟨⟨λ _=>rfl, λ h=>absurd h de, λ h=>absurd h de, λ h=>absurd h de⟩,ns.refl _ _⟩⟩
 case round=>
  obtain⟨i,rfl,rfl,Ja,ma⟩:=hrel;rcases(show i=0\/i=1\/i=2\/i=3 by omega)with rfl|rfl|rfl|rfl
  ·skip;have agE:(Instr.index 124 (.agg (L9 (.func (.func 45) (iS (zp X)) #[]) (.func (.func 46) (iS (zp X)) #[]) (.func (.func 47) (iS (zp X)) #[]))) (.int .i64 0)).run Tryz.prog wr= .ok (.func (.func 45) (iS (zp X)) #[]) wr:=bU;have HC:=ag (HH1.O wr (by rw[ma.O.1.1 rfl];exact H0.O))
   go_wp2_with first
    |((with_reducible refine HC.O.mono ?_);rintro e w3 ⟨rfl,mK,ho3⟩;have HO3:=dO mK (ma.O.2.T ho3);clear mK ho3)
    |fail
   exact⟨⟨1,rfl,by simp,by decide,ag ⟨⟨λ h=>absurd h de, λ _=>HO3.O.1, λ h=>absurd h de, λ h=>absurd h de⟩,HO3.O.2⟩⟩,by simp[intOf]⟩
  ·skip;have agE:(Instr.index 124 (.agg (L9 (.func (.func 45) (iS (zp X)) #[]) (.func (.func 46) (iS (zp X)) #[]) (.func (.func 47) (iS (zp X)) #[]))) (.int .i64 1)).run Tryz.prog wr= .ok (.func (.func 46) (iS (zp X)) #[]) wr:=bU;have HC:=ag (HH2.O wr (ma.O.1.2.1 rfl))
   go_wp2_with first
    |((with_reducible refine HC.O.mono ?_);rintro e w3 ⟨rfl,mK,ho3⟩;have HO3:=dO mK (ma.O.2.T ho3);clear mK ho3)
    |fail
   exact⟨⟨2,rfl,by simp,by decide,ag ⟨⟨λ h=>absurd h de, λ h=>absurd h de, λ _=>HO3.O.1, λ h=>absurd h de⟩,HO3.O.2⟩⟩,by simp[intOf]⟩
  ·skip;have agE:(Instr.index 124 (.agg (L9 (.func (.func 45) (iS (zp X)) #[]) (.func (.func 46) (iS (zp X)) #[]) (.func (.func 47) (iS (zp X)) #[]))) (.int .i64 2)).run Tryz.prog wr= .ok (.func (.func 47) (iS (zp X)) #[]) wr:=bU;have HC:=ag (HH3.O wr (ma.O.1.2.2.1 rfl))
   go_wp2_with first
    |((with_reducible refine HC.O.mono ?_);rintro e w3 ⟨rfl,mK,ho3⟩;have HO3:=dO mK (ma.O.2.T ho3);clear mK ho3)
    |fail
   exact⟨⟨3,rfl,by simp,by decide,ag ⟨⟨λ h=>absurd h de, λ h=>absurd h de, λ h=>absurd h de, λ _=>HO3.O.1⟩,HO3.O.2⟩⟩,by simp[intOf]⟩
  ·obtain⟨⟨-, -, -,h3⟩,OW⟩:=ma.O;obtain⟨a,b',iC,eQ,p1,e1,f1,p2,e2,f2,ZQ,qn,VS,hR⟩:=h3 rfl;have HX3:=ag qn;have Hy:=ag VS;have Zt:Hid (R a eQ p1 e1 f1 p2 e2 f2/\wr.heap[w.heap.size+1]? =some (.cells kF 31)/\wr.heap[w.heap.size+1+1]? =some (.cells sO 37)/\wr.heap[w.heap.size+1+1+1]? =some (.cells ml 43)/\Below 0 wr wr/\ns (λ j=>j=X\/j=B0) w wr):=ag ⟨hR,(OW.block _ (cm H1.O.2.2) (cm Fy.O)).T H1.O.2.1.1,(OW.block _ (cm H1.O.2.2) (cm Fy.O)).T H1.O.2.1.2.1,(OW.block _ (cm H1.O.2.2) (cm Fy.O)).T H1.O.2.1.2.2,gb,(ns.bH H1.O.1).T OW⟩;have G4:=ag ZQ;clear OW h3 hR ma qn ZQ VS
   go_wp2_with fail
   have qn:=HX3.O;have ZQ:=G4.O;unfold kP at qn;unfold jV at ZQ;have x0:=(af qn 0).T rfl;have x15:=(af qn 15).T rfl;have x16:=(af qn 16).T rfl;have qE:=(af qn 17).T rfl;have x20:=(af qn 20).T rfl;have x21:=(af qn 21).T rfl;have x22:=(af qn 22).T rfl;have x23:=(af qn 23).T rfl;have x24:=(af qn 24).T rfl;have x25:=(af qn 25).T rfl;have x26:=(af qn 26).T rfl;have x27:=(af qn 27).T rfl;have x28:=(af qn 28).T rfl;have x29:=(af qn 29).T rfl;have x30:=(af qn 30).T rfl;have x31:=(af qn 31).T rfl;have x32:=(af qn 32).T rfl;have x33:=(af qn 33).T rfl;have x34:=(af qn 34).T rfl;have x35:=(af qn 35).T rfl;have s0:=(af ZQ 0).T rfl;have s1:=(af ZQ 1).T rfl;have s2:=(af ZQ 2).T rfl;have s3:=(af ZQ 3).T rfl;have s4:=(af ZQ 4).T rfl;simp only[JZ,stC,cW]at x0 x15 x16 qE x20 x21 x22 x23 x24 x25 x26 x27 x28 x29 x30 x31 x32 x33 x34 x35 s0 s1 s2 s3 s4;clear qn ZQ;refine bP 30 ?_;refine tP [0,1,2,3,4,5,6,7,8,9,10,11,12,13,14,15,16,17,18,19,20,21,22,23,24,25] ?_
   iterate 26 refine tO ?_
   refine au 4 rfl ?_;refine sP 26 [0,1,2,3,4,5,6] λ K hK=>?_;refine DO ?_;refine pN 31 (fA b' eQ.length iC) Zt.O.2.1 (λ w4 g1 g2 g3=>?_);have Aj:=eS g1 (λ j (hj:j≠w.heap.size+1)=>g2 j hj) (g3 0 wr (aD _) (gb).drew);clear g1 g2 g3 s0 s1 s2 s3 s4 x0;have qn:=(Aj.O.2.1 X (cm Fy.O)).T HX3.O;clear x15;clear x16;clear qE;clear x20;clear x21;clear x22;clear x23;clear x24;clear x25;clear x26;clear x27;clear x28;clear x29;clear x30;clear x31;clear x32;clear x33;clear x34;clear x35;have x15:=(af qn 15).T rfl;have x16:=(af qn 16).T rfl;have qE:=(af qn 17).T rfl;have x20:=(af qn 20).T rfl;have x21:=(af qn 21).T rfl;have x22:=(af qn 22).T rfl;have x23:=(af qn 23).T rfl;have x24:=(af qn 24).T rfl;have x25:=(af qn 25).T rfl;have x26:=(af qn 26).T rfl;have x27:=(af qn 27).T rfl;have x28:=(af qn 28).T rfl;have x29:=(af qn 29).T rfl;have x30:=(af qn 30).T rfl;have x31:=(af qn 31).T rfl;have x32:=(af qn 32).T rfl;have x33:=(af qn 33).T rfl;have x34:=(af qn 34).T rfl;have x35:=(af qn 35).T rfl;simp only[JZ,cW]at x15 x16 qE x20 x21 x22 x23 x24 x25 x26 x27 x28 x29 x30 x31 x32 x33 x34 x35;clear qn;refine nP hK ?_;clear hK K;refine sP 27 [0,1,2,3,4,5,6,7,8,9,10,11,12,13,14,15,16,17,18,19,20,26] λ K hK=>?_;refine DO ?_;refine pN 37 (pG p1 e1 f1 p2 e2 f2 s) ((Aj.O.2.1 _ an).T Zt.O.2.2.1) (λ w5 g1 g2 g3=>?_);have Hv:=eS g1 (λ j (hj:j≠w.heap.size+1+1)=>g2 j hj) (g3 0 wr (aD _) Aj.O.2.2);clear g1 g2 g3 x15 x16 qE x20 x21 x22 x23 x24 x25 x26 x27 x28 x29 x30 x31 x32 x33 x34 x35;have qn:=(Hv.O.2.1 X (cm Fy.O)).T ((Aj.O.2.1 X (cm Fy.O)).T HX3.O);have x15:=(af qn 15).T rfl;have x16:=(af qn 16).T rfl;simp only[JZ,cW]at x15 x16;clear qn;refine nP hK ?_;clear hK K;refine sP 28 [0,1,2,3,4,5,6,7,8,9,10,11,12,13,14,15,16,17,18,19,20,21,22,23,24,25,26,27] λ K hK=>?_;refine DO ?_;refine pN 43 (vk g m) ((Hv.O.2.1 _ an).T ((Aj.O.2.1 _ an).T Zt.O.2.2.2.1)) (λ w6 g1 g2 g3=>?_);have HW6:=eS g1 (λ j (hj:j≠w.heap.size+1+1+1)=>g2 j hj) (g3 0 wr (aD _) Hv.O.2.2);clear g1 g2 g3 x15 x16;refine nP hK ?_;clear hK K;refine tP [29] ?_;refine tO ?_;refine au 0 rfl ?_;refine dP ?_;go_simp
   go_wp2_with fail
   have k1:=(HW6.O.2.1 (w+1) an).T ((Hv.O.2.1 (w+1) an).T Aj.O.1);have k2:=(HW6.O.2.1 (w+1+1) an).T Hv.O.1;have k3:=HW6.O.1;have y0:=(af k1 0).T rfl;have y1:=(af k1 1).T rfl;have y2:=(af k1 2).T rfl;have y3:=(af k1 3).T rfl;have y4:=(af k1 4).T rfl;have z0:=(af k2 0).T rfl;have z1:=(af k2 1).T rfl;have z2:=(af k2 2).T rfl;have z3:=(af k2 3).T rfl;have z4:=(af k2 4).T rfl;have z5:=(af k2 5).T rfl;have z6:=(af k2 6).T rfl;have z7:=(af k2 7).T rfl;have z8:=(af k2 8).T rfl;have z9:=(af k2 9).T rfl;have z10:=(af k2 10).T rfl;have z11:=(af k2 11).T rfl;have z12:=(af k2 12).T rfl;have z13:=(af k2 13).T rfl;have z14:=(af k2 14).T rfl;have z15:=(af k2 15).T rfl;have z16:=(af k2 16).T rfl;have v0:=(af k3 0).T rfl;have v1:=(af k3 1).T rfl;simp only[cW]at y0 y1 y2 y3 y4 z0 z1 z2 z3 z4 z5 z6 z7 z8 z9 z10 z11 z12 z13 z14 z15 z16 v0 v1;have MB:aQ w4 b' iC eQ:=dZ (W:=wr) (g:=w.heap.size+1) (λ j _ hj=>Aj.O.2.1 j hj) Hy.O (fE.Uu Hy.O Zt.O.2.1 (λ j x=>by rcases j with _|_|_|_|_|j<;>simp) (λ j a n k e=>by rcases j with _|_|_|_|_|j<;>simp at e<;>omega));have Oy:aQ w5 b' iC eQ:=dZ (g:=w.heap.size+1+1) (λ j _ hj=>Hv.O.2.1 j hj) MB (fE.Uu MB ((Aj.O.2.1 _ an).T Zt.O.2.2.1) (λ j x=>by rcases j with _|_|_|_|_|_|_|_|_|_|_|_|_|_|_|_|_|j<;>simp) (λ j a n k e=>by rcases j with _|_|_|_|_|_|_|_|_|_|_|_|_|_|_|_|_|j<;>simp at e));have S3:aQ w6 b' iC eQ:=dZ (g:=w.heap.size+1+1+1) (λ j _ hj=>HW6.O.2.1 j hj) Oy (fE.Uu Oy ((Hv.O.2.1 _ an).T ((Aj.O.2.1 _ an).T Zt.O.2.2.2.1)) (λ j x=>by rcases j with _|_|j<;>simp) (λ j a n k e=>by rcases j with _|_|j<;>simp at e));have OW:ns (λ j=>j=X\/j=B0) w w6:=by have ho:=Zt.O.2.2.2.2.2;have hb:=HW6.O.2.2;exact⟨hb.os.T ho.os,hb.tape.T ho.tape,hb.output.T ho.output,aj ho.size hb.size, λ j hj hn=>(HW6.O.2.1 j an).T ((Hv.O.2.1 j an).T ((Aj.O.2.1 j an).T (ho.block j hj hn)))⟩
   have ly:=dO S3 OW;clear k1 k2 k3 MB Oy S3 OW;rw[fo];refine bodyPost_ret (v:=.tuple (U7 (.agg (fA b' eQ.length iC)) (.agg (pG p1 e1 f1 p2 e2 f2 s)) (.agg (vk g m)))) zG bp ⟨a,b',iC,eQ,p1,e1,f1,p2,e2,f2,rfl,ly.O.1,Zt.O.1,ly.O.2⟩
theorem QW(hX:kP w X B0 id y wk wn kn tx g m s true a p1 e1 f1 p2 e2 f2 wt):
 Calls Tryz.prog 45 (iS (zp X)) w λ e w'=>e= .returned (.int .i64 0)/\w'=w:=by
 have ZP:=(af hX 18).T rfl;simp only[JZ,cW]at ZP;clear hX;go_enter Tryz.func45,Tryz.ntmps45
 go_wp2_with fail
 go_ret;exact⟨rfl,rfl⟩
structure qo(ps eQ:List Piece)(k:Nat):Prop where
 ext:∃m,aw eQ=aw ps++m
 len:(aw eQ).length<=(aw ps).length+k
 marks:Marks (aw eQ)
theorem qo.T{agF:List Piece}{j:Nat}(h:qo ps eQ j)(h2:qo eQ agF k):qo ps agF (j+k):=by obtain⟨m,hm⟩:=h.ext;obtain⟨n,hn⟩:=h2.ext;exact⟨⟨m++n,by rw[hn,hm,aS]⟩,by have:=h.len;have:=h2.len;omega,h2.marks⟩
theorem qo.tree(h:qo ps eQ k){d:Nat}(ht:fx (aw ps) a d c its):fx (aw eQ) a d c its:=by obtain⟨m,hm⟩:=h.ext;rw[hm];exact ht.more m
theorem qo.recAt(h:qo ps eQ k){p:List Nat}(ht:iy (aw ps) a p):iy (aw eQ) a p:=by obtain⟨m,hm⟩:=h.ext;rw[hm];exact ht.more m
def QX(all:List Nat)(d:Bool)(a:Nat)(n:Int):Prop:=(d=true->a=0)/\(d=false->1<=a/\a<524288/\iy all a (ew n))
theorem Ux(h:∀x∈l,1<=x.id.length/\x.id.length<=24)(hp:its.Perm (l.map tf)):ee its:= λ kv hk=>by obtain⟨x,hx,rfl⟩:=aM.1 (hp.mem_iff.1 hk);have:=h x hx;exact⟨this.1,this.2,by rw[show(tf x).2=x.enc from rfl,BG];decide,by rw[show(tf x).2=x.enc from rfl,BG];decide⟩
theorem QY(h:∀x∈l,1<=x.id.length/\x.id.length<=24):ee (l.map oQ):= λ kv hk=>by obtain⟨x,hx,rfl⟩:=aM.1 hk;have:=h x hx;exact⟨by rw[show(oQ x).1=e8 x.s from rfl,jh];decide,by rw[show(oQ x).1=e8 x.s from rfl,jh];decide,this.1,this.2⟩
theorem J4{b:az}(hS:jV w B0 b ps.length cf a1 d1 c1 a2 d2 c2 q)(hX:kP w X B0 id (o.getD eP) wk wn o.isSome tx g m (q+1) d 0 0 0 0 0 0 0 wt)(dN:X≠B0)
 (hF:aQ w b cf ps)(hm:Marks (aw ps))(hC:gD (aw ps) a1 d1 c1 a2 d2 c2 q es)(ho:rS es (kE id) o)(hid:yR id=0)(hg:1<=g)(XU:g<=q+1)(Zp:m<4294967296)(hq:q<1000)(n:Int)(htx:d=false->tx=cE (ew n)/\ -9223372036854775808<=n/\n<9223372036854775808)
 (gk:(aw ps).length+12000<=524288)(ub:(es.filter λ y=>decide (y.id≠kE id)).length+1<=32):
 Calls Tryz.prog 24 #[.pointer (zp X),j7 a1 d1 c1 a2 d2 c2 q] w λ e w'=>∃(at_:Nat) (b':az) (iC:Nat) (eQ:List Piece) (p1 e1 f1 p2 e2 f2:Nat),e= .returned (.tuple #[bN b' eQ.length iC,j7 p1 e1 f1 p2 e2 f2 (q+1),.agg (vk g m),.int .i64 0])/\aQ w' b' iC eQ/\(qo ps eQ 8000/\gD (aw eQ) p1 e1 f1 p2 e2 f2 (q+1) (xt es ⟨kE id,g,m,q+1,d,at_,if d then 0 else n⟩))/\ns (λ j=>j=X\/j=B0) w w':=by
 have hXl:=(cS hX).1;have hBl:=(cS hS).1;have Ha:1<=id.size/\id.size<=24:=by have:=xu (id:=kE id) (by rw[pS];exact hid);rw[iA]at this;exact this
 have aeP:∀x∈es,1<=x.id.length/\x.id.length<=24:= λ x hx=>xu (hC.ok x hx).id;have hwl:∀(x:bX),x.id=kE id->∀z∈xt es x,1<=z.id.length/\z.id.length<=24:= λ x hx z hz=>by
  rcases aG.1 hz with hz|hz
  ·exact aeP z (bT.1 hz).1
  ·rw[aE]at hz;subst hz;rw[hx,iA];exact Ha
 have hwn:∀(x:bX),x.id=kE id->(xt es x).length<=32:= λ x hx=>by unfold xt;rw[ar,gu,hx];exact ub
 have abC:∀a all,QX all d a n->wZ g m (q+1) d a:= λ a all hb=>⟨hg,an,Zp,an,an,hb.1, λ e=>⟨(hb.2 e).1,(hb.2 e).2.1⟩⟩;obtain⟨its,hip,hT1⟩:=hC.ids;have agG:=uI.1 hT1.zM;have aiM:its.length<=32:=by rw[hip.length_eq,aR];exact hC.many
 refine YK (id:=id) (y:=o.getD eP) (wk:=wk) (wn:=wn) (kn:=o.isSome) (tx:=tx) (d:=d) (wt:=wt) (λ W=>jV W B0 b ps.length cf a1 d1 c1 a2 d2 c2 q/\kP W X B0 id (o.getD eP) wk wn o.isSome tx g m (q+1) d 0 0 0 0 0 0 0 wt/\aQ W b cf ps)
  (λ W=>∃a b' iC eQ,jV W B0 b' eQ.length iC a1 d1 c1 a2 d2 c2 q/\kP W X B0 id (o.getD eP) wk wn o.isSome tx g m (q+1) d a 0 0 0 0 0 0 wt/\aQ W b' iC eQ/\qo ps eQ 27/\QX (aw eQ) d a n)
  (λ W=>∃a b' iC eQ p1 e1 f1,jV W B0 b' eQ.length iC a1 d1 c1 a2 d2 c2 q/\kP W X B0 id (o.getD eP) wk wn o.isSome tx g m (q+1) d a p1 e1 f1 0 0 0 wt/\aQ W b' iC eQ/\qo ps eQ (27+3840)/\QX (aw eQ) d a n/\fx (aw eQ) p1 e1 f1 (iH its [⟨kE id,true,dS g m (q+1) d a⟩]))
  (λ a eQ p1 e1 f1 p2 e2 f2=>qo ps eQ 8000/\gD (aw eQ) p1 e1 f1 p2 e2 f2 (q+1) (xt es ⟨kE id,g,m,q+1,d,a,if d then 0 else n⟩)) hXl hBl (λ W hW=>⟨hS.below hW,(hW.block X hXl).T hX,hF.below hW⟩) ?_ ?_ ?_
 ·rintro W ⟨s1,s2,s3⟩;cases d with
  |true=>
   refine(QW s2).mono ?_;rintro e w' ⟨rfl,rfl⟩;exact⟨rfl,⟨0,b,cf,ps,s1,s2,s3,⟨⟨[],by simp⟩,an,hm⟩,⟨λ _=>rfl, λ e=>absurd e de⟩⟩,ns.refl _ _⟩
  |false=>
   obtain⟨h1,h2,h3⟩:=htx rfl;have kA:=lF n h2 h3;have th:kE tx=ew n:=by rw[h1];exact tX (KW n h2 h3)
   have aiy:(ew n).length<=20/\1<=(ew n).length:=by
    have:(cE (ew n)).size=(ew n).length:=by simp[cE,ByteArray.size]
    omega
   have mJ:=tL (ft (kE tx)) (aw ps).length;rw[qM,th]at mJ;have yN:(ed (aw ps).length (ft (kE tx))).length<=27:=by rw[th];omega
   refine(QV s1 s2 dN s3 hm (by rw[h1];exact kA.1) (by rw[h1];omega) an).mono ?_;rintro e w' ⟨b',iC,eQ,rfl,t1,t2,t3,t4,t5⟩;have hb:=JC (aw ps).length;refine⟨rfl,⟨_,b',iC,eQ,t1,t2,t3,⟨⟨_,t4⟩,by rw[t4,ar];omega,by rw[t4];exact yj hm _⟩,⟨λ e=>absurd e de, λ _=>⟨hb.1,an,?_⟩⟩⟩,t5⟩;rw[t4,th];exact iy.new _ _ aiy.2 an (λ x hx=>by rw[<-th]at hx;exact Qt tx x hx)
 ·rintro W ⟨a,b',iC,eQ,s1,s2,s3,s4,s5⟩;have hx:(⟨kE id,g,m,q+1,d,a,if d then 0 else n⟩:bX).id=kE id:=rfl;obtain⟨k1,k2⟩:=Oa ⟨kE id,g,m,q+1,d,a,if d then 0 else n⟩ hip agG hC.apart;have hl:(iH its [⟨kE id,true,dS g m (q+1) d a⟩]).length<=32:=by
   have:=k2.length_eq;rw[aR]at this;have h2:=hwn _ hx;unfold xt at h2;exact this▸h2
  have QZ:(aw eQ).length+200*(iH its [⟨kE id,true,dS g m (q+1) d a⟩]).length<=524288:=cm s4.len;refine(aaR s1 s2 dN s3 s4.marks (abC a _ s5) Ha.1 Ha.2 (s4.tree hT1) an rfl an (Ux (hwl _ hx) k2) QZ).mono ?_;rintro e w' ⟨p1,e1,f1,b2,cf2,GO,rfl,t1,t2,t3,t4,t5,t6,t7,t8⟩;have jk:qo eQ GO 3840:=⟨t6,an,t4⟩;exact⟨rfl,⟨a,b2,cf2,GO,p1,e1,f1,t1,t2,t3,s4.T jk,⟨s5.1, λ e=>⟨(s5.2 e).1,(s5.2 e).2.1,jk.recAt (s5.2 e).2.2⟩⟩,t5⟩,t8⟩
 ·rintro W ⟨a,b',iC,eQ,p1,e1,f1,s1,s2,s3,s4,s5,s6⟩;have hx:(⟨kE id,g,m,q+1,d,a,if d then 0 else n⟩:bX).id=kE id:=rfl;have cL:∀y∈es,y.s<q+1:= λ y hy=>by have:=(hC.ok y hy).le;omega
  have hsd:iH (es.map oQ) ((if o.isSome then[⟨e8 (o.getD eP).s,false,[]⟩]else[])++[⟨e8 (q+1),true,kE id⟩])=(xt es ⟨kE id,g,m,q+1,d,a,if d then 0 else n⟩).map oQ:=by
   refine TQ ⟨kE id,g,m,q+1,d,a,if d then 0 else n⟩ hC.zM cL (show q+1<_ by omega) hC.apart ?_;cases o with
   |none=>exact .inl ⟨ho,rfl⟩
   |some x=>exact .inr ⟨x,ho.1,ho.2,rfl⟩
  have hl:((xt es ⟨kE id,g,m,q+1,d,a,if d then 0 else n⟩).map oQ).length<=32:=by rw[aR];exact hwn _ hx
  have QZ:(aw eQ).length+200*((xt es ⟨kE id,g,m,q+1,d,a,if d then 0 else n⟩).map oQ).length<=524288:=cm s4.len;refine(YH s1 s2 dN s3 s4.marks Ha.2 an (λ e=>?_) (s4.tree hC.Xw) (by rw[aR];have:=hC.many;omega) hsd.symm an (QY (hwl _ hx)) QZ).mono ?_
  ·cases o with
   |none=>cases e
   |some x=>exact cL x ho.1
  ·rintro e w' ⟨p2,e2,f2,b2,cf2,GO,rfl,t1,t2,t3,t4,t5,t6,t7,t8⟩;have jk:qo eQ GO 3840:=⟨t6,an,t4⟩;have hgg:=s4.T jk;refine⟨rfl,⟨a,b2,cf2,GO,p1,e1,f1,p2,e2,f2,t1,t2,t3,⟨hgg.ext,by have:=hgg.len;omega,hgg.marks⟩,⟨⟨_,(Oa ⟨kE id,g,m,q+1,d,a,if d then 0 else n⟩ hip agG hC.apart).2,jk.tree s6⟩,t5, λ z hz=>?_,hwn _ hx⟩⟩,t8⟩;obtain⟨mm,aiz⟩:=hgg.ext;rcases aG.1 hz with hz|hz
   ·rw[aiz];exact(hC.ok z (bT.1 hz).1).more mm an
   ·rw[aE]at hz;subst hz;refine⟨by rw[show(⟨kE id,g,m,q+1,d,a,if d then 0 else n⟩:bX).id=kE id from rfl,pS];exact hid,abC a _ s5,cH, λ e=>?_⟩;have e':d=false:=e;subst e';exact⟨(htx rfl).2.1,(htx rfl).2.2,jk.recAt (s5.2 rfl).2.2⟩
theorem J5{all:List Nat}(hC:gD all a1 d1 c1 a2 d2 c2 q es){id:List Nat}:∀{o o':Option bX},rS es id o->rS es id o'->o=o'
 |none,none,_,_=>rfl
 |some x,some y,h,h'=>by rw[JI (f:=bX.id) hC.apart h.1 h'.1 (h.2.T h'.2.symm)]
 |none,some y,h,h'=>absurd h'.2 (h y h'.1)
 |some x,none,h,h'=>absurd h.2 (h' x h.1)
theorem GW{b:az}(hF:aQ w b cf ps)(hm:Marks (aw ps))(hC:gD (aw ps) a1 d1 c1 a2 d2 c2 q es)(hq:q<=1099511627776)(s:ByteArray)(DG:s.size<=4611686018427387904)(hid:yR s=0)(ho:rS es (kE s) o):
 Calls Tryz.prog 18 #[bN b ps.length cf,j7 a1 d1 c1 a2 d2 c2 q,.string s] w λ e w'=>∃(X B0:Nat) (wk wn:Int),e= .returned (.tuple (ac1 (zp X)))/\w.heap.size<=X/\w.heap.size<=B0/\X≠B0/\jV w' B0 b ps.length cf a1 d1 c1 a2 d2 c2 q/\kP w' X B0 s (o.getD eP) wk wn o.isSome ⟨#[]⟩ 0 0 0 false 0 0 0 0 0 0 0 (j8 o)/\Below w w w':=
 (CW hF hm hC hq s DG).mono λ e w' ⟨hb,h⟩=>by
   rcases h with⟨h1,_⟩|⟨_,o',X,B0,wk,wn,rfl,h2,h3,h4,h5,h6,h7,_⟩
   ·exact absurd hid h1
   ·have:=J5 hC h5 ho;subst this;exact⟨X,B0,wk,wn,rfl,h2,h3,h4,h6,h7,hb⟩
theorem YL{b:az}(hF:aQ w b cf ps)(hm:Marks (aw ps))(hC:gD (aw ps) a1 d1 c1 a2 d2 c2 q es)(hq:q<=1099511627776)(s:ByteArray)(DG:s.size<=4611686018427387904)(hid:yR s≠0):
 Calls Tryz.prog 18 #[bN b ps.length cf,j7 a1 d1 c1 a2 d2 c2 q,.string s] w λ e w'=>e= .returned (.tuple #[.pointer none,.int .i64 290])/\Below w w w':=
 (CW hF hm hC hq s DG).mono λ e w' ⟨hb,h⟩=>by
   rcases h with⟨_,rfl⟩|⟨h1,_⟩
   ·exact⟨rfl,hb⟩
   ·exact absurd h1 hid
end
end Go.Proofs.YtbiififbfefkjaaGreatDoor

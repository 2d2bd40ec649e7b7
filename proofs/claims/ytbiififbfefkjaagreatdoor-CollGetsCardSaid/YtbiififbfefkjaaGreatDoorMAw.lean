/- The store, part 23. -/
import Derived.Test.YtbiififbfefkjaaGreatDoorMAs
import Derived.Test.YtbiififbfefkjaaGreatDoorMAt
set_option linter.unusedSimpArgs false
set_option linter.unusedVariables false
set_option maxRecDepth 100000
set_option maxHeartbeats 16000000
namespace Go.Proofs.YtbiififbfefkjaaGreatDoor
open Go.RowKit Go.Shelf
variable{w V V':World}{fc nc kc:Array Value}{n:Nd}{key all:List Nat}{c k h:Nat}{ps:List Piece}{DC:Bool}{its:List KV}{xs:List a8}{x:a8}
section
attribute [local go_sem] Oper.semAt_some
attribute [-go_sem] Builtin.append_
structure Ai(w V:World)(fc nc:Array Value):Prop where
 f:V.heap[w.heap.size]? =some (.cells fc 31)
 nd:V.heap[w.heap.size+1]? =some (.cells nc 147)
 hu:V.heap[w.heap.size+1+1]? =some (.cells Q2 107)
 rf:V.heap[w.heap.size+1+1+1]? =some (.cells kF 31)
 rk:V.heap[w.heap.size+1+1+1+1]? =some (.cells qq 144)
 lt:w.heap.size+5<=V.heap.size
 lV:Below w w V
theorem Ai.below(h:Ai w V fc nc)(hb:Below V V V'):Ai w V' fc nc:=
 ⟨(hb.block _ (cm h.lt)).T h.f,(hb.block _ (cm h.lt)).T h.nd,(hb.block _ (cm h.lt)).T h.hu,(hb.block _ (cm h.lt)).T h.rf,(hb.block _ (cm h.lt)).T h.rk,aj h.lt hb.size,h.lV.T (hb.mono h.lV.size)⟩
theorem Ai.Di(h:Ai w V fc nc)(D:Nat)(hD:w.heap.size+5<=D)(hk:∀j,j≠D->V'.heap[j]? =V.heap[j]?)(hs:V.heap.size<=V'.heap.size)(hb:Below w w V'):Ai w V' fc nc:=
 ⟨(hk _ an).T h.f,(hk _ an).T h.nd,(hk _ an).T h.hu,(hk _ an).T h.rf,(hk _ an).T h.rk,aj h.lt hs,hb⟩
theorem TY{a:az}(k:Nat)(h:n.At w a)(ho:n.Ok):Calls Tryz.prog 98 #[n.v a k] w λ e w'=>∃B k,e= .returned (.slice (zp B) n.enc.length k)/\ay w' (zp B) n.enc/\Below w w w':=by
 cases n with
 |leaf xs=>exact K6 k h ho.1 ho.2
 |inner xs=>exact IQ k h ho
theorem aaB{a:az}(k:Nat)(h:n.At w a)(ho:n.Ok):Calls Tryz.prog 100 #[n.v a k] w λ e w'=>e= .returned (iP (n.red:Int))/\Below w w w':=by
 cases n with
 |leaf xs=>
  have:=JL (b:=none) (ys:=[]) true k 0 h ⟨.inl rfl,by simp⟩ (cm ho.1.mE) cP (by have:=ho.1.mE;simp[nA];omega);show Calls _ _ (BX (.agg (pF a xs.length k))) w λ e w'=>e= .returned (iP (xs.length:Int))/\_;simpa[nA]using this
 |inner xs=>
  have h6:=ho.mE;have hs:nA xs<=xs.length*100000:=Et xs λ x hx=>(ho.key x hx).2.2.2.2.2;have:=JL (a:=none) (xs:=[]) false 0 k ⟨.inl rfl,by simp⟩ h cP an dU;show Calls _ _ (BX (.agg (pU a xs.length k))) w λ e w'=>e= .returned (iP ((xs.map a8.count).sum:Int))/\_;simpa[nA]using this
theorem TZ{a:az}(k:Nat)(h:n.At w a)(ho:n.Ok)(hk:n.keys[0]? =some key):ay w n.UM key/\∃kc,∀V,Below w w V->Calls Tryz.prog 99 #[n.v a k] V λ e w'=>e= .returned (.slice n.UM key.length kc)/\Below V V w':=by
 cases n with
 |leaf xs=>
  cases xs with
  |nil=>simp[Nd.keys]at hk
  |cons x xs=>
   obtain rfl:x.key=key:=by simpa[Nd.keys]using hk
   exact⟨(h.2 x bD).1,x.kc, λ V hV=>Od k (h.below hV) x rfl _ rfl⟩
 |inner xs=>
  cases xs with
  |nil=>simp[Nd.keys]at hk
  |cons x xs=>
   obtain rfl:x.key=key:=by simpa[Nd.keys]using hk
   exact⟨h.2 x bD,x.kc, λ V hV=>K7 k (h.below hV) x rfl _ rfl⟩
theorem RI{W:World}{B:Nat}{pc:Piece}(h:aQ W (zp B) c (ps++[pc])):B<W.heap.size:=by
 rcases h.pieces.1 with h0|⟨B2,o,e,hc⟩
 ·simp at h0
 ·cases e;exact aZ W _ (hc ps.length pc cP)
theorem Gr{b a:az}(hF:aQ w b c ps)(hm:Marks (aw ps))(ke:oP b c)(hn:n.At w a)(ho:n.Ok)(hk:n.keys[0]? =some key)(num:Nat)(h1:1<=n.enc.length)(h2:n.enc.length<=4096)(jN:(aw ps).length+(ed (aw ps).length (ft n.enc)).length<=524288):
 Calls Tryz.prog 61 #[bN b ps.length c,n.v a k,.int .i64 (num:Int),.agg Q2] w λ e w'=>∃B' c' pc kc,e= .returned (.tuple #[bN (zp B') (ps.length+1) c',(a8.mk n.UM key kc (db (aw ps).length) n.red).v])/\aQ w' (zp B') c' (ps++[pc])/\pc.2.1=ed (aw ps).length (ft n.enc)/\ay w' n.UM key/\w.heap.size<=B'/\eZ w pc.1/\Below w w w':=by
 obtain⟨Wm,kc,hfi⟩:=TZ k hn ho hk;have Qi:= λ (V:World) (hV:Below w w V)=>aaB k (hn.below hV) ho;have iL:= λ (V:World) (hV:Below w w V)=>TY k (hn.below hV) ho;have pH:= λ (V:World) (hV:Below w w V) (B cp:Nat) (hB:ay V (zp B) n.enc)=>Wu (cp:=cp) (hF.below hV) hm ke hB h1 h2 jN;obtain⟨cb,xa,xn,xk,ya,yn,yk,hv⟩:∃cb xa xn xk ya yn yk,n.v a k= .agg (oS cb xa xn xk ya yn yk):=⟨_,_,_,_,_,_,_,rfl⟩;obtain⟨L,hL⟩:=bL ps.length;obtain⟨nb,Jq⟩:=bL (db (aw ps).length);obtain⟨kl,Mi⟩:=bL key.length;obtain⟨ne,dN⟩:=bL n.enc.length;obtain⟨rd,AT⟩:=bL n.red;obtain⟨ka,Ah⟩:=bL n.UM;unfold a8.v;dsimp only;rw[hv]at hfi Qi iL⊢;rw[<-hL,<-Jq]at pH;rw[<-hL,<-Jq,<-Mi,<-AT];rw[<-Mi]at hfi;rw[<-dN]at iL pH;rw[<-AT]at Qi;rw[<-Ah]at hfi Wm⊢;have HFI:=ag hfi;have Zq:=ag Qi;have UJ:=ag iL;have HPU:=ag pH;have HKY:=ag Wm;clear hfi Qi iL pH Wm hF hm ke hn ho hk h1 h2 jN hv hL Jq Mi dN AT Ah;obtain⟨w5,kY⟩:=bL (((((w.alloc (.cells (fA b L c) 31)).alloc (.cells (oS cb xa xn xk ya yn yk) 147)).alloc (.cells Q2 107)).alloc (.cells kF 31)).alloc (.cells qq 144));have hW:Ai w w5 (fA b L c) (oS cb xa xn xk ya yn yk):=by
  obtain⟨v2,mu⟩:=bL ((w.alloc (.cells (fA b L c) 31)).alloc (.cells (oS cb xa xn xk ya yn yk) 147));rw[<-mu]at kY;have hz:v2.heap.size=w.heap.size+1+1:=by rw[mu];simp
  have hb:Below w w v2:=by rw[mu];go_grown
  obtain⟨e0,e1⟩:=bu (w2:=v2) oY;obtain⟨e2,e3,e4⟩:=gT (w2:=w5) (by rw[kY];exact gb);have zb:Below v2 v2 w5:=by rw[kY];go_grown
  rw[hz]at e2 e3 e4;exact⟨(zb.block _ an).T e0,(zb.block _ an).T e1,e2,e3,e4,by rw[kY];simp;omega,hb.T (zb.mono hb.size)⟩
 have H5:=ag hW;have Hv:=ag kY;have u0:=af hW.hu 0;have u1:=af hW.hu 1;simp only[cW]at u0 u1;clear kY hW;unfold bN at*;have mr:∀(cs:List Value) (m:Nat),cs.length=m->(∀v∈cs,∀x:Nat,v≠.int .u8 (x:Int))->∀(j x:Nat),cs.toArray[j]? ≠some (.int .u8 (x:Int)):= λ cs _ _ h j x e=>by exact nT
 replace mr:= λ cs {m:Nat}=>mr cs m;rcases eB num with afJ|afJ
 all_goals
  first
   |(have hz:((0:Int)==(num:Int))=true:=dU)
   |(have hz:((0:Int)==(num:Int))=false:=dU)
  clear afJ;go_enter Tryz.func61,Tryz.ntmps61;rw[Hv.O]at u0 u1
  go_wp2_with fail
  rw[<-Hv.O];obtain⟨f0,f1,f2,f3,f4⟩:=dF H5.O.f;have n0:=(af H5.O.nd 0).T rfl;have n1:=(af H5.O.nd 1).T rfl;have n2:=(af H5.O.nd 2).T rfl;simp only[cW]at n0 n1 n2;clear u0 u1;refine bP 9 ?_;refine tP [0,1] ?_
  iterate 2 refine tO ?_
  refine au 7 rfl ?_;refine sP 2 [1] λ K hK=>?_;go_simp;refine(UJ.O _ (show Below w w w5.drew from H5.O.lV.drew)).mono ?_;rintro e V ⟨Bb,kb,rfl,hs,hv⟩;have hWV:=H5.O.below ((ah _ w5).drew.T hv);obtain⟨f0,f1,f2,f3,f4⟩:=dF hWV.f;have HWV:=ag hWV;have HSV:=ag hs;clear hs hv hWV n0 n1 n2;refine nP hK ?_;clear hK K;refine sP 3 [0,1,2] λ K hK=>?_;go_simp;refine(HPU.O V HWV.O.lV _ _ HSV.O).mono ?_;rintro e V2 ⟨B',c',pc,rfl,hF2,vY,nH,hfp,mu⟩;have DV:=ag (HWV.O.below mu);have vJ:=eS hF2 vY (show w.heap.size+5<=B' by have:=HWV.O.lt;omega);have HFP:=ag (show eZ w pc.1 from λ p e=>aj HWV.O.lV.size (hfp p e));clear hF2 vY nH hfp mu f0 f1 f2 f3 f4;refine nP hK ?_;clear hK K;refine tP [4,5,6] ?_
  iterate 3 refine tO ?_
  refine au 2 rfl ?_;refine sP 7 [0,1,2,3,4,5] λ K hK=>?_;refine pN 31 (fA (zp B') (L+1) c') DV.O.f ?_;intro V3 h1 h2 h3;have nE:Hid (Ai w V3 (fA (zp B') (L+1) c') (oS cb xa xn xk ya yn yk)):=ag ⟨h1,(h2 _ an).T DV.O.nd,(h2 _ an).T DV.O.hu,(h2 _ an).T DV.O.rf,(h2 _ an).T DV.O.rk,(by have:=(cS ((h2 (w+1+1+1+1) an).T DV.O.rk)).1;omega),h3 _ _ (cH) DV.O.lV⟩;have Hy:Hid (aQ V3 (zp B') c' (ps++[pc])):=ag (fQ (λ j hj=>h2 j hj) DV.O.f (mr _ rfl cP) vJ.O.1 (λ G o e=>by cases e;have:=vJ.O.2.2;omega));clear h1 h2 h3;refine nP hK ?_;clear hK K;refine tP [8] ?_;refine tO ?_;refine au 0 rfl ?_;refine dP ?_;go_simp
  go_wp2_with fail
  obtain⟨V,hV0⟩:=bL V3.drew;have HV0:=ag (show V3.drew=V from hV0.symm);have lq:Hid (Ai w V (fA (zp B') (L+1) c') (oS cb xa xn xk ya yn yk)):=ag (by rw[hV0];exact nE.O.below (gb).drew);have vi:Hid (aQ V (zp B') c' (ps++[pc])/\V3.heap.size<=V.heap.size):=ag (by rw[hV0];exact⟨Hy.O.below (gb).drew,cH⟩);have ek:=ag (RI Hy.O);have n0:=(af nE.O.nd 0).T rfl;have n1:=(af nE.O.nd 1).T rfl;have n2:=(af nE.O.nd 2).T rfl;simp only[cW]at n0 n1 n2;clear hV0;refine bP 8 ?_;refine tP [0,2,3] ?_
  iterate 3 refine tO ?_
  refine au 5 rfl ?_;refine G6 1 6 [0] [] (λ K hK=>?_) λ K hK=>?_;go_simp;rw[HV0.O];clear n0 n1 n2;have n0:=(af lq.O.nd 0).T rfl;have n1:=(af lq.O.nd 1).T rfl;have n2:=(af lq.O.nd 2).T rfl;refine(HFI.O V lq.O.lV).mono ?_;rintro e V ⟨rfl,hv⟩;have rJ:=ag (lq.O.below hv);have rK:=dO (vi.O.1.below hv) (aj vi.O.2 hv.size);clear lq vi;have lq:=rJ;have vi:=rK;clear rJ rK
  try(have kO:=dO gm.O.1 ((hv.block _ (cS gm.O.2).1).T gm.O.2);clear gm;have gm:=kO;clear kO)
  clear hv n0 n1 n2;have n0:=(af lq.O.nd 0).T rfl;have n1:=(af lq.O.nd 1).T rfl;have n2:=(af lq.O.nd 2).T rfl;refine nP hK ?_;clear hK K;refine G6 4 6 [0,1,3] [0] (λ K hK=>?_) λ K hK=>?_;go_simp;refine(Zq.O V lq.O.lV).mono ?_;rintro e V ⟨rfl,hv⟩;have rJ:=ag (lq.O.below hv);have rK:=dO (vi.O.1.below hv) (aj vi.O.2 hv.size);clear lq vi;have lq:=rJ;have vi:=rK;clear rJ rK
  try(have kO:=dO gm.O.1 ((hv.block _ (cS gm.O.2).1).T gm.O.2);clear gm;have gm:=kO;clear kO)
  clear hv n0 n1 n2;have n0:=(af lq.O.nd 0).T rfl;have n1:=(af lq.O.nd 1).T rfl;have n2:=(af lq.O.nd 2).T rfl;refine nP hK ?_;clear hK K;refine tP [5] ?_;refine tO ?_;refine au 2 rfl ?_;refine sP 6 [0,1,3] λ K hK=>?_;go_simp;obtain⟨A,hA⟩:=bL V.heap.size;obtain⟨V,vO⟩:∃V',V'=V.alloc (.cells qq 144):=⟨_,rfl⟩;have rJ:=ag (show Ai w V (fA (zp B') (L+1) c') (oS cb xa xn xk ya yn yk)from lq.O.below uv);have rK:=dO (show aQ V (zp B') c' (ps++[pc])from vi.O.1.below uv) (show V3.heap.size<=V.heap.size from aj vi.O.2 (by rw[vO];simp));have gm:=ag (show V3.heap.size<=A/\V.heap[A]? =some (.cells qq 144)from⟨by rw[hA];exact vi.O.2,by rw[vO,hA];exact ai _ _⟩);rw[<-vO,<-hA];clear lq vi vO hA n0 n1 n2;have lq:=rJ;have vi:=rK;clear rJ rK;have n0:=(af lq.O.nd 0).T rfl;have n1:=(af lq.O.nd 1).T rfl;have n2:=(af lq.O.nd 2).T rfl;refine nP hK ?_;clear hK K;refine sP 7 [0,1,2,3,4,5,6] λ K hK=>?_;refine pN 144 (jl ka kl kc nb rd) gm.O.2 ?_;intro V4 h1 h2 h3;have Aj:Hid (Ai w V4 (fA (zp B') (L+1) c') (oS cb xa xn xk ya yn yk)):=ag ⟨(h2 _ (iX gm.O.1 nE.O.lt)).T lq.O.f,(h2 _ (iX gm.O.1 nE.O.lt)).T lq.O.nd,(h2 _ (iX gm.O.1 nE.O.lt)).T lq.O.hu,(h2 _ (iX gm.O.1 nE.O.lt)).T lq.O.rf,(h2 _ (iX gm.O.1 nE.O.lt)).T lq.O.rk,zy,h3 _ _ (iX gm.O.1 nE.O.lt) lq.O.lV⟩;have HF4:Hid (aQ V4 (zp B') c' (ps++[pc])):=ag (fQ (λ j hj=>h2 j hj) gm.O.2 (mr _ rfl cP) vi.O.1 (λ G o e=>by cases e;have:=gm.O.1;have:=ek.O;omega));have O3:=dO (aj nE.O.lt gm.O.1) h1;clear h1 h2 h3 n0 n1 n2 lq vi gm;refine nP hK ?_;clear hK K;refine dP ?_;rotate_left;go_simp;obtain⟨A,hA⟩:=bL V.heap.size;obtain⟨V,vO⟩:∃V',V'=V.alloc (.cells qq 144):=⟨_,rfl⟩;have rJ:=ag (show Ai w V (fA (zp B') (L+1) c') (oS cb xa xn xk ya yn yk)from lq.O.below uv);have rK:=dO (show aQ V (zp B') c' (ps++[pc])from vi.O.1.below uv) (show V3.heap.size<=V.heap.size from aj vi.O.2 (by rw[vO];simp));have gm:=ag (show V3.heap.size<=A/\V.heap[A]? =some (.cells qq 144)from⟨by rw[hA];exact vi.O.2,by rw[vO,hA];exact ai _ _⟩);rw[<-vO,<-hA];clear lq vi vO hA n0 n1 n2;have lq:=rJ;have vi:=rK;clear rJ rK;have n0:=(af lq.O.nd 0).T rfl;have n1:=(af lq.O.nd 1).T rfl;have n2:=(af lq.O.nd 2).T rfl;refine nP hK ?_;clear hK K;refine sP 4 [0,1,3] λ K hK=>?_;go_simp;refine(Zq.O V lq.O.lV).mono ?_;rintro e V ⟨rfl,hv⟩;have rJ:=ag (lq.O.below hv);have rK:=dO (vi.O.1.below hv) (aj vi.O.2 hv.size);clear lq vi;have lq:=rJ;have vi:=rK;clear rJ rK
  try(have kO:=dO gm.O.1 ((hv.block _ (cS gm.O.2).1).T gm.O.2);clear gm;have gm:=kO;clear kO)
  clear hv n0 n1 n2;have n0:=(af lq.O.nd 0).T rfl;have n1:=(af lq.O.nd 1).T rfl;have n2:=(af lq.O.nd 2).T rfl;refine nP hK ?_;clear hK K;refine tP [5] ?_;refine tO ?_;refine au 1 rfl ?_;refine sP 7 [0,1,2,3,4,5,6] λ K hK=>?_;refine pN 144 (jl ka kl kc nb rd) gm.O.2 ?_;intro V4 h1 h2 h3;have Aj:Hid (Ai w V4 (fA (zp B') (L+1) c') (oS cb xa xn xk ya yn yk)):=ag ⟨(h2 _ (iX gm.O.1 nE.O.lt)).T lq.O.f,(h2 _ (iX gm.O.1 nE.O.lt)).T lq.O.nd,(h2 _ (iX gm.O.1 nE.O.lt)).T lq.O.hu,(h2 _ (iX gm.O.1 nE.O.lt)).T lq.O.rf,(h2 _ (iX gm.O.1 nE.O.lt)).T lq.O.rk,zy,h3 _ _ (iX gm.O.1 nE.O.lt) lq.O.lV⟩;have HF4:Hid (aQ V4 (zp B') c' (ps++[pc])):=ag (fQ (λ j hj=>h2 j hj) gm.O.2 (mr _ rfl cP) vi.O.1 (λ G o e=>by cases e;have:=gm.O.1;have:=ek.O;omega));have O3:=dO (aj nE.O.lt gm.O.1) h1;clear h1 h2 h3 n0 n1 n2 lq vi gm;refine nP hK ?_;clear hK K;refine dP ?_;rotate_left;go_simp;obtain⟨A,hA⟩:=bL V3.heap.size;obtain⟨V,vO⟩:∃V',V'=(V3.alloc (.cells qq 144)).drew:=⟨_,rfl⟩;have rJ:=ag (show Ai w V (fA (zp B') (L+1) c') (oS cb xa xn xk ya yn yk)from nE.O.below zx);have rK:=dO (show aQ V (zp B') c' (ps++[pc])from Hy.O.below zx) (show V3.heap.size<=V.heap.size by rw[vO];exact((ah _ V3).alloc (cH) _).drew.size);have gm:=ag (show V3.heap.size<=A/\V.heap[A]? =some (.cells qq 144)from⟨by rw[hA];exact cH,by rw[vO,hA];exact ai _ _⟩);rw[<-vO,<-hA];clear lq vi vO hA n0 n1 n2;have lq:=rJ;have vi:=rK;clear rJ rK;have n0:=(af lq.O.nd 0).T rfl;have n1:=(af lq.O.nd 1).T rfl;have n2:=(af lq.O.nd 2).T rfl;refine nP hK ?_;clear hK K;refine sP 1 [0] λ K hK=>?_;go_simp;refine(HFI.O V lq.O.lV).mono ?_;rintro e V ⟨rfl,hv⟩;have rJ:=ag (lq.O.below hv);have rK:=dO (vi.O.1.below hv) (aj vi.O.2 hv.size);clear lq vi;have lq:=rJ;have vi:=rK;clear rJ rK
  try(have kO:=dO gm.O.1 ((hv.block _ (cS gm.O.2).1).T gm.O.2);clear gm;have gm:=kO;clear kO)
  clear hv n0 n1 n2;have n0:=(af lq.O.nd 0).T rfl;have n1:=(af lq.O.nd 1).T rfl;have n2:=(af lq.O.nd 2).T rfl;refine nP hK ?_;clear hK K;refine sP 4 [0,1,3] λ K hK=>?_;go_simp;refine(Zq.O V lq.O.lV).mono ?_;rintro e V ⟨rfl,hv⟩;have rJ:=ag (lq.O.below hv);have rK:=dO (vi.O.1.below hv) (aj vi.O.2 hv.size);clear lq vi;have lq:=rJ;have vi:=rK;clear rJ rK
  try(have kO:=dO gm.O.1 ((hv.block _ (cS gm.O.2).1).T gm.O.2);clear gm;have gm:=kO;clear kO)
  clear hv n0 n1 n2;have n0:=(af lq.O.nd 0).T rfl;have n1:=(af lq.O.nd 1).T rfl;have n2:=(af lq.O.nd 2).T rfl;refine nP hK ?_;clear hK K;refine tP [5] ?_;refine tO ?_;refine au 1 rfl ?_;refine sP 7 [0,1,2,3,4,5,6] λ K hK=>?_;refine pN 144 (jl ka kl kc nb rd) gm.O.2 ?_;intro V4 h1 h2 h3;have Aj:Hid (Ai w V4 (fA (zp B') (L+1) c') (oS cb xa xn xk ya yn yk)):=ag ⟨(h2 _ (iX gm.O.1 nE.O.lt)).T lq.O.f,(h2 _ (iX gm.O.1 nE.O.lt)).T lq.O.nd,(h2 _ (iX gm.O.1 nE.O.lt)).T lq.O.hu,(h2 _ (iX gm.O.1 nE.O.lt)).T lq.O.rf,(h2 _ (iX gm.O.1 nE.O.lt)).T lq.O.rk,zy,h3 _ _ (iX gm.O.1 nE.O.lt) lq.O.lV⟩;have HF4:Hid (aQ V4 (zp B') c' (ps++[pc])):=ag (fQ (λ j hj=>h2 j hj) gm.O.2 (mr _ rfl cP) vi.O.1 (λ G o e=>by cases e;have:=gm.O.1;have:=ek.O;omega));have O3:=dO (aj nE.O.lt gm.O.1) h1;clear h1 h2 h3 n0 n1 n2 lq vi gm;refine nP hK ?_;clear hK K;refine dP ?_;rotate_left
  all_goals
   have u0:=af Aj.O.hu 0;have u1:=af Aj.O.hu 1;simp only[cW]at u0 u1;go_simp
   go_wp2_with fail
   clear u0 u1;obtain⟨f0,f1,f2,f3,f4⟩:=dF Aj.O.f;have m0:=(af O3.O.2 0).T rfl;have m1:=(af O3.O.2 1).T rfl;have m2:=(af O3.O.2 2).T rfl;have m3:=(af O3.O.2 3).T rfl;have m4:=(af O3.O.2 4).T rfl;have m5:=(af O3.O.2 5).T rfl;have m6:=(af O3.O.2 6).T rfl;have m7:=(af O3.O.2 7).T rfl;simp only[cW]at m0 m1 m2 m3 m4 m5 m6 m7;refine bP 4 ?_;refine tP [0,1] ?_
   iterate 2 refine tO ?_
   refine au 2 rfl ?_;refine sP 2 [0] λ K hK=>?_;refine pN 31 (fA (zp B') (L+1) c') Aj.O.rf ?_;intro V5 h1 h2 h3;have ts:Hid (aQ V5 (zp B') c' (ps++[pc])):=ag (fQ (λ j hj=>h2 j hj) Aj.O.rf (mr _ rfl cP) (show aQ V4.drew _ _ _ from HF4.O.below (ah _ V4).drew) (λ G o e=>by cases e;have:=vJ.O.2.2;omega));have H5':=oT h1 ((h2 _ an).T Aj.O.rk) (h3 w w an Aj.O.lV.drew) ((h2 A (cm O3.O.1)).T O3.O.2);clear h1 h2 h3 m0 m1 m2 m3 m4 m5 m6 m7 f0 f1 f2 f3 f4;have tw:= λ i=>af H5'.O.2.2.2 i;have m0:=(tw 0).T rfl;have m1:=(tw 1).T rfl;have m2:=(tw 2).T rfl;have m3:=(tw 3).T rfl;have m4:=(tw 4).T rfl;have m5:=(tw 5).T rfl;have m6:=(tw 6).T rfl;have m7:=(tw 7).T rfl;clear tw;refine nP hK ?_;clear hK K;refine sP 3 [0,1,2] λ K hK=>?_;refine pN 144 (jl ka kl kc nb rd) H5'.O.2.1 ?_;intro V6 h1 h2 h3;have HF6:Hid (aQ V6 (zp B') c' (ps++[pc])):=ag (fQ (λ j hj=>h2 j hj) H5'.O.2.1 (mr _ rfl cP) ts.O (λ G o e=>by cases e;have:=vJ.O.2.2;omega));have H6':=eS h1 ((h2 _ an).T H5'.O.1) (h3 w w an H5'.O.2.2.1);clear h1 h2 h3;refine nP hK ?_;clear hK K;refine dP ?_;go_simp
   go_wp2_with fail
   exact bodyPost_ret (v:=.tuple (Ii (.agg (fA (zp B') (L+1) c')) (.agg (jl ka kl kc nb rd)))) (KH _ _ (w+1+1+1) (w+1+1+1+1) (fA (zp B') (L+1) c') (jl ka kl kc nb rd) _ _ rfl rfl rfl (aF H6'.O.2.1) (aF H6'.O.1) Tryz.underlying31 rfl bU Tryz.underlying144 rfl bU) bp ⟨B',c',pc,kc,rfl,HF6.O,vJ.O.2.1,HKY.O.below H6'.O.2.2,by have:=vJ.O.2.2;omega,HFP.O,H6'.O.2.2⟩
def Lf(all:List Nat)(h:Nat)(DC:Bool)(x:a8)(s:List KV):Prop:=Rt all ⟨x,h⟩ s/\(DC=true->fV all ⟨x,h⟩ s)
theorem Lf.more{all:List Nat}{h:Nat}{DC:Bool}{x:a8}{s:List KV}(hw:Lf all h DC x s)(m:List Nat):Lf (all++m) h DC x s:=by obtain⟨⟨n,h1,h2,h3⟩,h4⟩:=hw;exact⟨⟨n,h1.more m,h2,h3⟩, λ e=>(h4 e).more m⟩
theorem aaI(all:List Nat){sub:List aH}(h1:1<=sub.length)(h6:sub.length<=6)(hs:ee (sub.map fF))(hr:cR ((sub.map fF).map Prod.fst))(h3:DC=true->3<=sub.length)(hb:∀x∈dc sub,x<256)(hk:(Nd.leaf sub).keys[0]? =some key)(ka:az)(kc:Nat):
 Lf (all++ed all.length (ft (dc sub))) 0 DC ⟨ka,key,kc,db all.length,(Nd.leaf sub).red⟩ (sub.map fF):=by
 have h:=Nl all h1 h6 hs hr hb;exact⟨⟨_,h,rfl,hk⟩, λ e=>⟨_,h,rfl,hk,by have:=h3 e;simpa[Nd.Ax,Nd.n1,Nd.n2]using this⟩⟩
theorem XK{sub:List a8}(h2:2<=sub.length)(h6:sub.length<=6)(hS:cq (wQ all h) sub its)(hs:ee its)(hr:cR (its.map Prod.fst))(hl:its.length<=1000)(ha:all.length<=524288)(h3:DC=true->3<=sub.length)(hb:∀x∈cz sub,x<256)(hk:(Nd.inner sub).keys[0]? =some key)(ka:az)(kc:Nat):
 Lf (all++ed all.length (ft (cz sub))) (h+1) DC ⟨ka,key,kc,db all.length,(Nd.inner sub).red⟩ its:=by
 have h:=Ju h2 h6 hS hs hr hl ha hb;exact⟨⟨_,h,rfl,hk⟩, λ e=>⟨_,h,rfl,hk,by have:=h3 e;simpa[Nd.Ax,Nd.n1,Nd.n2]using this⟩⟩
theorem aaJ(hS:cq (Lf all h true) xs its):cq (wQ all h) xs its:=cq.mono (λ _ _ _ hw=>hw.2 rfl) hS
theorem RT(hS:cq (Lf all h DC) xs its)(m:List Nat):cq (Lf (all++m) h DC) xs its:=cq.mono (λ _ _ _ hw=>hw.more m) hS
theorem RU{a s:List KV}(hS:cq (Lf all h DC) xs a)(hx:Lf all h DC x s):cq (Lf all h DC) (xs++[x]) (a++s):=cq.app.2 ⟨a,s,hS,cq.one.2 hx,rfl⟩
theorem abZ(hS:cq (Lf all h DC) [x] its)(hr:cR (its.map Prod.fst))(hl:its.length<=200):fx all x.at_ h x.count its:=by
 have h1:=(cq.one.1 hS).1;rcases(Ia.kept h1.top).fin cP hr hl with⟨h2,_⟩|⟨r,h2,h3⟩
 ·cases h2
 ·cases h2;exact h3
structure uS(w V:World)(b:az)(c:Nat)(ps:List Piece)(kc:Array Value):Prop where
 f:V.heap[w.heap.size]? =some (.cells (fA b ps.length c) 31)
 hu:V.heap[w.heap.size+1]? =some (.cells Q2 107)
 rf:V.heap[w.heap.size+1+1]? =some (.cells kF 31)
 rt:V.heap[w.heap.size+1+1+1]? =some (.cells vp 35)
 k:V.heap[w.heap.size+1+1+1+1]? =some (.cells kc 144)
 no:∀(j x:Nat),kc[j]? ≠some (.int .u8 (x:Int))
 lt:w.heap.size+5<=V.heap.size
 lV:Below w w V
 file:aQ V b c ps
 marks:Marks (aw ps)
 vj:oP b c
 uQ:∀G o,b=some ⟨G,o,none⟩->G<w.heap.size\/w.heap.size+5<=G
theorem uS.below{w V V':World}{b:az}{c:Nat}{ps:List Piece}{kc:Array Value}(h:uS w V b c ps kc)(hb:Below V V V'):uS w V' b c ps kc:=by have hl:=h.lt;exact⟨(hb.block _ an).T h.f,(hb.block _ an).T h.hu,(hb.block _ an).T h.rf,(hb.block _ an).T h.rt,(hb.block _ an).T h.k,h.no,aj h.lt hb.size,h.lV.T (hb.mono h.lV.size),h.file.below hb,h.marks,h.vj,h.uQ⟩
theorem tW(cs:List Value)(h:∀v∈cs,∀x:Nat,v≠.int .u8 (x:Int))(j x:Nat):cs.toArray[j]? ≠some (.int .u8 (x:Int)):= λ e=>by exact nT
theorem uS.acw{b b':az}{c':Nat}{eQ:List Piece}(h:uS w V b c ps kc)(hF:aQ V b' c' eQ)(hm:Marks (aw eQ))(ke:oP b' c')(haw:∀G o,b'=some ⟨G,o,none⟩->w.heap.size+5<=G)
 (h1:V'.heap[w.heap.size]? =some (.cells (fA b' eQ.length c') 31))(h2:∀j,j≠w.heap.size->V'.heap[j]? =V.heap[j]?)(h3:Below w w V'):uS w V' b' c' eQ kc:=
 ⟨h1,(h2 _ an).T h.hu,(h2 _ an).T h.rf,(h2 _ an).T h.rt,(h2 _ an).T h.k,h.no,by have:=(cS ((h2 (w+1+1+1+1) an).T h.k)).1;omega,h3,fQ (λ j hj=>h2 j hj) h.f (tW _ cP) hF (λ G o e=>cm (haw G o e)),hm,ke, λ G o e=>.inr (haw G o e)⟩
theorem uS.afP{b:az}{RV:Array Value}(h:uS w V b c ps kc)(mr:∀(j x:Nat),RV[j]? ≠some (.int .u8 (x:Int)))
 (h1:V'.heap[w.heap.size+1+1+1+1]? =some (.cells RV 144))(h2:∀j,j≠w.heap.size+1+1+1+1->V'.heap[j]? =V.heap[j]?)(h3:Below w w V'):uS w V' b c ps RV:=
 ⟨(h2 _ an).T h.f,(h2 _ an).T h.hu,(h2 _ an).T h.rf,(h2 _ an).T h.rt,h1,mr,by have:=(cS h1).1;omega,h3,fQ (λ j hj=>h2 j hj) h.k h.no h.file (λ G o e=>cm (h.uQ G o e)),h.marks,h.vj,h.uQ⟩
theorem a8.fO(x:a8):x.cells.length=8:=rfl
theorem a8.pq(x:a8):∀u∈x.cells,u.oneCell'=true:=by simp[a8.cells,Value.oneCell']
theorem Ou:(Tryz.prog.info? 144).map (λ i=>(i.zero,i.size,i.bytes))=some (some (.agg qq),8,80):=bU
theorem XL{b:az}{eE:Nat}{q:az}{K:Nat}{kids:List a8}(x:a8)(h:uS w V b c ps kc)(hr:V.ownsRow eE 144 8 (.slice q K k) K (kids.flatMap a8.cells))(hn:w.heap.size+5<=eE)(pD:eE<=V.heap.size)(hK:K=kids.length)(hl:K<=1000)(ha:∀g,q=some ⟨g,0,none⟩->fE g b ps):
 ∃g' k' V',(Builtin.append_ #[142,142] 142 (fP q K k (zp V) 1 1)).run Tryz.prog (V.alloc (.cells x.cells.toArray 144))= .ok (.slice (zp g') (K+1) k') V'/\uS w V' b c ps kc/\V'.ownsRow eE 144 8 (.slice (zp g') (K+1) k') (K+1) ((kids++[x]).flatMap a8.cells)/\fE g' b ps/\V.heap.size<=V'.heap.size/\(∀j,j<V.heap.size->(Value.slice q K k).ownBlock≠some j->V'.heap[j]? =V.heap[j]?):=by
 obtain⟨g',k',V',eh,It,hg⟩:=gR (P:=Tryz.prog) 142 144 (.agg qq) 8 80 bU Ou rfl de x.cells x.fO x.pq hr an an pD;have sc:=hg.below;have FI:=h.lt;have hk:= λ j (hj:j<w.heap.size+5)=>sc.block j an;have Om:aQ V' b c ps:=by
  rcases bg hr with⟨h1,_⟩|⟨g2,cur,h1,h2,h3⟩
  ·have qy:Below V V V':=⟨sc.os,sc.tape,sc.output,sc.size, λ j hj=>hg.eG j hj (by rw[h1];simp[Value.ownBlock])⟩;exact h.file.below qy
  ·refine dZ (g:=g2) (λ j hj dN=>hg.eG j hj ?_) h.file (ha g2 h1);rw[h1];simp[Value.ownBlock];omega
 refine⟨g',k',V',eh,⟨(hk _ an).T h.f,(hk _ an).T h.hu,(hk _ an).T h.rf,(hk _ an).T h.rt,(hk _ an).T h.k,h.no,aj h.lt sc.size,h.lV.T (sc.mono an),Om,h.marks,h.vj,h.uQ⟩,by rw[bV];simpa using It,?_,sc.size, λ j hj dN=>hg.eG j hj dN⟩;rcases hg.at_ with h1|⟨g2,h1,h2⟩
 ·rcases bg hr with⟨h3,_⟩|⟨g2,cur,h3,_,_⟩
  ·rw[h3]at h1;simp[Value.ownBlock]at h1
  ·rw[h3]at h1;have:g'=g2:=by simpa[Value.ownBlock]using h1
   rw[this];exact ha g2 h3
 ·have:g'=g2:=by simpa[Value.ownBlock]using h1
  rw[this];exact fE.new h.file h2
theorem pE{n₀ e sz:Nat}{a:az}{xs:List Value}(h:V.ownsRow n₀ e sz (.slice a k c) k xs)(hk:∀g,a=some ⟨g,0,none⟩->n₀<=g->g<V.heap.size->V'.heap[g]? =V.heap[g]?):V'.ownsRow n₀ e sz (.slice a k c) k xs:=
 iF h λ g hg=>by
  rcases bg h with⟨h1,_⟩|⟨g2,cur,h1,hb,h3⟩
  ·rw[hg]at h1;cases h1
  ·rw[hg]at h1;cases h1;exact hk g hg hb (cS h3).1
end
end Go.Proofs.YtbiififbfefkjaaGreatDoor

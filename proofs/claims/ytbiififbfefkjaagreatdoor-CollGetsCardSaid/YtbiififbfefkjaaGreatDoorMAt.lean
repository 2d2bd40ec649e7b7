/- The store, part 20. -/
import Derived.Test.YtbiififbfefkjaaGreatDoorMAk
import Derived.Test.YtbiififbfefkjaaGreatDoorMAo
set_option linter.unusedSimpArgs false
set_option linter.unusedVariables false
set_option maxRecDepth 100000
set_option maxHeartbeats 16000000
namespace Go.Proofs.YtbiififbfefkjaaGreatDoor
open Go.RowKit Go.Shelf
variable{n₀ k c cc B o j cf a1 d1 c1 a2 d2 c2 q n M D:Nat}{w W W':World}{v0:Value}{bs ys:List Nat}{xs:List aH}{t0:TypeId}{ps:List Piece}{pre es:List bX}
section
attribute [local go_sem] Oper.semAt_some
attribute [-go_sem] Builtin.append_
theorem fw.u8{n₀:Nat}{w:World}{v0:Value}{W:World}{a:az}{k c:Nat}{bs:List Nat}(h:fw n₀ w v0 W a k c bs)(x:Nat)(X:Int)(hX:X=(x:Int))(hk:k<100000)(hn:n₀<=w.heap.size):
 ∃g' c' w',(Builtin.append_ #[28,28] 28 (fP a k c (zp W) 1 1)).run Tryz.prog (W.alloc (.cells #[.int .u8 X] 5))= .ok (.slice (zp g') (k+1) c') w'/\fw n₀ w v0 w' (zp g') (k+1) c' (bs++[x]):=by
 obtain⟨g',c',w',h1,h2,h3⟩:=gP x X hX h.row hk (aj hn h.pW.below.size);exact⟨g',c',w',h1,h2,h.pW.T h3⟩
theorem fw.bytes{a:az}{m:Nat}(h:fw n₀ w v0 W a k c bs)(hs:ay W (some ⟨B,o,none⟩) ys)(hm:ys.length=m)(h1:1<=m)(hk:k+m<1000000)(hn:n₀<=w.heap.size):
 ∃g' c' w',(Builtin.append_ #[28,28] 28 (fP a k c (some ⟨B,o,none⟩) m cc)).run Tryz.prog W= .ok (.slice (zp g') (k+m) c') w'/\fw n₀ w v0 w' (zp g') (k+m) c' (bs++ys):=by
 obtain⟨g',c',w',e1,e2,e3⟩:=fg (cc:=cc) h.row hs hm h1 hk (aj hn h.pW.below.size);exact⟨g',c',w',e1,e2,h.pW.T e3⟩
theorem fw.drew{n₀:Nat}{w:World}{v0:Value}{W:World}{a:az}{k c:Nat}{bs:List Nat}(h:fw n₀ w v0 W a k c bs)(hn:n₀<=w.heap.size):fw n₀ w v0 W.drew a k c bs:=h.below hn (ah _ W).drew
theorem fw.count{w1:World}{a:az}{N:Nat}(h:fw n₀ w v0 W a k c bs)(hs:ay w1 (some ⟨B,o,none⟩) ys)(hb:Below n₀ w1 w)(bY:w1.heap.size=n₀)(hN:N=ys.length)(h1:1<=N)(h2:N<=255)(hk:k<50000)(hn:n₀<=w.heap.size):
 ∃g2 c2 w2 g3 c3 w3,(Builtin.append_ #[28,28] 28 (fP a k c (zp W) 1 1)).run Tryz.prog (W.alloc (.cells (zk N) 5)).drew= .ok (.slice (zp g2) (k+1) c2) w2/\
  (Builtin.append_ #[28,28] 28 (fP (zp g2) (k+1) c2 (some ⟨B,o,none⟩) N cc)).run Tryz.prog w2= .ok (.slice (zp g3) (k+1+N) c3) w3/\
  fw n₀ w v0 w2 (zp g2) (k+1) c2 (bs++[N])/\fw n₀ w v0 w3 (zp g3) (k+1+N) c3 (bs++N::ys):=by
 obtain⟨g2,c2,w2,e1,e2⟩:=(h.drew hn).u8 N (N:Int) rfl an hn;subst bY;obtain⟨g3,c3,w3,f1,f2⟩:=e2.bytes (cc:=cc) (hs.below (hb.T e2.pW.below)) hN.symm h1 an hn;exact⟨g2,c2,w2,g3,c3,w3,e1,f1,e2,by simpa using f2⟩
def ql(xs:List aH)(j:Nat):List Nat:=1::xs.length::(xs.take j).flatMap kB
theorem Qe{x:aH}(h:xs[j]? =some x):ql xs (j+1)=ql xs j++(x.key.length::x.key++x.val.length::x.val++[0]++fK 8 0):=by unfold ql;rw[yu kB xs j x h];simp[kB,tj,fK]
theorem TT(xs:List aH)(h:∀x∈xs,x.key.length<=120/\x.val.length<=100)(j:Nat)(hj:j<=xs.length):(ql xs j).length<=2+240*j:=by
 unfold ql;have:=nR kB 240 (xs.take j) λ x hx=>by have:=h x (aP hx);rw[AO];omega
 rw[aX]at this;simp only[aK];have:min j xs.length=j:=eL hj;omega
theorem K6{a:az}(c:Nat)(h:ec w a xs)(ho:nO xs)(yI:∀x∈xs,1<=x.val.length):
 Calls Tryz.prog 98 (BX (.agg (pF a xs.length c))) w λ e w'=>∃B k,e= .returned (.slice (zp B) (dc xs).length k)/\ay w' (zp B) (dc xs)/\Below w w w':=by
 obtain⟨n,hn⟩:=bL xs.length;have hn6:(n:Int)<=6:=cm ho.mE;obtain⟨w1,bY⟩:=bL (w.alloc (.cells (pF a n c) 147));have cN:Below w w w1:=by rw[bY];go_grown
 have eb:w1.heap[w.heap.size]? =some (.cells (pF a n c) 147):=qK bY;have j5:w1.heap.size=w.heap.size+1:=by rw[bY];simp
 obtain⟨w2,fH⟩:=bL (w1.alloc (.cells #[.int .u8 1,.int .u8 (n:Int)] 5));have bG:Below w1 w1 w2:=by rw[fH];go_grown
 have oO:w2.ownsRow w1 5 1 (.slice (zp w1) 2 2) 2 (bE (ql xs 0)):=by refine⟨by simp[bE,ql],.inr ⟨w1.heap.size,2,_,rfl,cH,by rw[fH];exact ai _ _,cH,by simp[maxLen],rfl,by simp[bE,ql,hn]⟩⟩
 have HX:Hid (∀V:World,Below w1 w1 V->V.cell? (za w 1)=some (.slice a n c)/\ec V a xs):=ag λ V hV=>⟨(af ((hV.block _ an).T eb) 1).T rfl,(h.below cN).below hV⟩;have H0:=oT oO bG j5 cN;have qj:=ag bY;have DV:=ag fH;have HI:=oT (h.below cN) ho yI hn;have HZ:=ag (λ W=>show Calls Tryz.prog 135 #[.int .u64 0,.int .i64 8] W λ e w'=>∃B c,e= .returned (.slice (zp B) 8 c)/\ay w' (zp B) (fK 8 0)/\Below W W w' from CQ 0 8 de de de W);rw[<-hn];clear h ho yI cN eb j5 bY bG oO fH hn;go_enter Tryz.func98,Tryz.ntmps98
 go_wp2_with fail
 rw[<-qj.O,<-DV.O]
 go_loopw [3,4] (λ rv iv wr=>∃j:Nat,j<=n/\iv= .int .i64 (j:Int)/\∃q L k,rv= .slice q L k/\Hid (L=(ql xs j).length/\wr.ownsRow w1 5 1 (.slice q L k) L (bE (ql xs j)))/\Hid (Below w1 w1 wr)) (λ _ iv _=>n - (intOf iv).toNat)
 case atStart=>exact⟨0,aD _,rfl,_,_,_,rfl,ag ⟨rfl,by have:=H0.O.1;rwa [H0.O.2.2.1]at this⊢⟩,ag H0.O.2.1⟩
 case round=>
  obtain⟨j,hj,rfl,q,L,k,rfl,bA,hB⟩:=hrel;have y1:=(HX.O wr hB.O).1;by_cases cL:j<n
  ·have mn:(j:Int)<(n:Int):=an;obtain⟨x,hx⟩:∃x,xs[j]? =some x:=⟨_,aB (cm HI.O.2.2.2)⟩;have BW:=ak hx;obtain⟨B,o,rfl,hc⟩:∃B o,a=some ⟨B,o,none⟩/\_:=by
    rcases(HX.O wr hB.O).2.1 with h0|⟨B,o,e,hc⟩
    ·rw[h0]at hx;cases hx
    ·exact⟨B,o,e,hc j x hx⟩
   obtain⟨c0,c1,c2,c3⟩:=hc;have gN:=HI.O.2.1.key x BW;have Eg:=HI.O.2.2.1 x BW;obtain⟨LP,JJ⟩:=HI.O.1.2 x BW;obtain⟨B1,o1,Ah⟩:∃B1 o1,x.ka=some ⟨B1,o1,none⟩:=by
    rcases LP.2 with h0|⟨B1,o1,e,_⟩
    ·rw[h0]at gN;simp at gN
    ·exact⟨B1,o1,e⟩
   obtain⟨B2,o2,yS⟩:∃B2 o2,x.va=some ⟨B2,o2,none⟩:=by
    rcases JJ.2 with h0|⟨B1,o1,e,_⟩
    ·rw[h0]at Eg;simp at Eg
    ·exact⟨B1,o1,e⟩
   rw[Ah]at c0 LP;rw[yS]at c1 JJ;have AN:=Qe hx;have hlen:=TT xs (λ y hy=>⟨(HI.O.2.1.key y hy).2.1,(HI.O.2.1.key y hy).2.2⟩) j (cm HI.O.2.2.2);obtain⟨N1,TU⟩:=bL x.key.length;obtain⟨N2,hN2⟩:=bL x.val.length;have hLl:L<=2000:=Ig bA.O.1 HI.O.2.1.mE HI.O.2.2.2;obtain⟨P,hP⟩:=bL wr.heap.size;obtain⟨W0,MA⟩:=bL (wr.alloc (.cells (il (some ⟨B1,o1,none⟩) N1 x.kc (some ⟨B2,o2,none⟩) N2 x.vc) 101));have qy:Below wr wr W0:=by rw[MA];go_grown
   have hzW:W0.heap.size=P+1:=by rw[MA,hP];simp
   have hPb:W0.heap[P]? =some (.cells (il (some ⟨B1,o1,none⟩) N1 x.kc (some ⟨B2,o2,none⟩) N2 x.vc) 101):=by rw[MA,hP];exact ai _ _
   have JA:Below w1 w1 W0:=hB.O.T (qy.mono hB.O.size);have Dc:w1.heap.size<=W0.heap.size:=JA.size;have L0:fw w1 W0 (.slice q L k) W0 q L k (ql xs j):=⟨dC.row qy bA.O.2,dC.refl _ _ _⟩;have dN:(Value.slice q L k).ownBlock≠some P:=mY bA.O.2 P (by rw[hP];exact cH);obtain⟨g2,k2,w2,g3,k3,w3,Ck,we,L2,L3⟩:=L0.count (cc:=x.kc) LP JA rfl TU an an an Dc;obtain⟨g4,k4,w4,g5,k5,w5,lu,DT,L4,L5⟩:=L3.count (cc:=x.vc) JJ JA rfl hN2 an an an Dc;obtain⟨g6,k6,w6,tI,L6⟩:=(L5.drew Dc).u8 0 0 rfl an Dc;have aiL:(Builtin.append_ #[28,28] 28 (fP (zp g5) (L+1+N1+1+N2) k5 (zp w5) 1 1)).run Tryz.prog (w5.alloc (.cells #[.int .u8 0] 5)).drew= .ok (.slice (zp g6) (L+1+N1+1+N2+1) k6) w6:=tI;have fh:∀(i:Nat) (v:Value),((il (some ⟨B1,o1,none⟩) N1 x.kc (some ⟨B2,o2,none⟩) N2 x.vc):Array Value)[i]? =some v->W0.cell? ⟨P,i,none⟩=some v:= λ i v e=>by rw[af hPb];exact e
   have Eo:∀(V:World) (o:Obj) (p:Addr) (v:Value),V.cell? p=some v->(V.alloc o).cell? p=some v:= λ V o p v e=>carry ((ah _ V).alloc (cH) o) e;have a0:=fh 0 _ rfl;have a0':=Eo W0 (.cells (zk N1) 5) _ _ a0;have b0:=L2.cell a0 dN;have d1:=L3.cell (fh 1 _ rfl) dN;have d1':=Eo w3 (.cells (zk N2) 5) _ _ d1;have e1:=L4.cell (fh 1 _ rfl) dN;have f2:=L5.cell (fh 2 _ rfl) dN;have f3:=L5.cell (fh 3 _ rfl) dN;have f3':=Eo w5 (.cells #[.int .u8 0] 5) _ _ f3;have i3:=L6.cell (fh 3 _ rfl) dN;have HL6:=ag L6;have Gc:=ag Dc;have LC:Hid (L+1+N1+1+N2+1<=3000):=ag an;have ahN:(N1:Int)<=120:=an;have ajn:(N2:Int)<=100:=an;have wr1:IntKind.u8.wrap (N1:Int)=(N1:Int):=by rw[jK];omega
   have wr2:IntKind.u8.wrap (N2:Int)=(N2:Int):=by rw[jK];omega
   have HE:Hid (L+1+N1+1+N2+1+8=(ql xs (j+1)).length/\ql xs (j+1)=ql xs j++N1::x.key++N2::x.val++[0]++fK 8 0/\Below w1 w1 W0):=ag ⟨by rw[AN,bA.O.1,TU,hN2];simp[ie];omega,by rw[AN,TU,hN2];simp,JA⟩;have Mv:=dO MA hP;rw[<-TU]at c0;rw[<-hN2]at c1;clear gN Eg LP JJ Ah yS AN hlen TU hN2 hLl MA hP hzW qy hPb JA Dc L0 dN L2 L3 L4 L5 L6 tI fh Eo hx BW cL
   go_wp2_with fail
   rw[<-Mv.O.1,<-Mv.O.2];refine bP 11 ?_;refine tP [0,1,2,3,4,7,8] ?_
   iterate 7 refine tO ?_
   refine au 4 rfl ?_;refine sP 5 [1,2,3,4] λ K hK=>?_;go_simp;refine nP hK ?_;clear hK K;refine sP 6 [0,1,2,3,4,5] λ K hK=>?_;go_simp;refine nP hK ?_;clear hK K;refine sP 9 [0,1,2,3,4,5,6,7,8] λ K hK=>?_;go_simp;refine nP hK ?_;clear hK K;refine tP [10] ?_;refine tO ?_;refine au 0 rfl ?_;refine dP ?_;go_simp
   go_wp2_with fail
   refine bP 11 ?_;refine tP [0,1,2,3,4,7,8] ?_
   iterate 7 refine tO ?_
   refine au 4 rfl ?_;refine sP 5 [1,2,3,4] λ K hK=>?_;go_simp;refine nP hK ?_;clear hK K;refine sP 6 [0,1,2,3,4,5] λ K hK=>?_;go_simp;refine nP hK ?_;clear hK K;refine sP 9 [0,1,2,3,4,5,6,7,8] λ K hK=>?_;go_simp;refine nP hK ?_;clear hK K;refine tP [10] ?_;refine tO ?_;refine au 0 rfl ?_;refine dP ?_;go_simp
   go_wp2_with fail
   refine bP 10 ?_;refine tP [0,1,4,5,6] ?_
   iterate 5 refine tO ?_
   refine au 5 rfl ?_;refine sP 2 [1] λ K hK=>?_;go_simp;refine nP hK ?_;clear hK K;refine sP 3 [0,1,2] λ K hK=>?_;go_simp;refine nP hK ?_;clear hK K;refine sP 7 [0,1,2,3,4,5,6] λ K hK=>?_;go_simp;refine(HZ.O _).mono ?_;rintro e w7 ⟨B7,k7,rfl,Ka,hv7⟩;obtain⟨g8,c8,w8,acg,L8⟩:=(HL6.O.below (W':=w7) Gc.O hv7).bytes (cc:=k7) Ka (ie _ _) de (cm LC.O) Gc.O;have HL8:=ag L8;clear Ka hv7 L8;refine nP hK ?_;clear hK K;refine sP 8 [0,1,2,3,4,5,6,7] λ K hK=>?_;go_simp;refine nP hK ?_;clear hK K;refine tP [9] ?_;refine tO ?_;refine au 0 rfl ?_;refine dP ?_;go_simp
   go_wp2_with fail
   exact⟨⟨j+1,an,by simp,_,_,_,rfl,ag ⟨HE.O.1,by rw[HE.O.2.1];exact HL8.O.row⟩,ag (HE.O.2.2.T HL8.O.pW.below)⟩,by simp[intOf];omega⟩
  ·obtain rfl:j=n:=an;have vW:¬ (j:Int)<(j:Int):=an;have he:ql xs j=dc xs:=by unfold ql dc;rw[HI.O.2.2.2,bd]
   rw[he]at bA;have HE:=dO bA.O.1 bA.O.2;clear bA he cL
   go_wp2_with fail
   go_ret;rcases bg HE.O.2 with⟨_,h0,_⟩|⟨g,cur,hg,_⟩
   ·have:=HE.O.1;rw[h0]at this;simp[dc]at this
   ·subst hg;refine⟨g,⟨k,by rw[<-HE.O.1];rfl⟩,(dk HE.O.2 λ y hy=>?_).1,H0.O.2.2.2.T (hB.O.mono H0.O.2.2.2.size)⟩;unfold dc at hy;simp only[aO,ck]at hy;rcases hy with h1|h1|⟨x,hx,hy⟩
    ·omega
    ·have:=HI.O.2.1.mE;omega
    ·exact Eu x (HI.O.2.1.key x hx).2.1 (HI.O.2.1.key x hx).2.2 (HI.O.1.2 x hx).1.1 (HI.O.1.2 x hx).2.1 y hy
def qm(xs:List a8)(j:Nat):List Nat:=2::xs.length::(xs.take j).flatMap kL
theorem Qf{xs:List a8}{x:a8}(h:xs[j]? =some x):qm xs (j+1)=qm xs j++x.key.length::x.key++fK 4 x.at_++fK 4 x.count++fK 4 0++fK 8 0++fK 8 0++fK 8 0++fK 8 0:=by unfold qm;rw[yu kL xs j x h];simp[kL,tj]
theorem TV(xs:List a8)(h:∀x∈xs,x.key.length<=120)(j:Nat)(hj:j<=xs.length):(qm xs j).length<=2+240*j:=by
 unfold qm;have:=nR kL 240 (xs.take j) λ x hx=>by have:=h x (aP hx);rw[AP];omega
 rw[aX]at this;simp only[aK];have:min j xs.length=j:=eL hj;omega
theorem Qg(n:Nat)(hn:n<18446744073709551616)(W:World):Calls Tryz.prog 135 #[.int .u64 (n:Int),.int .i64 4] W λ e w'=>∃B c,e= .returned (.slice (zp B) 4 c)/\ay w' (zp B) (fK 4 n)/\Below W W w':=CQ n 4 de de hn W
theorem IQ{a:az}{xs:List a8}(c:Nat)(h:kJ w a xs)(ho:gM xs):
 Calls Tryz.prog 98 (BX (.agg (pU a xs.length c))) w λ e w'=>∃B k,e= .returned (.slice (zp B) (cz xs).length k)/\ay w' (zp B) (cz xs)/\Below w w w':=by
 obtain⟨n,hn⟩:=bL xs.length;have hn6:(n:Int)<=6:=cm ho.mE;obtain⟨w1,bY⟩:=bL (w.alloc (.cells (pU a n c) 147));have cN:Below w w w1:=by rw[bY];go_grown
 have eb:w1.heap[w.heap.size]? =some (.cells (pU a n c) 147):=qK bY;have j5:w1.heap.size=w.heap.size+1:=by rw[bY];simp
 obtain⟨w2,fH⟩:=bL (w1.alloc (.cells #[.int .u8 2,.int .u8 (n:Int)] 5));have bG:Below w1 w1 w2:=by rw[fH];go_grown
 have oO:w2.ownsRow w1 5 1 (.slice (zp w1) 2 2) 2 (bE (qm xs 0)):=by refine⟨by simp[bE,qm],.inr ⟨w1.heap.size,2,_,rfl,cH,by rw[fH];exact ai _ _,cH,by simp[maxLen],rfl,by simp[bE,qm,hn]⟩⟩
 have HX:Hid (∀V:World,Below w1 w1 V->V.cell? (za w 2)=some (.slice a n c)/\kJ V a xs):=ag λ V hV=>⟨(af ((hV.block _ an).T eb) 2).T rfl,(h.below cN).below hV⟩;have H0:=oT oO bG j5 cN;have qj:=ag bY;have DV:=ag fH;have HI:=eS (h.below cN) ho hn;have HZ8:=ag (λ W=>show Calls Tryz.prog 135 #[.int .u64 0,.int .i64 8] W λ e w'=>∃B c,e= .returned (.slice (zp B) 8 c)/\ay w' (zp B) (fK 8 0)/\Below W W w' from CQ 0 8 de de de W);have S6:=ag (λ W=>show Calls Tryz.prog 135 #[.int .u64 0,.int .i64 4] W λ e w'=>∃B c,e= .returned (.slice (zp B) 4 c)/\ay w' (zp B) (fK 4 0)/\Below W W w' from Qg 0 de W);rw[<-hn];clear h ho cN eb j5 bY bG oO fH hn;go_enter Tryz.func98,Tryz.ntmps98
 go_wp2_with fail
 rw[<-qj.O,<-DV.O]
 go_loopw [7,8] (λ rv iv wr=>∃j:Nat,j<=n/\iv= .int .i64 (j:Int)/\∃q L k,rv= .slice q L k/\Hid (L=(qm xs j).length/\wr.ownsRow w1 5 1 (.slice q L k) L (bE (qm xs j)))/\Hid (Below w1 w1 wr)) (λ _ iv _=>n - (intOf iv).toNat)
 case atStart=>exact⟨0,aD _,rfl,_,_,_,rfl,ag ⟨rfl,by have:=H0.O.1;rwa [H0.O.2.2.1]at this⊢⟩,ag H0.O.2.1⟩
 case round=>
  obtain⟨j,hj,rfl,q,L,k,rfl,bA,hB⟩:=hrel;have y1:=(HX.O wr hB.O).1;by_cases cL:j<n
  ·have mn:(j:Int)<(n:Int):=an;obtain⟨x,hx⟩:∃x,xs[j]? =some x:=⟨_,aB (cm HI.O.2.2)⟩;have BW:=ak hx;obtain⟨B,o,rfl,hc⟩:∃B o,a=some ⟨B,o,none⟩/\_:=by
    rcases(HX.O wr hB.O).2.1 with h0|⟨B,o,e,hc⟩
    ·rw[h0]at hx;cases hx
    ·exact⟨B,o,e,hc j x hx⟩
   have c0:=hc 0 _ rfl;have c1:=hc 1 _ rfl;have c2:=hc 2 _ rfl;have c3:=hc 3 _ rfl;have c4:=hc 4 _ rfl;have c5:=hc 5 _ rfl;have c6:=hc 6 _ rfl;have c7:=hc 7 _ rfl;rw[bb]at c0;have gN:=HI.O.2.1.key x BW;have LP:=HI.O.1.2 x BW;obtain⟨B1,o1,Ah⟩:∃B1 o1,x.ka=some ⟨B1,o1,none⟩:=by
    rcases LP.2 with h0|⟨B1,o1,e,_⟩
    ·rw[h0]at gN;simp at gN
    ·exact⟨B1,o1,e⟩
   rw[Ah]at c0 LP;have AN:=Qf hx;have hlen:=TV xs (λ y hy=>(HI.O.2.1.key y hy).2.1) j (cm HI.O.2.2);obtain⟨N1,TU⟩:=bL x.key.length;have hLl:L<=2000:=Ig bA.O.1 HI.O.2.1.mE HI.O.2.2;obtain⟨P,hP⟩:=bL wr.heap.size;obtain⟨W0,MA⟩:=bL (wr.alloc (.cells (jl (some ⟨B1,o1,none⟩) N1 x.kc x.at_ x.count) 144));have qy:Below wr wr W0:=by rw[MA];go_grown
   have hPb:W0.heap[P]? =some (.cells (jl (some ⟨B1,o1,none⟩) N1 x.kc x.at_ x.count) 144):=by rw[MA,hP];exact ai _ _
   have JA:Below w1 w1 W0:=hB.O.T (qy.mono hB.O.size);have Dc:w1.heap.size<=W0.heap.size:=JA.size;have L0:fw w1 W0 (.slice q L k) W0 q L k (qm xs j):=⟨dC.row qy bA.O.2,dC.refl _ _ _⟩;have dN:(Value.slice q L k).ownBlock≠some P:=mY bA.O.2 P (by rw[hP];exact cH);obtain⟨g2,k2,w2,g3,k3,w3,Ck,we,L2,L3⟩:=L0.count (cc:=x.kc) LP JA rfl TU an an an Dc;have fh:∀(i:Nat) (v:Value),((jl (some ⟨B1,o1,none⟩) N1 x.kc x.at_ x.count):Array Value)[i]? =some v->W0.cell? ⟨P,i,none⟩=some v:= λ i v e=>by rw[af hPb];exact e
   have Oc:Hid (∀(V:World) (a:az) (k' c':Nat) (bs:List Nat),fw w1 W0 (.slice q L k) V a k' c' bs->V.cell? (za P 1)=some (.int .i64 (x.at_:Int))/\V.cell? (za P 2)=some (.int .i64 (x.count:Int))/\V.cell? (za P 3)=some (.int .i64 0)/\V.cell? (za P 4)=some (.int .i64 0)/\V.cell? (za P 5)=some (.int .u64 0)/\V.cell? (za P 6)=some (.int .i64 0)/\V.cell? (za P 7)=some (.int .i64 0)):=ag λ V a k' c' bs hL=>⟨hL.cell (fh 1 _ rfl) dN,hL.cell (fh 2 _ rfl) dN,hL.cell (fh 3 _ rfl) dN,hL.cell (fh 4 _ rfl) dN,hL.cell (fh 5 _ rfl) dN,hL.cell (fh 6 _ rfl) dN,hL.cell (fh 7 _ rfl) dN⟩;have a0:=fh 0 _ rfl;have a0':(W0.alloc (.cells (zk N1) 5)).cell? (za P 0)=_:=carry ((ah _ W0).alloc (cH) _) a0;have b0:=L2.cell a0 dN;obtain⟨q1,q2,q3,q4,q5,q6,q7⟩:=Oc.O _ _ _ _ _ L3;have HC:=ag L3;have Gc:=ag Dc;have LC:Hid (L+1+N1<=3000):=ag an;have ahN:(N1:Int)<=120:=an;have wr1:IntKind.u8.wrap (N1:Int)=(N1:Int):=by rw[jK];omega
   have mU:(x.at_:Int)<524288:=an;have hct:(x.count:Int)<=100000:=an;have Hj:=ag (λ W=>Qg x.at_ an W);have HCT:=ag (λ W=>Qg x.count an W);have HE:Hid (L+1+N1+4+4+4+8+8+8+8=(qm xs (j+1)).length/\qm xs (j+1)=qm xs j++N1::x.key++fK 4 x.at_++fK 4 x.count++fK 4 0++fK 8 0++fK 8 0++fK 8 0++fK 8 0/\Below w1 w1 W0):=ag ⟨by rw[AN,bA.O.1,TU];simp[ie];omega,by rw[AN,TU],JA⟩;have Mv:=dO MA hP;rw[<-TU]at c0;clear gN LP Ah AN hlen TU hLl MA hP qy hPb JA Dc L0 dN L2 L3 fh hx BW cL hc
   go_wp2_with fail
   rw[<-Mv.O.1,<-Mv.O.2];refine bP 11 ?_;refine tP [0,1,2,3,4,7,8] ?_
   iterate 7 refine tO ?_
   refine au 4 rfl ?_;refine sP 5 [1,2,3,4] λ K hK=>?_;go_simp;refine nP hK ?_;clear hK K;refine sP 6 [0,1,2,3,4,5] λ K hK=>?_;go_simp;refine nP hK ?_;clear hK K;refine sP 9 [0,1,2,3,4,5,6,7,8] λ K hK=>?_;go_simp;refine nP hK ?_;clear hK K;refine tP [10] ?_;refine tO ?_;refine au 0 rfl ?_;refine dP ?_;go_simp
   go_wp2_with first
   |((with_reducible refine(Hj.O _).mono ?_);rintro e V ⟨Bv,kv,rfl,hs,hv⟩;obtain⟨gv,cv,Vv,adF,Lv⟩:=(HC.O.below (W':=V) Gc.O hv).bytes (cc:=kv) hs (ie _ _) de (cm LC.O) Gc.O;clear HC q1 q2 q3 q4 q5 q6 q7;obtain⟨q1,q2,q3,q4,q5,q6,q7⟩:=Oc.O _ _ _ _ _ Lv;have HC:=ag Lv;clear hs hv Lv)
   |((with_reducible refine(HCT.O _).mono ?_);rintro e V ⟨Bv,kv,rfl,hs,hv⟩;obtain⟨gv,cv,Vv,adF,Lv⟩:=(HC.O.below (W':=V) Gc.O hv).bytes (cc:=kv) hs (ie _ _) de (cm LC.O) Gc.O;clear HC q1 q2 q3 q4 q5 q6 q7;obtain⟨q1,q2,q3,q4,q5,q6,q7⟩:=Oc.O _ _ _ _ _ Lv;have HC:=ag Lv;clear hs hv Lv)
   |((with_reducible refine(S6.O _).mono ?_);rintro e V ⟨Bv,kv,rfl,hs,hv⟩;obtain⟨gv,cv,Vv,adF,Lv⟩:=(HC.O.below (W':=V) Gc.O hv).bytes (cc:=kv) hs (ie _ _) de (cm LC.O) Gc.O;clear HC q1 q2 q3 q4 q5 q6 q7;obtain⟨q1,q2,q3,q4,q5,q6,q7⟩:=Oc.O _ _ _ _ _ Lv;have HC:=ag Lv;clear hs hv Lv)
   |((with_reducible refine(HZ8.O _).mono ?_);rintro e V ⟨Bv,kv,rfl,hs,hv⟩;obtain⟨gv,cv,Vv,adF,Lv⟩:=(HC.O.below (W':=V) Gc.O hv).bytes (cc:=kv) hs (ie _ _) de (cm LC.O) Gc.O;clear HC q1 q2 q3 q4 q5 q6 q7;obtain⟨q1,q2,q3,q4,q5,q6,q7⟩:=Oc.O _ _ _ _ _ Lv;have HC:=ag Lv;clear hs hv Lv)
   |fail
   exact⟨⟨j+1,an,by simp,_,_,_,rfl,ag ⟨HE.O.1,by rw[HE.O.2.1];exact HC.O.row⟩,ag (HE.O.2.2.T HC.O.pW.below)⟩,by simp[intOf];omega⟩
  ·obtain rfl:j=n:=an;have vW:¬ (j:Int)<(j:Int):=an;have he:qm xs j=cz xs:=by unfold qm cz;rw[HI.O.2.2,bd]
   rw[he]at bA;have HE:=dO bA.O.1 bA.O.2;clear bA he cL
   go_wp2_with fail
   go_ret;rcases bg HE.O.2 with⟨_,h0,_⟩|⟨g,cur,hg,_⟩
   ·have:=HE.O.1;rw[h0]at this;simp[cz]at this
   ·subst hg;refine⟨g,⟨k,by rw[<-HE.O.1];rfl⟩,(dk HE.O.2 λ y hy=>?_).1,H0.O.2.2.2.T (hB.O.mono H0.O.2.2.2.size)⟩;unfold cz at hy;simp only[aO,ck]at hy;rcases hy with h1|h1|⟨x,hx,hy⟩
    ·omega
    ·have:=HI.O.2.1.mE;omega
    ·exact Ev x (HI.O.2.1.key x hx).2.1 (HI.O.1.2 x hx).1 y hy
structure pT(n₀ B:Nat)(W W':World):Prop where
 below:Below n₀ W W'
 eG:∀(k:Nat) (cs:Array Value) (t:TypeId) (fz:Nat×Nat),W.heap[k]? =some (.cells cs t fz)->k≠B->W'.heap[k]? =some (.cells cs t fz)
 box:∀v t,W.heap[B]? =some (.cells #[v] t)->(∀x:Nat,v≠.int .u8 (x:Int))->∃u,W'.heap[B]? =some (.cells #[u] t)/\∀x:Nat,u≠.int .u8 (x:Int)
theorem pT.refl(n₀ B:Nat)(W:World):pT n₀ B W W:=⟨gb, λ _ _ _ _ h _=>h, λ v _ h h8=>⟨v,h,h8⟩⟩
theorem pT.T{n₀ B:Nat}{U V W:World}(h:pT n₀ B U V)(k:pT n₀ B V W):pT n₀ B U W:=
 ⟨h.below.T k.below, λ j cs t fz hj hB=>k.eG j cs t fz (h.eG j cs t fz hj hB) hB, λ v t hn h8=>by obtain⟨m,hm,h9⟩:=h.box v t hn h8;exact k.box m t hm h9⟩
theorem pT.bH(h:Below W W W')(hn:n₀<=W.heap.size):pT n₀ B W W':=
 ⟨h.mono hn, λ k cs t fz hk _=>(h.block k (cS hk).1).T hk, λ v _ hk h8=>⟨v,(h.block B (cS hk).1).T hk,h8⟩⟩
theorem pT.putObj{n₀ B:Nat}(W:World)(l:Nat)(o o':Obj)(h:W.heap[l]? =some o)(ho:o.isCells=false)(hn:n₀<=l):pT n₀ B W (W.putObj l o'):=by
 have key:∀(k:Nat) (cs:Array Value) (t:TypeId) (fz:Nat×Nat),W.heap[k]? =some (.cells cs t fz)->(W.putObj l o').heap[k]? =some (.cells cs t fz):= λ k cs t fz hk=>
  (aV λ e=>by subst e;rw[hk]at h;cases h;cases ho).T hk
 exact⟨(ah n₀ W).grown (grownBy_putObj' W l o') ui (λ k e=>by cases e;omega), λ k cs t fz hk _=>key _ _ _ _ hk, λ v _ hk h8=>⟨v,key _ _ _ _ hk,h8⟩⟩
theorem pT.cell(h:pT n₀ B W W')(hb:W.heap[B]? =some (.cells #[v0] t0)){p:Addr}{v:Value}(hc:W.cell? p=some v)(hv:v≠v0):W'.cell? p=some v:=by
 obtain⟨o,ho,hoc⟩:=cells_of_cell hc;cases o<;>simp[Obj.isCells]at hoc;rename_i cs t fz;by_cases hk:p.block=B
 ·exfalso;rw[hk,hb]at ho;cases ho;obtain⟨pb,po,pn⟩:=p;simp only at hk;subst hk;have h0:=hc;simp only[World.cell?,hb]at h0;rcases pn with _|pn
  ·rcases po with _|po
   ·simp at h0;exact hv h0.symm
   ·simp at h0
  ·simp at h0
 ·exact(bq (w:=W) ((h.eG _ _ _ _ ho hk).T ho.symm)).T hc
theorem ay.afZ(h:pT n₀ B W W')(hb:W.heap[B]? =some (.cells #[v0] t0))(h8:∀x:Nat,v0≠.int .u8 (x:Int)){a:az}{xs:List Nat}(hx:ay W a xs):ay W' a xs:=by
 refine⟨hx.1,?_⟩;rcases hx.2 with h0|⟨C,o,ha,hc⟩
 ·exact .inl h0
 ·exact .inr ⟨C,o,ha, λ j x hj=>h.cell hb (hc j x hj) (λ e=>h8 x e.symm)⟩
theorem OC(items:List KV):vg (-1) (rz Eb items)=items:=by
 have h:∀kv∈items,Eb.holds kv.1=true:= λ kv _=>by
  unfold qI.holds qI.ends Eb;have:0<=cmpL kv.1 []:=by cases kv.1<;>simp[cmpL]
  simp[this]
 unfold vg rz;rw[if_pos de,List.filter_eq_self.2 h]
theorem OD{w0:World}{b:az}(hF:aQ w0 b cf ps)(hm:Marks (aw ps)){ds:List bX}(ht:fx (aw ps) a1 d1 c1 (ds.map tf))(kD:∀x∈ds,pR (aw ps) q x)(hlen:ds.length<=1000)(B B0 Bp:Nat)(w:World)(yJ:Below w0 w0 w)(hS:jV w B0 b ps.length cf a1 d1 c1 a2 d2 c2 q)(hp:w.heap[Bp]? =some (.cells (iS (zp B0)) 75))(hB0:B0≠B)(hBp:Bp≠B)(hB:w.heap[B]? =some (.cells #[v0] t0))(hB8:∀x:Nat,v0≠.int .u8 (x:Int)):
 SI Tryz.prog 52 (iS (zp Bp)) (λ x=>#[X4 x,.bool true]) (pT w0 B) (λ _=>False) (λ _=>True) ds w:=by
 intro n l J Jx W hn qy hJ hJx hY h0;have MA:Below w0 w0 W:=yJ.T (qy.mono yJ.size);have hn0:w0.heap.size<=W.heap.size:=MA.size;have hSW:=hS.below qy;have hpW:=(qy.block Bp (cS hp).1).T hp;have JA:=(qy.block B (cS hB).1).T hB;have QD:=ag (Af (w:=W.drew) (l:=Eb) ((hF.below MA).below (ah _ W).drew) hm ht ⟨ay.nil _ _,ay.nil _ _⟩ (-1) (.inl rfl) (by simpa using hlen));rw[OC]at QD;have HR:Hid (∀(V:World) (x:bX),Below w0 w0 V->jV V B0 b ps.length cf a1 d1 c1 a2 d2 c2 q->x∈ds->∀(C o:Nat) (ka:az) (kc vc:Nat),ay V ka x.id->ay V (some ⟨C,o,none⟩) x.enc->21<=vc->∀m,CallsIn Fence.wide m Tryz.prog 53 (BY (zp B0) (.agg (il ka x.id.length kc (some ⟨C,o,none⟩) 21 vc))) V λ e w'=>e= .returned (.tuple (zo (.agg (DM (cE x.id) x.g x.m x.s x.del x.at_ (kindOf x.del) (fN x.del x.n)))))/\Below V V w'):=ag λ V x hV hs hx C o ka kc vc hk hv IP m=>by have hd:=kD x hx;exact callsIn_wide.2 (JG hs (hF.below hV) hm hk (by have:=(xu hd.id).2;omega) hd.id hd.info hv IP hd.body)
 have rB:=ag hSW;have HPP:=ag hpW;have HBB:=ag JA;have HN0:=ag hn0;have Mv:=ag MA;have vd:=dO hB0 hBp;have HJ:=ag hJ;have HY:=ag hY;have H0:=ag h0;have M9:=ag hlen;have g0:=dx hpW;have hF0:W.cell? (za B0 0)=some (.slice none 0 0)/\W.cell? (za B0 1)=some (.slice b ps.length cf)/\W.cell? (za B0 2)=some (.int .i64 (-1))/\W.cell? (za B0 3)=some (.int .i64 (-1))/\W.cell? (za B0 4)=some (.bool false)/\W.cell? (za B0 5)=some (.int .i64 (a1:Int))/\W.cell? (za B0 6)=some (.int .i64 (d1:Int))/\W.cell? (za B0 7)=some (.int .i64 (c1:Int))/\W.cell? (za B0 8)=some (.int .i64 0)/\W.cell? (za B0 9)=some (.int .i64 0)/\W.cell? (za B0 10)=some (.int .u64 0)/\W.cell? (za B0 11)=some (.int .i64 0)/\W.cell? (za B0 12)=some (.int .i64 0):=by have h:=hSW;exact xD
 obtain⟨f0,f1,f2,f3,f4,f5,f6,f7,f8,f9,f10,f11,f12⟩:=hF0;unfold bN ij qI.v Eb at QD;simp only[bK]at QD;have HB8:=ag hB8;clear hF hm ht kD hlen yJ hS hp hB0 hBp hB hB8 qy hJ hJx hY h0 MA hn0 hSW hpW JA;refine callsIn_of_wp Tryz.func52 rfl trivial ?_ rfl;simp only[Tryz.ntmps52,UD,Nat.reduceAdd,Nat.reduceSub]
 gi_wp2_with fail
 refine wpIn_wide.2 ?_;refine bP 16 ?_;refine tP [0,1,2,3,4,5,6,7,8,9] ?_
 iterate 10 refine tO ?_
 refine au 6 rfl ?_;refine sP 10 [0,1,2,3,4,5,6,7,8,9] λ K hK=>?_;go_simp;(with_reducible refine QD.O.mono ?_);rintro e w3 ⟨ys,a,k,rfl,yO,bA,cu⟩;have ek:Hid (Below W W w3):=ag (((ah _ W).drew).T cu);have Hh:=ag yO;have PX:=ag bA;clear cu yO bA;refine nP hK ?_;clear hK K;refine tP [11,12,13,14,15] ?_
 iterate 5 refine tO ?_
 refine au 0 rfl ?_;refine dP ?_;go_simp;clear f0 f1 f2 f3 f4 f5 f6 f7 f8 f9 f10 f11 f12 g0;have AU:ys.length=ds.length:=by have:=congrArg List.length Hh.O;simpa using this
 have HYL:=ag AU;obtain⟨L,hL⟩:=bL ys.length;have HL:=ag hL;rw[<-hL];have rY:(L:Int)<=1000:=cm M9.O;have HJ3:Hid (J [] w3):=ag (HJ.O _ _ _ H0.O (iB.bH ek.O));have adL:Hid (w3.heap[B]? =some (.cells #[v0] t0)):=ag ((ek.O.block _ (cS HBB.O).1).T HBB.O);clear AU hL H0
 gi_wp2_with fail
 gi_loopw [28] (λ iv wr=>∃(i:Nat),iv= .int .i64 (i:Int)/\i<=L/\Hid (J (ds.take i) wr/\pT w0 B w3 wr)) (λ iv _=>L - (intOf iv).toNat)
 case atStart=>exact⟨0,rfl,aD _,ag ⟨HJ3.O,pT.refl _ _ _⟩⟩
 case round=>
  obtain⟨i,rfl,hiL,hJL⟩:=hrel;by_cases Ha:i<L
  ·obtain⟨y,hy⟩:∃y,ys[i]? =some y:=⟨_,aB (cm HL.O)⟩;obtain⟨x,hx⟩:∃x,ds[i]? =some x:=⟨_,aB (iX HL.O HYL.O)⟩;have QE:fF y=tf x:=by
    have h1:=congrArg (λ l=>l[i]?) Hh.O;simp only[aW,hy,hx,eM,dz]at h1;exact h1
   have e1:y.key=x.id:=congrArg Prod.fst QE;have e2:y.val=x.enc:=congrArg Prod.snd QE;have AV:y∈ys:=ak hy;have BW:x∈ds:=ak hx;have BQ:=PX.O.2 y AV;have oN:ay w3 y.ka x.id:=by rw[<-e1];exact BQ.1.1
   have ED:ay w3 y.va x.enc:=by rw[<-e2];exact BQ.1.2
   have hvl:y.val.length=21:=by rw[e2,BG]
   have IP:y.vc=21:=by rw[BQ.2,hvl]
   obtain⟨C,o,yS⟩:∃C o,y.va=some ⟨C,o,none⟩:=by
    rcases ED.2 with h0|⟨C,o,h0,_⟩
    ·have:=BG x;rw[h0]at this;cases this
    ·exact⟨C,o,h0⟩
   obtain⟨R,oo,rfl,Av⟩:∃R oo,a=some ⟨R,oo,none⟩/\(w3.cell? ⟨R,oo+i*4,none⟩=some (.slice y.ka y.key.length y.kc)/\w3.cell? ⟨R,oo+i*4+1,none⟩=some (.slice y.va y.val.length y.vc)/\w3.cell? ⟨R,oo+i*4+2,none⟩=some (.bool false)/\w3.cell? ⟨R,oo+i*4+3,none⟩=some (.int .i64 0)):=by
    rcases PX.O.at.1 with h0|⟨R,oo,e,hc⟩
    ·rw[h0]at AV;cases AV
    ·exact⟨R,oo,e,hc i y hy⟩
   have hRB:R≠B:= λ e=>by have h1:=Av.2.1;rw[e]at h1;simp[World.cell?,adL.O]at h1
   have hcw:∀(p:Addr) (v:Value),p.block=R->w3.cell? p=some v->wr.cell? p=some v:= λ p v hp hc=>by obtain⟨ob,ho1,IF⟩:=cells_of_cell hc;cases ob<;>simp[Obj.isCells]at IF;exact(bq (w:=w3) ((hJL.O.2.eG _ _ _ _ ho1 (by rw[hp];exact hRB)).T ho1.symm)).T hc
   rw[e1,hvl,IP,yS]at Av;rw[yS]at ED;obtain⟨kc,tw⟩:=bL y.kc;obtain⟨ka,Ah⟩:=bL y.ka;rw[<-tw,<-Ah]at Av;rw[<-Ah]at oN;have hrg:wr.rangeAt R (oo+i*4) (il ka x.id.length kc (some ⟨C,o,none⟩) 21 21):= λ j v hv=>by
    rcases j with _|_|_|_|j
    ·cases hv;exact hcw _ _ rfl Av.1
    ·cases hv;exact hcw _ _ rfl Av.2.1
    ·cases hv;exact hcw _ _ rfl Av.2.2.1
    ·cases hv;exact hcw _ _ rfl Av.2.2.2
    ·simp at hv
   obtain⟨wx,X9⟩:=bL (wr.alloc (.cells (il ka x.id.length kc (some ⟨C,o,none⟩) 21 21) 101));have mM:Below wr wr wx:=by rw[X9];go_grown
   have QF:wx.heap[wr.heap.size]? =some (.cells (il ka x.id.length kc (some ⟨C,o,none⟩) 21 21) 101):=qK X9;have adH:=aF QF;have hp3:=(hJL.O.2.eG Bp _ _ _ ((ek.O.block _ (cS HPP.O).1).T HPP.O) vd.O.2);have g0:=dx ((mM.block _ (cS hp3).1).T hp3);have mK:jV wr B0 b ps.length cf a1 d1 c1 a2 d2 c2 q:=hJL.O.2.eG B0 _ _ _ (rB.O.below ek.O) vd.O.1;have acy:Below w0 w0 wr:=Mv.O.T ((ek.O.mono HN0.O).T hJL.O.2.below);have hRD:=ag (HR.O wx x (acy.T (mM.mono acy.size)) (mK.below mM) BW C o ka kc 21 ((oN.afZ hJL.O.2 adL.O HB8.O).below mM) ((ED.afZ hJL.O.2 adL.O HB8.O).below mM) (cH));rw[X9]at adH g0;have HWX:=ag X9;have vb:=dO mM acy.size;have Nj:ds.take i++[x]=ds.take (i+1):=by rw[aL,hx];rfl
   have ah3:(i:Int)<(L:Int):=an;have HTK:=ag Nj;clear hy hx QE e1 e2 AV BW BQ oN ED hvl IP yS hRB hcw Av tw Ah X9 mM QF hp3 mK acy Nj
   gi_wp2_with first
    |(refine BH rfl 101 _ rfl _ _ rfl _ _ byA Tryz.underlying101 rfl bU ?_)
    |(refine BI 101 rfl _ _ rfl _ _ _ rfl cP rfl bp bU bz ?_)
    |((refine⟨True.intro, λ _=>an,?_⟩);rw[<-HWX.O];(with_reducible refine(hRD.O _).mono ?_);rintro e w5 ⟨rfl,dV⟩;have hj5:=HJ.O _ _ _ (HJ.O _ _ _ hJL.O.1 (iB.bH vb.O.1)) (iB.bH dV);obtain⟨f1,t1,aa1,b1,tt,YZ⟩:=HY.O (ds.take i) x w5 hj5 EY;have jE:=ag dV;clear dV hj5)
    |fail
   refine⟨λ _=>an,YZ.mono ?_⟩;have HL5:=ag (hJL.O.2.T ((pT.bH (B:=B) vb.O.1 vb.O.2).T (pT.bH jE.O (aj vb.O.2 vb.O.1.size))));rintro e w6 (⟨rfl,zP,hk6⟩|⟨rfl,uW,hk6⟩)
   ·gi_wp2_with fail
    go_roundw
    case rel=>exact⟨i+1,by simp,an,ag ⟨by rw[<-HTK.O];exact zP,HL5.O.T hk6⟩⟩
    case measure=>simp[intOf];omega
   ·gi_wp2_with fail
    refine bodyPost_ret (results_none rfl _ _ _) rfl ?_;exact⟨⟨_,rfl⟩,.inr ⟨_,EY,uW⟩,trivial⟩
  ·obtain rfl:i=L:=an;have HE:Hid (J ds wr):=ag (by have:=hJL.O.1;rwa [aY (iX HL.O HYL.O)]at this);gi_wp2;go_end0;exact⟨⟨_,rfl⟩,.inl HE.O,trivial⟩
theorem zi(B0:Nat)(w:World):Calls Tryz.prog 26 (iS (zp B0)) w λ e w'=>
 e= .returned (.func (.func 52) #[] (iS (zp w)))/\w'=w.alloc (.cells (iS (zp B0)) 75):=by
 go_enter Tryz.func26,Tryz.ntmps26
 go_wp2_with fail
 go_ret;exact⟨rfl,rfl⟩
abbrev CU(a1 d1 c1 a2 d2 c2 q:Nat):Array Value:=(pG a1 d1 c1 a2 d2 c2 q)
def j7(a1 d1 c1 a2 d2 c2 q:Nat):Value:=.agg (CU a1 d1 c1 a2 d2 c2 q)
def kvM(x:bX):Value×Value:=(.int .u64 (x.s:Int),.string (cE x.id))
structure zj(w:World)(n M:Nat)(b:az)(k cf a1 d1 c1 a2 d2 c2 q:Nat)(pre:List bX)(W:World):Prop where
 fil:W.heap[n]? =some (.cells (fA b k cf) 31)
 col:W.heap[n+1]? =some (.cells (CU a1 d1 c1 a2 d2 c2 q) 37)
 res:W.heap[n+1+1]? =some (.cells zl 50)
 mpb:W.heap[M+1]? =some (.cells #[.map (some M)] 127)
 mp:sL W M (pre.map kvM)
 nC:W.heap[M+1+1]? =some (.cells (Ih pre.length) 3)
 Ic:Below n w W
theorem zj.kin{b:az}{V:World}(h:zj w n M b k cf a1 d1 c1 a2 d2 c2 q pre W)(hk:iB D (λ _=>False) W V)(hM:M<D)(hn:n<=D)(KC:n<=w.heap.size):zj w n M b k cf a1 d1 c1 a2 d2 c2 q pre V:=by refine⟨hk.eG _ _ h.fil (.inr rfl) id,hk.eG _ _ h.col (.inr rfl) id,hk.eG _ _ h.res (.inr rfl) id,hk.eG _ _ h.mpb (.inr rfl) id,?_,hk.eG _ _ h.nC (.inr rfl) id,ni h.Ic hk hn (λ k h1 h2=>h2) KC⟩;obtain⟨es,c,h1,h2⟩:=h.mp;exact⟨es,c,hk.eG _ _ h1 (.inl hM) id,h2⟩
theorem zj.below{w:World}{n M k cf a1 d1 c1 a2 d2 c2 q:Nat}{b:az}{pre:List bX}{W V:World}(h:zj w n M b k cf a1 d1 c1 a2 d2 c2 q pre W)(hb:Below W W V)(hn:n<=W.heap.size):zj w n M b k cf a1 d1 c1 a2 d2 c2 q pre V:=by have key:∀(j:Nat) (o:Obj),W.heap[j]? =some o->V.heap[j]? =some o:= λ j o e=>(hb.block j (cS e).1).T e;exact⟨key _ _ h.fil,key _ _ h.col,key _ _ h.res,key _ _ h.mpb,h.mp.below hb,key _ _ h.nC,h.Ic.T (hb.mono hn)⟩
theorem Ya{b:az}{x:bX}{o:Obj}(h:zj w n M b k cf a1 d1 c1 a2 d2 c2 q pre W)(ho:o.isCells=false)(hm:sL (W.putObj M o) M (pre.map kvM++[kvM x]))(hM:n+1+1<M)(hD:M+1+1<D):
 KeepsFrom D W ((W.putObj M o).setCell (za (M+1+1) 0) (.int .i64 ((pre.length:Int)+1)))/\pT n (M+1+1) W ((W.putObj M o).setCell (za (M+1+1) 0) (.int .i64 ((pre.length:Int)+1)))/\zj w n M b k cf a1 d1 c1 a2 d2 c2 q (pre++[x]) ((W.putObj M o).setCell (za (M+1+1) 0) (.int .i64 ((pre.length:Int)+1))):=by
 obtain⟨es,c,h1,h2⟩:=h.mp;have cL:M<W.heap.size:=(cS h1).1;have key:∀j,j≠M->j≠M+1+1->((W.putObj M o).setCell (za (M+1+1) 0) (.int .i64 ((pre.length:Int)+1))).heap[j]? =W.heap[j]? := λ j j1 j2=>(aq _ _ _ _ j2).T (aV j1);have hB:((W.putObj M o).setCell (za (M+1+1) 0) (.int .i64 ((pre.length:Int)+1))).heap[M+1+1]? =some (.cells #[.int .i64 ((pre.length:Int)+1)] 3):=aU (j:=0) _ ((aV an).T h.nC);have hnM:∀(j:Nat) (cs:Array Value) (t:TypeId) (fz:Nat×Nat),W.heap[j]? =some (.cells cs t fz)->j≠M:= λ j cs t fz e1 e2=>by subst e2;rw[h1]at e1;cases e1
 have Iw:∀(n':Nat) (U:World),n'<=M->Below n' U W->Below n' U ((W.putObj M o).setCell (za (M+1+1) 0) (.int .i64 ((pre.length:Int)+1))):= λ n' U hn hb=>((hb.grown (grownBy_putObj' W M o) an (λ k e=>by cases e;exact hn)).setCell (p:=(za (M+1+1) 0)) (show n'<=M+1+1 by omega) _);refine⟨⟨by simp[World.setCell], λ j u hj hu hc=>(key j an an).T hu⟩,⟨Iw _ _ an (gb), λ j cs t fz hj hk=>(key j (hnM _ _ _ _ hj) hk).T hj, λ v t hm _=>by rw[h.nC]at hm;cases hm;exact⟨_,hB,by simp⟩⟩,
  ⟨(key _ an an).T h.fil,(key _ an an).T h.col,(key _ an an).T h.res,(key _ an an).T h.mpb,?_,?_,Iw _ _ an h.Ic⟩⟩
 ·rw[aJ];exact hm.same (aq _ _ _ _ (show M≠M+1+1 by omega))
 ·rw[hB];simp
theorem Yb{l:List bX}:∀p∈l.map kvM,MapKept.IsKey (.int .u64) p.1:= λ p hp=>by obtain⟨z,_,rfl⟩:=aM.1 hp;trivial
theorem ab1(s:Nat)(h:s<18446744073709551616):numOf (e8 s)=s:=by rw[K4];exact FC 8 s an
theorem xE{p:Prop}(h:p:=by
 intro l x W K hK;unfold X4 Xv at hK⊢
 gi_wp2_with first
  |(refine BI 77 rfl _ _ rfl _ _ _ rfl cP rfl bp bU bz ?_)
  |fail
 simpa using hK
 ):p:=h
theorem GN{b:az}(hF:aQ w b cf ps)(hm:Marks (aw ps))(hC:gD (aw ps) a1 d1 c1 a2 d2 c2 q es)(hq:q<=1099511627776):
 Calls Tryz.prog 25 #[bN b ps.length cf,j7 a1 d1 c1 a2 d2 c2 q] w λ e w'=>e= .returned (.int .i64 0)/\Below w w w':=by
 obtain⟨n,hn⟩:=bL w.heap.size;obtain⟨ds,Hu,hT1⟩:=hC.adD;have th:ds.length=es.length:=Hu.length_eq;have Um:∀x∈ds,pR (aw ps) q x:= λ x hx=>hC.ok x (Hu.mem_iff.1 hx);have ub:=hC.many;obtain⟨w1,bY⟩:=bL (((w.alloc (.cells (fA b ps.length cf) 31)).alloc (.cells (CU a1 d1 c1 a2 d2 c2 q) 37)).alloc (.cells zl 50));have cN:Below n w w1:=by rw[bY,hn];go_grown
 have eb:=gT (w2:=w1) fq;rw[<-hn]at eb;have gC:w1.heap.size=n+1+1+1:=by rw[bY,hn];simp
 have qa:w1.rangeAt n 0 (fA b ps.length cf):=aF eb.1;have TA:=ag (mA (hF.below (hn▸cN)));have HT:Hid (∀V:World,Below n w V->Calls Tryz.prog 49 #[bN b ps.length cf,ij a1 d1 c1] V λ e w'=>e= .returned (.int .i64 0)/\Below V V w'):=ag λ V hV=>Ae (hF.below (hn▸hV)) hm hT1;have HS:Hid (∀V:World,Below n w V->Calls Tryz.prog 49 #[bN b ps.length cf,ij a2 d2 c2] V λ e w'=>e= .returned (.int .i64 0)/\Below V V w'):=ag λ V hV=>Ae (hF.below (hn▸hV)) hm hC.Xw;have IN:=ag (λ (B B0 Bp:Nat) (V:World) (n0:Int) (hV:Below w w V) (hS:jV V B0 b ps.length cf a1 d1 c1 a2 d2 c2 q) (hp:V.heap[Bp]? =some (.cells (iS (zp B0)) 75)) (h0:B0≠B) (h1:Bp≠B) (hB:V.heap[B]? =some (.cells #[.int .i64 n0] 3))=>OD hF hm hT1 Um (by rw[th];omega) B B0 Bp V hV hS hp h0 h1 hB cP);have QD:=ag (λ (V:World) (hV:Below n w V)=>Af (l:=Eb) (hF.below (hn▸hV)) hm hC.Xw ⟨ay.nil V _,ay.nil V _⟩ (-1) (.inl rfl) zB);rw[OC]at QD;have Yc:=oT Hu th Um ub;have HRI:=dO hC.zM hC.ok;have Rf:decide ((1099511627776:Int)<(q:Int))=false:=dU;have py:¬ ((1099511627776:Int)<(q:Int)):=an;have H1:=eS cN gC eb;have Zp:= @run_makeMap Tryz.prog;unfold bN ij at HT HS;unfold bN at TA;unfold bN j7;rw[hn]at qa;rw[bY]at TA qa;have HN:=ag hn;have qj:=ag bY;clear hF hm hC Hu hT1 th Um ub cN eb gC hq;refine(callsIn_wide (n:=5)).1 ?_;refine callsIn_of_wp_marks Tryz.func25 rfl trivial ?_ rfl;simp only[Tryz.ntmps25,UD,Nat.reduceAdd,Nat.reduceSub];refine wpIn_wide.2 ?_;clear hn bY
 go_wp2_with first
  |(refine dG 31 ?_)
  |(refine dG 37 ?_)
  |((with_reducible refine TA.O.mono ?_);rintro e w2 ⟨rfl,bG⟩;rw[<-qj.O]at bG;obtain⟨w3,gV⟩:=bL (w2.alloc (.cells (stC b ps.length cf a1 d1 c1 a2 d2 c2 q) 84));have cu:Below w1 w1 w3:=by rw[gV];exact bG.alloc bG.size _
    have mK:w3.heap.size=w2.heap.size+1:=by rw[gV];simp
    have ma:jV w3 w2 b ps.length cf a1 d1 c1 a2 d2 c2 q:=qK gV;have Nh:=(bG.block _ ir).T H1.O.2.2.1;have PF:=(bG.block _ ir).T H1.O.2.2.2.1;have MQ:=(cu.block _ ir).T H1.O.2.2.1;have CT:=(cu.block _ ir).T H1.O.2.2.2.1;have nL:=(cu.block _ ir).T H1.O.2.2.2.2;have ru:=aF Nh;have Eh:=aF PF;have HT3:=ag (HT.O w3 (H1.O.1.T (cu.mono (show n<=w1.heap.size by have:=H1.O.2.1;omega))));obtain⟨f0,f1,f2,f3,f4⟩:=dF MQ;have k0:=(af CT 0).T rfl;have k1:=(af CT 1).T rfl;have k2:=(af CT 2).T rfl;have k3:=(af CT 3).T rfl;have k4:=(af CT 4).T rfl;have k5:=(af CT 5).T rfl;have k6:=(af CT 6).T rfl;have k7:=(af CT 7).T rfl;have k8:=(af CT 8).T rfl;have k9:=(af CT 9).T rfl;have Rh:=(af CT 10).T rfl;have k11:=(af CT 11).T rfl;have k12:=(af CT 12).T rfl;have k13:=(af CT 13).T rfl;have k14:=(af CT 14).T rfl;have k15:=(af CT 15).T rfl;have k16:=(af CT 16).T rfl;simp only[cW]at k0 k1 k2 k3 k4 k5 k6 k7 k8 k9 Rh k11 k12 k13 k14 k15 k16;have H3:=Z0 cu mK ma MQ CT nL (H1.O.1.T (cu.mono (show n<=w1.heap.size by have:=H1.O.2.1;omega)));have H2S:=ag (show n+1+1+1<=w2.heap.size by have:=bG.size;have:=H1.O.2.1;omega);rw[HN.O]at ru Eh f0 f1 f2 f3 f4 k0 k1 k2 k3 k4 k5 k6 k7 k8 k9 Rh k11 k12 k13 k14 k15 k16;rw[gV]at HT3 f0 f1 f2 f3 f4 k0 k1 k2 k3 k4 k5 k6 k7 k8 k9 Rh k11 k12 k13 k14 k15 k16;have nE:=ag gV;clear bG gV cu mK ma Nh PF MQ CT nL)
  |((with_reducible refine HT3.O.mono ?_);rintro e w4 ⟨rfl,dX⟩;rw[<-nE.O]at dX;have HS4:=ag (HS.O w4 (H3.O.2.2.2.2.2.2.T (dX.mono (iX H3.O.2.2.2.2.2.2.size HN.O))));clear f0 f1 f2 f3 f4 k0 k1 k2 k3 k4 k5 k6 k7 k8 k9 Rh k11 k12 k13 k14 k15 k16;have MB:=(dX.block _ (cS H3.O.2.2.2.1).1).T H3.O.2.2.2.1;have DR:=(dX.block _ (cS H3.O.2.2.2.2.1).1).T H3.O.2.2.2.2.1;obtain⟨f0,f1,f2,f3,f4⟩:=dF MB;have k8:=(af DR 8).T rfl;have k9:=(af DR 9).T rfl;have Rh:=(af DR 10).T rfl;have k11:=(af DR 11).T rfl;have k12:=(af DR 12).T rfl;have k13:=(af DR 13).T rfl;have k14:=(af DR 14).T rfl;have k15:=(af DR 15).T rfl;simp only[cW]at k8 k9 Rh k11 k12 k13 k14 k15;rw[HN.O]at f0 f1 f2 f3 f4 k8 k9 Rh k11 k12 k13 k14 k15;have H4:=ag dX;clear dX MB DR)
  |((with_reducible refine HS4.O.mono ?_);rintro e w5 ⟨rfl,dV⟩;have H5:=ag (H4.O.T (dV.mono H4.O.size));clear f0 f1 f2 f3 f4 k8 k9 Rh k11 k12 k13 k14 k15 dV)
  |((with_reducible refine(zi _ _).mono ?_);rintro e w6 ⟨rfl,Iv⟩)
  |fail
 rw[<-Iv];have h6:Below w5 w5 w6:=by rw[Iv];go_grown
 have h0:Below n w w5:=H3.O.2.2.2.2.2.2.T (H5.O.mono (iX H3.O.2.2.2.2.2.2.size HN.O));have KC:n<=w5.heap.size:=iX h0.size HN.O;have Zo:n+1+1+1<=w2.heap.size/\w2.heap.size<w5.heap.size:=⟨H2S.O,by have:=H5.O.size;have:=H3.O.2.1;omega⟩;have key:∀(j:Nat) (o:Obj),w3.heap[j]? =some o->w6.heap[j]? =some o:= λ j o e=>by have e1:=(H5.O.block j (cS e).1).T e;exact(h6.block j (cS e1).1).T e1
 have uW:w6.heap[w5.heap.size]? =some (.map #[] 0)/\w6.heap[w5.heap.size+1]? =some (.cells #[.map (some w5.heap.size)] 127)/\w6.heap[w5.heap.size+1+1]? =some (.cells zl 3)/\w6.heap[w5.heap.size+1+1+1]? =some (.cells (iS (zp w2)) 75):=by
  obtain⟨v,hv⟩:=bL (w5.alloc (.map #[] 0));rw[<-hv]at Iv;have hvs:v.heap.size=w5.heap.size+1:=by rw[hv];simp
  have hb:=gT (w2:=w6) (w:=v) (by rw[Iv];exact gb);rw[hvs]at hb;have lP:Below v v w6:=by rw[Iv];go_grown
  exact⟨(lP.block _ an).T (qK hv),hb⟩
 have uV:w6.heap.size=w5.heap.size+1+1+1+1:=by rw[Iv];simp
 have OE:zj w n w5 b ps.length cf a1 d1 c1 a2 d2 c2 q [] w6:=
  ⟨key _ _ H3.O.2.2.2.1,key _ _ H3.O.2.2.2.2.1,key _ _ H3.O.2.2.2.2.2.1,uW.2.1,⟨#[],0,uW.1,rfl⟩,uW.2.2.1,h0.T (h6.mono KC)⟩
 have acz:=ag (IN.O (w5+1+1) w2 (w5+1+1+1) w6 0 (HN.O▸OE.Ic) (key _ _ H3.O.2.2.1) uW.2.2.2 an an uW.2.2.1).g;rw[<-HN.O]at acz;have JW:=ag OE;have HG:=eS Zo uV KC;have abn:ds.Pairwise λ x y=>x.s≠y.s:=by refine(Yc.O.1.pairwise_iff (λ {x y} h=> λ e=>h e.symm)).2 ?_;exact HRI.O.1.imp λ {x y} h e=>an
 have HDI:=ag abn;clear IN Iv h6 h0 key uW OE abn HT HS TA Zp;clear qa ru Eh HT3 HS4;refine(wpIn_wide (n:=5)).1 ?_;refine R9 (n:=5) 9 10 an rfl (enters_of Tryz.func52 bU rfl) acz.O (λ _ _ _ _ _=>trivial) pT.T (λ W l o o' hl h ho=>pT.putObj W l o o' h ho an) (λ _ h=>h.elim)
  (λ pre W=>zj w n w5 b ps.length cf a1 d1 c1 a2 d2 c2 q pre W) (λ _ _ _=>False) ?hI (λ _ _ _ _ h _=>h.elim) (λ _ _ _ _ _ _ _ _=>trivial) JW.O (λ x U=>U.alloc (.cells (DM (cE x.id) x.g x.m x.s x.del x.at_ (kindOf x.del) (fN x.del x.n)) 77)) (λ x U=>(ah _ U).alloc (cH) _) (λ x U h=>pT.bH ((ah _ U).alloc (cH) _) an) ?assign ?body ?done (λ _ _ _ _ _ _ h=>h.elim)
 case hI=>
  intro pre U V h hk;exact h.kin hk an an (by rw[HN.O];exact cH)
 case assign=>
  exact xE
 case body=>
  rintro l pre x U W hU iU OE hpx -;have hxd:x∈ds:=hpx.subset cP;have kD:=Yc.O.2.2.1 x hxd;have hD:=iU U _ (ai U _) rfl;have BP:pre.length<=32:=by have:=hpx.length_le;have:=Yc.O.2.1;have:=Yc.O.2.2.2;simp at*;omega
  have mD:∀z∈pre,z.s≠x.s:=by obtain⟨r,hr⟩:=hpx;have:=HDI.O;rw[<-hr,aS,dp]at this;exact λ z hz=>this.2.2 z hz x cP
  have mr:∀p∈pre.map kvM,p.1≠.int .u64 (x.s:Int):= λ p hp e=>by obtain⟨z,hz,rfl⟩:=aM.1 hp;have:(Value.int .u64 (z.s:Int))= .int .u64 (x.s:Int):=e;injection this with _ h2;exact mD z hz an
  have hlk:=Uk (P:=Tryz.prog) (T:=127) (K:=23) (E:=9) (key:=.int .u64 (x.s:Int)) OE.mp bU (d:=.int .u64) bU rfl Yb (z:=.string ⟨#[]⟩) bU mr true;obtain⟨o,hmu,UE,hoc, -⟩:=aaQ (P:=Tryz.prog) (T:=127) (K:=23) (E:=9) (key:=.int .u64 (x.s:Int)) OE.mp bU (d:=.int .u64) bU rfl Yb (.string (cE x.id)) mr;have ma:=Ya (D:=w5.heap.size+1+1+1+1) (x:=x) OE hoc UE an an;have d0:=(af hD 0).T rfl;have d3:=(af hD 3).T rfl;have q0:=(af OE.col 16).T rfl;simp only[cW]at d0 d3 q0;have m0:=dx OE.mpb;have ZI:(W.putObj w5 o).heap[w5.heap.size+1+1]? =some (.cells (Ih pre.length) 3):=(aV an).T OE.nC;obtain⟨wp,hwp⟩:=bL (W.putObj w5 o);rw[<-hwp]at ma hmu ZI;have n0:=dx ZI;have nf:=ax ZI 0;have hqs:decide ((q:Int)<(x.s:Int))=false:=by have:=kD.le;simp;omega
  have ajA:¬ ((q:Int)<(x.s:Int)):=cm kD.le;have hpi:(pre.length:Int)<=32:=an;have rB:=ag ma;rw[HN.O]at q0;simp only[if_true]at hlk;clear ma ZI hwp UE hoc mr mD BP hD kD hxd hpx OE iU
  gi_wp2_with fail
  exact rB.O
 case done=>
  rintro D s W hD rfl OE - hK;have hTR:=QD.O W OE.Ic;have qH:=aF OE.fil;have hco:W.rangeAt (n+1) 8 (qt a2 d2 c2):=pk (o:=0) (qt a1 d1 c1) (qt a2 d2 c2) [.int .u64 (q:Int)] (aF OE.col);have XQ:s.length=es.length:=Yc.O.2.1;have hem:=Yc.O.2.2.2;obtain⟨L,hL⟩:=bL es.length;rw[<-hL]at XQ hem;have adM:=ag hTR;have acA:=ag OE;have HKW:=ag hK;have LC:=ag hL;have HSL:=dO XQ hem;have G7:decide ((32:Int)<(L:Int))=false:=dU;have zK:¬ ((32:Int)<(L:Int)):=an;have ri:(L:Int)<=32:=an;rw[HN.O]at qH hco;unfold bN ij qI.v Eb at adM;simp only[bK]at adM;have Un:=ag hD;clear hTR OE hK hL XQ hem hD
  go_wp2_with first
   |(refine dG 31 ?_)
   |(refine dG 35 ?_)
   |((with_reducible refine adM.O.mono ?_);rintro e w8 ⟨ys,a,k,rfl,yO,bA,BR⟩;have AU:ys.length=L:=by have:=congrArg List.length yO;rw[aR,aR]at this;rw[this];exact LC.O.symm
     rw[AU];have Y3:=(BR.block _ (cS acA.O.nC).1).T acA.O.nC;rw[HSL.O.1]at Y3;have n8:=dx Y3;have H8:=oT BR yO AU bA;clear BR yO bA AU Y3 qH hco)
   |fail
  have HC8:=ag (acA.O.below H8.O.1 (iX acA.O.Ic.size HN.O));have HK8:Hid (w8.heap[D]? =some (.deferred (some []))):=ag ((H8.O.1.block _ (cS HKW.O).1).T HKW.O);clear n8 G7 zK
  go_loopw [104] (λ iv wr=>∃(i:Nat),iv= .int .i64 (i:Int)/\i<=L/\Hid (Below w8 w8 wr)) (λ iv _=>L - (intOf iv).toNat)
  case atStart=>exact⟨0,rfl,aD _,ag (gb)⟩
  case round=>
   obtain⟨i,rfl,hiL,Uo⟩:=hrel;by_cases Ha:i<L
   ·obtain⟨y,hy⟩:∃y,ys[i]? =some y:=⟨_,aB (cm H8.O.2.2.1)⟩;obtain⟨x,hx⟩:∃x,es[i]? =some x:=⟨_,aB (cm LC.O)⟩;have QE:fF y=oQ x:=by
     have h1:=congrArg (λ l=>l[i]?) H8.O.2.1;simp only[aW,hy,hx,eM,dz]at h1;exact h1
    have e1:y.key=e8 x.s:=congrArg Prod.fst QE;have e2:y.val=x.id:=congrArg Prod.snd QE;have AV:y∈ys:=ak hy;have BW:x∈es:=ak hx;have kD:=HRI.O.2 x BW;have BQ:=H8.O.2.2.2.2 y AV;have YW:ay wr y.ka (e8 x.s):=by rw[<-e1];exact BQ.1.1.below Uo.O|> λ h=>h
    have hv8:ay wr y.va x.id:=by rw[<-e2];exact BQ.1.2.below Uo.O|> λ h=>h
    have Mi:y.key.length=8:=by rw[e1,jh]
    obtain⟨C,o,Ah⟩:∃C o,y.ka=some ⟨C,o,none⟩:=by
     rcases YW.2 with h0|⟨C,o,h0,_⟩
     ·have:=jh x.s;rw[h0]at this;cases this
     ·exact⟨C,o,h0⟩
    obtain⟨R,oo,rfl,Av⟩:∃R oo,a=some ⟨R,oo,none⟩/\(w8.cell? ⟨R,oo+i*4,none⟩=some (.slice y.ka y.key.length y.kc)/\w8.cell? ⟨R,oo+i*4+1,none⟩=some (.slice y.va y.val.length y.vc)/\w8.cell? ⟨R,oo+i*4+2,none⟩=some (.bool false)/\w8.cell? ⟨R,oo+i*4+3,none⟩=some (.int .i64 0)):=by
     rcases H8.O.2.2.2.at.1 with h0|⟨R,oo,e,hc⟩
     ·rw[h0]at AV;cases AV
     ·exact⟨R,oo,e,hc i y hy⟩
    rw[Mi,e2,Ah]at Av;rw[Ah]at YW;obtain⟨kc,tw⟩:=bL y.kc;obtain⟨vc,IP⟩:=bL y.vc;obtain⟨va,yS⟩:=bL y.va;rw[<-tw,<-IP,<-yS]at Av;rw[<-yS]at hv8;have hrg:wr.rangeAt R (oo+i*4) (il (some ⟨C,o,none⟩) 8 kc va x.id.length vc):= λ j v hv=>by
     rcases j with _|_|_|_|j
     ·cases hv;exact carry Uo.O Av.1
     ·cases hv;exact carry Uo.O Av.2.1
     ·cases hv;exact carry Uo.O Av.2.2.1
     ·cases hv;exact carry Uo.O Av.2.2.2
     ·simp at hv
    obtain⟨wx,X9⟩:=bL (wr.alloc (.cells (il (some ⟨C,o,none⟩) 8 kc va x.id.length vc) 101));have mM:Below wr wr wx:=by rw[X9];go_grown
    have QF:wx.heap[wr.heap.size]? =some (.cells (il (some ⟨C,o,none⟩) 8 kc va x.id.length vc) 101):=qK X9;have O6:=oT mM QF (YW.below mM) (hv8.below mM);have HXX:=eS hx BW kD;have ah3:(i:Int)<(L:Int):=an;obtain⟨z0,z1,z2,z3⟩:=CC QF;have HWX:=ag X9;rw[X9]at z0 z1 z2 z3;clear hy hx QE e1 e2 AV BW kD BQ YW hv8 Mi Ah Av tw IP yS X9 mM QF
    go_wp2_with first
     |(refine dG 101 ?_)
     |(refine lU 101 ?_)
     |fail
    go_loopw [17,111] (λ nv kv wq=>∃(k nn:Nat),nv= .int .u64 (nn:Int)/\kv= .int .i64 (k:Int)/\k<=8/\wq=wr.alloc (.cells (il (some ⟨C,o,none⟩) 8 kc va x.id.length vc) 101)/\Hid (nn=numOf ((e8 x.s).take k))) (λ _ kv _=>8 - (intOf kv).toNat)
    case atStart=>exact⟨0,0,rfl,rfl,an,rfl,ag rfl⟩
    case round=>
     obtain⟨k2,nn,rfl,rfl,YW,rfl,Dc⟩:=hrel;by_cases hk:k2<8
     ·obtain⟨v,hv⟩:∃v,(e8 x.s)[k2]? =some v:=⟨_,aB (by rw[jh];exact hk)⟩;have hcv:(wr.alloc (.cells (il (some ⟨C,o,none⟩) 8 kc va x.id.length vc) 101)).cell? (za C (o+k2))=some (.int .u8 (v:Int)):=by
       rw[<-HWX.O];rcases O6.O.2.2.1.2 with h0|⟨C',o',e,hc⟩
       ·have:=jh x.s;rw[h0]at this;cases this
       ·cases e;exact hc k2 v hv
      have Vy:(k2:Int)<8:=an;have HV:=ag hv;clear hv
      go_wp2_with fail
      have hv8:=N9 x.s v (ak HV.O);have adm:nn<72057594037927936:=by rw[Dc.O];exact MX 7 _ (λ y hy=>N9 _ y (aP hy)) dU
      exact⟨⟨k2+1,nn*256+v,by rw[or8 _ _ adm hv8],by simp,an,trivial,ag (by rw[aL,HV.O,fY,FB,<-Dc.O])⟩,by simp[intOf];omega⟩
     ·obtain rfl:k2=8:=an;obtain rfl:nn=x.s:=by rw[Dc.O,aY (by rw[jh];exact cH),ab1 _ HXX.O.2.2.s64]
      have hxw:Below w8 w8 (wr.alloc (.cells (il (some ⟨C,o,none⟩) 8 kc va x.id.length vc) 101)):=by rw[<-HWX.O];exact Uo.O.T (O6.O.1.mono Uo.O.size)
      have hlk:=Ul (P:=Tryz.prog) (T:=127) (K:=23) (E:=9) (key:=.int .u64 (x.s:Int)) (HC8.O.mp.below hxw) bU (d:=.int .u64) bU rfl Yb (v:=.string (cE x.id)) (λ p hp e=>by obtain⟨z,hz,rfl⟩:=aM.1 hp;have:(Value.int .u64 (z.s:Int))= .int .u64 (x.s:Int):=e;injection this with _ h2;have hzx:z=x:=JI (f:=bX.s) (HRI.O.1.imp λ {a b} h e=>an) (Yc.O.1.mem_iff.1 hz) HXX.O.2.1 an;rw[hzx];rfl) ⟨kvM x,aM.2 ⟨x,Yc.O.1.mem_iff.2 HXX.O.2.1,rfl⟩,rfl⟩ true
      simp only[if_true]at hlk;have m0:=dx (HC8.O.below hxw (iX HC8.O.Ic.size HN.O)).mpb;clear hxw
      go_wp2_with fail
      rw[<-HWX.O];clear hlk m0 z0 z1 z2 z3;obtain⟨z0,z1,z2,z3⟩:=CC O6.O.2.1;have cv1:=fu (W:=wx.drew) (k:=8) (c:=kc) (O6.O.2.2.1.below (ah _ wx).drew) (jh x.s);refine RA ?_;refine bP 22 ?_;refine tP [0,1,2,3,4,5,6,7,8,9,10] ?_
      iterate 11 refine tO ?_
      refine au 11 rfl ?_;refine sP 11 [0,1,2,3,4,5,6,10] λ K hK=>?_;go_simp;(with_reducible refine(QG x.s HXX.O.2.2.s64 _).mono ?_);rintro e w9 ⟨a9,rfl,h9,ug⟩;have HB9:Hid (Below wx wx w9):=ag (((ah _ wx).drew).T ug);clear z0 z1 z2 z3 cv1 ug;obtain⟨z0,z1,z2,z3⟩:=CC ((HB9.O.block _ (cS O6.O.2.1).1).T O6.O.2.1);have cv1:=fu (k:=8) (c:=kc) (O6.O.2.2.1.below HB9.O) (jh x.s);have cv2:=fu (W:=w9) (a:=a9) (k:=8) (c:=8) (xs:=e8 x.s) h9 (jh x.s);have cv3:=fu (k:=x.id.length) (c:=vc) (O6.O.2.2.2.below HB9.O) rfl;clear h9;refine nP hK ?_;clear hK K;refine tP [12,13,14,15,16,17,18,19,20,21] ?_
      iterate 10 refine tO ?_
      refine au 0 rfl ?_;refine dP ?_;go_simp
      go_wp2_with fail
      exact⟨⟨i+1,by simp,an,ag (Uo.O.T ((O6.O.1.mono Uo.O.size).T (HB9.O.mono (aj Uo.O.size O6.O.1.size))))⟩,by simp[intOf];omega⟩
   ·obtain rfl:i=L:=an;have Ca:=HC8.O.below Uo.O (iX HC8.O.Ic.size HN.O);have r0:=dx Ca.res;have rf:=ax Ca.res 0;rw[HN.O]at r0 rf;have hdd:=Un.O;have vt:=Ca.res;rw[HN.O]at vt;have hz:((wr.setCell (za (w+1+1) 0) (.int .i64 0)).putObj D (.deferred none)).heap[w.heap.size+1+1]? =some (.cells zl 50):=(aV (oo4 HG.O.1.1 HG.O.1.2 HG.O.2.1 HN.O)).T (aU (j:=0) (.int .i64 0) vt);have LQ:(wr.setCell (za (w+1+1) 0) (.int .i64 0)).heap[D]? =some (.deferred (some [])):=(aq _ _ _ _ (show D≠w.heap.size+1+1 by have:=HG.O.1.1;have:=HG.O.1.2;have:=HG.O.2.1;have:=HN.O;omega)).T ((Uo.O.block D (cS HK8.O).1).T HK8.O);have Ko:Below w w ((wr.setCell (za (w+1+1) 0) (.int .i64 0)).putObj D (.deferred none)):=ld ((HN.O▸Ca.Ic).setCell (p:=(za (w+1+1) 0)) (show w.heap.size<=w.heap.size+1+1 by omega) _) _ LQ (oo4 HG.O.1.1 HG.O.1.2 HG.O.2.1 HN.O);have hzc:=dx hz;have ly:=dO LQ Ko;clear Ca vt hz LQ Ko hdd
    go_wp2_with fail
    refine⟨by simp,.inl ⟨_,_,rfl,run_takeDeferred ly.O.1,?_⟩⟩;exact⟨_,by rw[lC rfl];go_simp,rfl,ly.O.2⟩
structure abq(w:World)(T:Nat)(W:World):Prop where
 box:W.heap[T]? =some (.cells J6 47)
 Ic:Below w w W
theorem Ym{b:az}(hF:aQ w b cf ps)(hm:Marks (aw ps))(hC:gD (aw ps) a1 d1 c1 a2 d2 c2 q es)(hq:q<=1099511627776)(jB:∀x∈es,x.del=true):
 Calls Tryz.prog 15 #[bN b ps.length cf,j7 a1 d1 c1 a2 d2 c2 q] w λ e w'=>e= .returned (.tuple #[.slice none 0 0,.int .i64 0])/\Below w w w':=by
 obtain⟨ds,Hu,hT1⟩:=hC.adD;have th:ds.length=es.length:=Hu.length_eq;have Um:∀x∈ds,pR (aw ps) q x:= λ x hx=>hC.ok x (Hu.mem_iff.1 hx);have ub:=hC.many;obtain⟨w1,bY⟩:=bL ((w.alloc (.cells (fA b ps.length cf) 31)).alloc (.cells (CU a1 d1 c1 a2 d2 c2 q) 37));have cN:Below w w w1:=by rw[bY];go_grown
 have gC:w1.heap.size=w.heap.size+1+1:=by rw[bY];simp
 obtain⟨e0,e1⟩:=bu (w2:=w1) fq;have tg:=aF e0;have qa:=aF e1;have TA:=GN (hF.below cN) hm hC hq;unfold bN j7 at TA;unfold bN j7;rw[bY]at TA tg qa;have TA:=ag TA;have IN:=ag (λ (B B0 Bp:Nat) (V:World) (hV:Below w w V) (hS:jV V B0 b ps.length cf a1 d1 c1 a2 d2 c2 q) (hp:V.heap[Bp]? =some (.cells (iS (zp B0)) 75)) (h0:B0≠B) (h1:Bp≠B) (hB:V.heap[B]? =some (.cells J6 47))=>OD hF hm hT1 Um (by rw[th];omega) B B0 Bp V hV hS hp h0 h1 hB cP);have H1:=oT cN gC e0 e1;have HD:Hid (∀x∈ds,x.del=true):=ag λ x hx=>jB x (Hu.mem_iff.1 hx);have qj:=ag bY;clear hF hm hC Hu hT1 th Um ub cN gC e0 e1 hq jB bY;refine(callsIn_wide (n:=5)).1 ?_;refine callsIn_of_wp_marks Tryz.func15 rfl trivial ?_ rfl;simp only[Tryz.ntmps15,UD,Nat.reduceAdd,Nat.reduceSub];refine wpIn_wide.2 ?_
 go_wp2_with first
  |(refine dG 31 ?_)
  |(refine dG 37 ?_)
  |((with_reducible refine TA.O.mono ?_);rintro e w2 ⟨rfl,bG⟩;rw[<-qj.O]at bG;have ru:=aF ((bG.block _ ir).T H1.O.2.2.1);have Eh:=aF ((bG.block _ ir).T H1.O.2.2.2);have eJ:=ag bG;clear bG tg qa)
  |((with_reducible refine(zi _ _).mono ?_);rintro e w6 ⟨rfl,Iv⟩)
  |fail
 rw[<-Iv];have uW:=gT (w2:=w6) (w:=w2) (by rw[Iv];exact gb);have uV:w6.heap.size=w2.heap.size+1+1+1:=by rw[Iv];simp
 have lP:Below w2 w2 w6:=by rw[Iv];go_grown
 have fH:Below w w w2:=H1.O.1.T (eJ.O.mono H1.O.1.size);have mz:Below w w w6:=fH.T (lP.mono fH.size);have cL:=fH.size;have acz:=ag (IN.O (w2+1) w2 (w2+1+1) w6 mz uW.1 uW.2.2 an an uW.2.1).g;have Yn:Hid (abq w (w2+1) w6):=ag ⟨uW.2.1,mz⟩;have HG:=dO uV cL;clear IN Iv uW uV lP fH mz cL ru Eh;refine(wpIn_wide (n:=5)).1 ?_;refine R9 (n:=5) 9 23 an rfl (enters_of Tryz.func52 bU rfl) acz.O (λ _ _ _ _ _=>trivial) pT.T (λ W l o o' hl h ho=>pT.putObj W l o o' h ho (cm HG.O)) (λ _ h=>h.elim)
  (λ _ W=>abq w (w2+1) W) (λ _ _ _=>False) ?hI (λ _ _ _ _ h _=>h.elim) (λ _ _ _ _ _ _ _ _=>trivial) Yn.O (λ x U=>U.alloc (.cells (DM (cE x.id) x.g x.m x.s x.del x.at_ (kindOf x.del) (fN x.del x.n)) 77)) (λ x U=>(ah _ U).alloc (cH) _) (λ x U h=>pT.bH ((ah _ U).alloc (cH) _) (cm HG.O)) ?assign ?body ?done (λ _ _ _ _ _ _ h=>h.elim)
 case hI=>
  intro pre U V h hk;exact⟨hk.eG _ _ h.box (.inr rfl) id,ni h.Ic hk (cm HG.O) (λ k h1 h2=>h2) (cH)⟩
 case assign=>
  exact xE
 case body=>
  rintro l pre x U W hU iU hI hpx -;have af5:=HD.O x (hpx.subset cP);have hD:=iU U _ (ai U _) rfl;rw[af5]at hD;have d4:=(af hD 4).T rfl;simp only[cW]at d4;have rB:=ag hI;unfold X4 Xv;clear af5 hD hI hpx iU
  gi_wp2_with fail
  exact⟨⟨cH, λ j u hj hu hc=>hu⟩,pT.refl _ _ _,rB.O⟩
 case done=>
  rintro D s W hD rfl hI - hK;have t0:=dx hI.box;have Ko:Below w w (W.putObj D (.deferred none)):=ld hI.Ic _ hK (cm HG.O);have HE:=dO hK Ko;clear hI Ko hK
  go_wp2_with fail
  refine⟨by simp,.inl ⟨_,_,rfl,run_takeDeferred HE.O.1,?_⟩⟩;exact⟨_,bU,rfl,HE.O.2⟩
theorem Lr(n:Int)(w:World):Calls Tryz.prog 13 #[.int .i64 n] w λ e w'=>e= .returned (.agg (gE n))/\Below w w w':=by
 go_enter Tryz.func13,Tryz.ntmps13
 go_wp2_with fail
 refine bodyPost_ret (v:=.agg (gE n)) iq bp ⟨rfl,?_⟩;go_grown
end
end Go.Proofs.YtbiififbfefkjaaGreatDoor

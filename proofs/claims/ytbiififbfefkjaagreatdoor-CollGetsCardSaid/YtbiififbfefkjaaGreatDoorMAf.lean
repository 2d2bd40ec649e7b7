/- The store, part 6. -/
import Derived.Test.YtbiififbfefkjaaGreatDoorMAe
set_option linter.unusedSimpArgs false
set_option linter.unusedVariables false
set_option maxRecDepth 100000
set_option maxHeartbeats 16000000
namespace Go.Proofs.YtbiififbfefkjaaGreatDoor
open Go.RowKit Go.Shelf
variable{W w W' W0 w2 w3 w4:World}{n₀ k c n K B N X j sz eE o Bw cb ln lc:Nat}{xs key:List Nat}{p:Prop}{t e:TypeId}{cs:Array Value}{vs:List Value}{rest:List Oper}{ys:List aH}{v0 v1 v2:Value}{ps:List Piece}{tu told:Bool}{UL:Int}{P:Program}{ops:Array Oper}{op:Oper}{a:Act}{Q:Exit -> Act -> World -> Prop}
section
attribute [-go_sem] Builtin.append_
theorem Tryz.Rl:(Tryz.prog.info? 33).map (λ i=>(i.zero,i.size,i.bytes))=some (some (iP 0),6,48):=bU
def sn(xs:List aH):List Nat:=xs.map λ _=>1
theorem Jj:∀(xs:List aH),(sn xs).sum=xs.length
 |[]=>rfl
 |x::xs=>by have:=Jj xs;simp only[sn,bF,iT,aK]at*;omega
def mc(cs:List Nat):List Value:=cs.flatMap λ c:Nat=>Fz (c:Int)
theorem AS:∀(cs:List Nat) (j c i:Nat) (v:Value),cs[j]? =some c->(Fz (c:Int))[i]? =some v->(mc cs)[j*6+i]? =some v
 |[],_,_,_,_,h,_=>by simp at h
 |d::cs,0,c,i,v,h,hi=>by
  simp only[eW,dz]at h;subst h;have hl:i<6:=by have:=(aC.1 hi).1;simpa[Fz]using this
  simp only[mc,bf,cY,aN];rw[cO (by simpa[Fz]using hl)];exact hi
 |d::cs,j+1,c,i,v,h,hi=>by
  have ih:=AS cs j c i v jy hi;simp only[mc,bf]at ih⊢;rw[bJ (by simp[Fz];omega)];rw[show(j+1)*6+i - (Fz (d:Int)).length=j*6+i by simp[Fz];omega];exact ih
theorem Df{g:Nat}{cs:List Nat}(h:W.ownsRow n₀ 33 6 (.slice (zp g) k c) k (mc cs)):zS W (zp g) cs:=by
 rcases h.2 with⟨h2,_⟩|⟨g',cap,cur,h2,hb,hg,_,_,_,ht⟩
 ·cases h2
 ·cases h2;refine .inr ⟨g,0,rfl, λ j x hj i v hi=>?_⟩;have Kz:=AS cs j x i v hj hi;rw[<-ht,bB]at Kz;split at Kz
  ·simp only[World.cell?,hg,aN];simpa using Kz
  ·cases Kz
theorem Px{a:az}{xs:List aH}(c:Nat)(h:ec w a xs)(ho:nO xs)(b:az)(d:Nat)(x:aH)(hx:xs[0]? =some x):
 Calls Tryz.prog 171 #[.agg #[.bool true,.slice a xs.length c,.slice b 0 d]] w λ e w'=>e= .returned (.tuple (Lz x.ka x.key.length x.kc))/\Below w w w':=by
 have Fv:=ho.MK;have hlen:=ho.mE;have MT:= λ (w2:World) (hb:Below w w w2)=>zN c (h.below hb) ho b d;have hP:= λ (w2:World) (hb:Below w w w2)=>uF c (h.below hb) an b 0 d;have HC:=ag MT;have HP:=ag hP;have HX:=ag hx;have j4:Hid (Below w w (w.alloc (.cells #[.bool true,.slice a xs.length c,.slice b 0 d] 147))):=ag bW;have G7:(0:Int)<(xs.length:Int):=an;have ahd:0<xs.length:=an;clear h MT hP ho hx;go_enter Tryz.func171,Tryz.ntmps171
 go_wp2_with first
  |((with_reducible refine(HC.O _ j4.O).mono ?_);rintro e w2 ⟨rfl,bG⟩;have eJ:=ag (j4.O.T (bG.mono j4.O.size));obtain⟨n0,n1,n2⟩:=AQ bG;clear bG)
  |((with_reducible refine(HP.O _ eJ.O).mono ?_);rintro e w3 ⟨p,k,rfl,bA,cu⟩;obtain⟨g,rfl⟩:∃g,p=some ⟨g,0,none⟩:=EJ;have dK:w3.cell? (za g 0)=some (qf x):=kK bA 0 _ (by simp[HX.O]);have ek:=ag (eJ.O.T (cu.mono eJ.O.size));unfold qf aH.v at dK;clear cu bA n0 n1 n2)
  |((with_reducible refine(Cr _ _ _ _ _ _ _).mono ?_);rintro e w4 ⟨rfl,dX⟩)
  |fail
 go_ret2;exact⟨rfl,ek.O.T (dX.mono ek.O.size)⟩
theorem wi(h:p:=by
 refine⟨g',c',w5,eh,ag ?_,ag ((hB.O.T (dX.mono hB.O.size)).T dV)⟩;rw[HSU.O];simpa[mc,Fz]using r6
 ):p:=h
theorem SV{a:az}{xs:List aH}(c:Nat)(h:ec w a xs)(ho:nO xs)(b:az)(d:Nat)(vx:(sn xs).sum<=1073741824):
 Calls Tryz.prog 172 #[.agg #[.bool true,.slice a xs.length c,.slice b 0 d]] w λ e w'=>e= .returned (.tuple #[iP ((sn xs).sum:Nat),.int .i64 0])/\Below w w w':=by
 have Fv:=ho.MK;have hlen:=ho.mE;have MT:= λ (w2:World) (hb:Below w w w2)=>zN c (h.below hb) ho b d;have hP:= λ (w2:World) (hb:Below w w w2)=>uF c (h.below hb) an b 0 d;have HC:=ag MT;have HP:=ag hP;have adl:=ag vx;have j4:Hid (Below w w ((w.alloc (.cells #[.bool true,.slice a xs.length c,.slice b 0 d] 147)).alloc (.cells zn 33))):=ag bW;clear h MT hP ho vx;go_enter Tryz.func172,Tryz.ntmps172
 go_wp2_with first
  |((with_reducible refine(HC.O _ j4.O).mono ?_);rintro e w2 ⟨rfl,bG⟩;have eJ:=ag (j4.O.T (bG.mono j4.O.size));obtain⟨y0,y1⟩:=bu bG;have n0:w2.cell? (za w 0)=_:=af y0 0;have n1:w2.cell? (za w 1)=_:=af y0 1;have n2:w2.cell? (za w 2)=_:=af y0 2;simp only[cW]at n0 n1 n2;have HY:=ag y1;clear bG y0 y1)
  |((with_reducible refine(HP.O _ eJ.O).mono ?_);rintro e w3 ⟨p,k,rfl,bA,cu⟩;have ek:=ag (eJ.O.T (cu.mono eJ.O.size));have HR:=ag bA;have Zc:=ag ((cu.block _ (cS HY.O).1).T HY.O);clear cu bA n0 n1 n2)
  |fail
 obtain⟨g,rfl⟩:∃g,p=some ⟨g,0,none⟩:=by exact nS
 go_loopw [7,23] (λ rv iv wr=>∃j:Nat,j<=xs.length/\iv= .int .i64 (j:Int)/\∃q k',rv= .slice q j k'/\Hid (wr.ownsRow w3 33 6 (.slice q j k') j (mc ((sn xs).take j)))/\Hid (Below w3 w3 wr)) (λ _ iv _=>xs.length - (intOf iv).toNat)
 case atStart=>exact⟨0,aD _,rfl,none,0,rfl,ag ⟨by simp[mc],.inl ⟨rfl,rfl⟩⟩,ag (gb)⟩
 case round=>
  obtain⟨j,hj,rfl,q,k',rfl,bA,hB⟩:=hrel;by_cases cL:j<xs.length
  ·obtain⟨x,hx⟩:∃x,xs[j]? =some x:=⟨xs[j],by simp[cL]⟩;have dK:wr.cell? ⟨g,j,none⟩=some (qf x):=carry hB.O (kK HR.O j _ jz);have HSU:Hid ((sn xs).take (j+1)=(sn xs).take j++[1]):=ag (by rw[aL];simp[sn,hx]);have mn:(j:Int)<(xs.length:Int):=an;have zP:(j:Int)<=6:=an;have Aw:Hid (∀w4,Below wr wr w4->∃g' c' w5,(Builtin.append_ #[334,334] 334 (fP q j k' (zp w4) 1 1)).run Tryz.prog (w4.alloc (.cells aeU 33))= .ok (.slice (zp g') (j+1) c') w5/\Hid (w5.ownsRow w3 33 6 (.slice (zp g') (j+1) c') (j+1) (mc ((sn xs).take (j+1))))/\Hid (Below w3 w3 w5)):=ag λ w4 dX=>by
    obtain⟨g',c',w5,eh,r6,dV,_,_,_⟩:=kZ (P:=Tryz.prog) 334 33 (iP 0) 6 48 bU Tryz.Rl rfl de (W:=w4) (n₀:=w3.heap.size) aeU rfl bz (dC.row (n₀:=w3.heap.size) dX bA.O) an an (aj hB.O.size dX.size);exact wi
   unfold qf aH.v at dK;clear hx
   go_wp2_with first
    |((with_reducible refine(Ft _ _ _ _ _ _ _).mono ?_);rintro e w4 ⟨rfl,dX⟩;obtain⟨g',c',w5,eh,r6,dV⟩:=Aw.O w4 dX;clear dX)
    |fail
   exact⟨⟨j+1,an,by simp,_,_,rfl,r6,dV⟩,by simp[intOf];omega⟩
  ·obtain rfl:j=xs.length:=an;have fh:(sn xs).length=xs.length:=by simp[sn]
   obtain⟨g2,rfl⟩:∃g2,q=some ⟨g2,0,none⟩:=by
    rcases bg bA.O with⟨_,h,_⟩|⟨g2,_,h,_⟩
    ·omega
    ·exact⟨g2,h⟩
   have AT:zS wr (zp g2) (sn xs):=by have:=bA.O;rw[aY an]at this;exact Df this
   have hj:=MU (w:=wr) k' AT an adl.O;rw[fh]at hj;have HJ:=ag hj;clear AT hj fh;have HY5:=ag ((hB.O.block _ (cS Zc.O).1).T Zc.O)
   go_wp2_with first
    |((with_reducible refine HJ.O.mono ?_);rintro e w6 ⟨rfl,lP⟩;have hy:=(lP.block _ (cS HY5.O).1).T HY5.O;obtain⟨x0,x1,x2,x3,x4,x5⟩:=kI hy;obtain⟨f0,f1,f2,f3,f4,f5⟩:=AJ hy;have HYY:=ag hy;clear hy)
    |fail
   refine bodyPost_ret (v:=.tuple #[iP ((sn xs).sum:Nat),.int .i64 0]) ?_ bp ⟨rfl,((ek.O.T (hB.O.mono ek.O.size)).T (lP.mono (aj ek.O.size hB.O.size))).T (mb (bk _))⟩;obtain⟨s0,s1,s2,s3,s4,s5⟩:=kI (MG (v0:=.int .i64 ((sn xs).sum:Nat)) (v1:=.int .i64 0) (v2:=.int .i64 0) (v3:=.int .u64 0) (v4:=.int .i64 0) (v5:=.int .i64 0) HYY.O);rw[results_cell_tmp rfl];go_simp
theorem MV{a:az}{xs:List a8}(c:Nat)(h:kJ w a xs)(ho:gM xs)(b:az)(d:Nat)(x:a8)(hx:xs[0]? =some x):
 Calls Tryz.prog 171 (BX (.agg (zm b 0 d a xs.length c))) w λ e w'=>e= .returned (.tuple (Lz x.ka x.key.length x.kc))/\Below w w w':=by
 have Fv:=ho.ML;have hlen:=ho.mE;have MT:= λ (w2:World) (hb:Below w w w2)=>wc c (h.below hb) ho b d;have hP:= λ (w2:World) (hb:Below w w w2)=>sl c (h.below hb) an b 0 d;have HC:=ag MT;have HP:=ag hP;have HX:=ag hx;have j4:Hid (Below w w (w.alloc (.cells (zm b 0 d a xs.length c) 147))):=ag bW;have G7:(0:Int)<(xs.length:Int):=an;have ahd:0<xs.length:=an;clear h MT hP ho hx;go_enter Tryz.func171,Tryz.ntmps171
 go_wp2_with first
  |((with_reducible refine(HC.O _ j4.O).mono ?_);rintro e w2 ⟨rfl,bG⟩;have eJ:=ag (j4.O.T (bG.mono j4.O.size));obtain⟨n0,n1,n2⟩:=AQ bG;clear bG)
  |((with_reducible refine(HP.O _ eJ.O).mono ?_);rintro e w3 ⟨p,k,rfl,bA,cu⟩;obtain⟨g,rfl⟩:∃g,p=some ⟨g,0,none⟩:=EJ;have dK:w3.cell? (za g 0)=some (qg x):=kK bA 0 _ (by simp[HX.O]);have ek:=ag (eJ.O.T (cu.mono eJ.O.size));unfold qg a8.v at dK;clear cu bA n0 n1 n2)
  |((with_reducible refine(Cs _ _ _ _ _ _).mono ?_);rintro e w4 ⟨rfl,dX⟩)
  |fail
 go_ret2;exact⟨rfl,ek.O.T (dX.mono ek.O.size)⟩
theorem Py{a:az}{xs:List a8}(c:Nat)(h:kJ w a xs)(ho:gM xs)(b:az)(d:Nat)(vx:(List.map a8.count xs).sum<=1073741824):
 Calls Tryz.prog 172 (BX (.agg (zm b 0 d a xs.length c))) w λ e w'=>e= .returned (.tuple #[iP ((List.map a8.count xs).sum:Nat),.int .i64 0])/\Below w w w':=by
 have Fv:=ho.ML;have hlen:=ho.mE;have MT:= λ (w2:World) (hb:Below w w w2)=>wc c (h.below hb) ho b d;have hP:= λ (w2:World) (hb:Below w w w2)=>sl c (h.below hb) an b 0 d;have HC:=ag MT;have HP:=ag hP;have adl:=ag vx;have j4:Hid (Below w w ((w.alloc (.cells (zm b 0 d a xs.length c) 147)).alloc (.cells zn 33))):=ag bW;clear h MT hP ho vx;go_enter Tryz.func172,Tryz.ntmps172
 go_wp2_with first
  |((with_reducible refine(HC.O _ j4.O).mono ?_);rintro e w2 ⟨rfl,bG⟩;have eJ:=ag (j4.O.T (bG.mono j4.O.size));obtain⟨y0,y1⟩:=bu bG;have n0:w2.cell? (za w 0)=_:=af y0 0;have n1:w2.cell? (za w 1)=_:=af y0 1;have n2:w2.cell? (za w 2)=_:=af y0 2;simp only[cW]at n0 n1 n2;have HY:=ag y1;clear bG y0 y1)
  |((with_reducible refine(HP.O _ eJ.O).mono ?_);rintro e w3 ⟨p,k,rfl,bA,cu⟩;have ek:=ag (eJ.O.T (cu.mono eJ.O.size));have HR:=ag bA;have Zc:=ag ((cu.block _ (cS HY.O).1).T HY.O);clear cu bA n0 n1 n2)
  |fail
 obtain⟨g,rfl⟩:∃g,p=some ⟨g,0,none⟩:=by exact nS
 go_loopw [7,23] (λ rv iv wr=>∃j:Nat,j<=xs.length/\iv= .int .i64 (j:Int)/\∃q k',rv= .slice q j k'/\Hid (wr.ownsRow w3 33 6 (.slice q j k') j (mc ((List.map a8.count xs).take j)))/\Hid (Below w3 w3 wr)) (λ _ iv _=>xs.length - (intOf iv).toNat)
 case atStart=>exact⟨0,aD _,rfl,none,0,rfl,ag ⟨by simp[mc],.inl ⟨rfl,rfl⟩⟩,ag (gb)⟩
 case round=>
  obtain⟨j,hj,rfl,q,k',rfl,bA,hB⟩:=hrel;by_cases cL:j<xs.length
  ·obtain⟨x,hx⟩:∃x,xs[j]? =some x:=⟨xs[j],by simp[cL]⟩;have dK:wr.cell? ⟨g,j,none⟩=some (qg x):=carry hB.O (kK HR.O j _ jz);have HSU:Hid ((List.map a8.count xs).take (j+1)=(List.map a8.count xs).take j++[x.count]):=ag (by rw[aL];simp[hx]);have mn:(j:Int)<(xs.length:Int):=an;have zP:(j:Int)<=6:=an;have Aw:Hid (∀w4,Below wr wr w4->∃g' c' w5,(Builtin.append_ #[334,334] 334 (fP q j k' (zp w4) 1 1)).run Tryz.prog (w4.alloc (.cells (qp x.count) 33))= .ok (.slice (zp g') (j+1) c') w5/\Hid (w5.ownsRow w3 33 6 (.slice (zp g') (j+1) c') (j+1) (mc ((List.map a8.count xs).take (j+1))))/\Hid (Below w3 w3 w5)):=ag λ w4 dX=>by
    obtain⟨g',c',w5,eh,r6,dV,_,_,_⟩:=kZ (P:=Tryz.prog) 334 33 (iP 0) 6 48 bU Tryz.Rl rfl de (W:=w4) (n₀:=w3.heap.size) (qp x.count) rfl bz (dC.row (n₀:=w3.heap.size) dX bA.O) an an (aj hB.O.size dX.size);exact wi
   unfold qg a8.v at dK;clear hx
   go_wp2_with first
    |((with_reducible refine(Fu _ _ _ _ _ _).mono ?_);rintro e w4 ⟨rfl,dX⟩;obtain⟨g',c',w5,eh,r6,dV⟩:=Aw.O w4 dX;clear dX)
    |fail
   exact⟨⟨j+1,an,by simp,_,_,rfl,r6,dV⟩,by simp[intOf];omega⟩
  ·obtain rfl:j=xs.length:=an;have fh:(List.map a8.count xs).length=xs.length:=by simp
   obtain⟨g2,rfl⟩:∃g2,q=some ⟨g2,0,none⟩:=by
    rcases bg bA.O with⟨_,h,_⟩|⟨g2,_,h,_⟩
    ·omega
    ·exact⟨g2,h⟩
   have AT:zS wr (zp g2) (List.map a8.count xs):=by have:=bA.O;rw[aY an]at this;exact Df this
   have hj:=MU (w:=wr) k' AT an adl.O;rw[fh]at hj;have HJ:=ag hj;clear AT hj fh;have HY5:=ag ((hB.O.block _ (cS Zc.O).1).T Zc.O)
   go_wp2_with first
    |((with_reducible refine HJ.O.mono ?_);rintro e w6 ⟨rfl,lP⟩;have hy:=(lP.block _ (cS HY5.O).1).T HY5.O;obtain⟨x0,x1,x2,x3,x4,x5⟩:=kI hy;obtain⟨f0,f1,f2,f3,f4,f5⟩:=AJ hy;have HYY:=ag hy;clear hy)
    |fail
   refine bodyPost_ret (v:=.tuple #[iP ((List.map a8.count xs).sum:Nat),.int .i64 0]) ?_ bp ⟨rfl,((ek.O.T (hB.O.mono ek.O.size)).T (lP.mono (aj ek.O.size hB.O.size))).T (mb (bk _))⟩;obtain⟨s0,s1,s2,s3,s4,s5⟩:=kI (MG (v0:=.int .i64 ((List.map a8.count xs).sum:Nat)) (v1:=.int .i64 0) (v2:=.int .i64 0) (v3:=.int .u64 0) (v4:=.int .i64 0) (v5:=.int .i64 0) HYY.O);rw[results_cell_tmp rfl];go_simp
structure dI(R:Nat)(W W':World):Prop where
 os:W'.os=W.os
 tape:W'.tape=W.tape
 output:W'.output=W.output
 size:W.heap.size<=W'.heap.size
 block:∀k,k<W.heap.size->k≠R->W'.heap[k]? =W.heap[k]?
theorem dI.refl(R:Nat)(W:World):dI R W W:=⟨rfl,rfl,rfl,cH, λ _ _ _=>rfl⟩
theorem dI.T{R:Nat}{U V W:World}(h:dI R U V)(k:dI R V W):dI R U W:=⟨k.os.T h.os,k.tape.T h.tape,k.output.T h.output,aj h.size k.size, λ i hi hr=>(k.block i (aA hi h.size) hr).T (h.block i hi hr)⟩
theorem dI.set{R:Nat}(W:World)(o:Nat)(v:Value):dI R W (W.setCell ⟨R,o,none⟩ v):=⟨rfl,rfl,rfl,by simp[World.setCell], λ k _ hk=>aq _ _ _ _ hk⟩
theorem dI.bH{R:Nat}(h:Below W W W'):dI R W W':=⟨h.os,h.tape,h.output,h.size, λ k hk _=>h.block k hk⟩
theorem dI.below{R:Nat}(h:dI R W W')(hn:n<=R)(hw:n<=W.heap.size):Below n W W':=⟨h.os,h.tape,h.output,h.size, λ k hk=>h.block k an an⟩
theorem dI.same{R:Nat}{v:Value}(h:Boxed W K t v):dI R W (W.setCell (za K 0) v):=
 ⟨rfl,rfl,rfl,by simp[World.setCell], λ k _ _=>by
  by_cases hk:k=K
  ·subst hk;exact(gS v h).T h.symm
  ·exact aq _ _ _ _ hk⟩
theorem dI.boxed{R:Nat}{v:Value}(h:dI R W W')(hb:Boxed W B t v)(dN:B≠R):Boxed W' B t v:=(h.block B hb.lt dN).T hb
theorem dI.bytes{R:Nat}{a:az}{v:Value}(h:dI R W W')(hR:Boxed W R t v)(hv:∀x:Nat,v≠.int .u8 (x:Int))(hb:ay W a xs):ay W' a xs:=by
 refine⟨hb.1,?_⟩;rcases hb.2 with h0|⟨C,o,ha,hc⟩
 ·exact .inl h0
 ·refine .inr ⟨C,o,ha, λ j x hx=>?_⟩;have dK:=hc j x hx;have dN:C≠R:=by
   rintro rfl;rw[World.cell?]at dK;rw[show W.heap[C]? =_ from hR]at dK;simp only at dK;rcases eB (o+j)with h0|h0
   ·rw[h0]at dK;simp at dK;exact hv x dK
   ·obtain⟨m,hm⟩:∃m,o+j=m+1:=⟨o+j - 1,an⟩;rw[hm]at dK;simp at dK
  exact(bq (w:=W) (h.block C (aZ W _ dK) dN)).T dK
structure Vw where
 w:World
 z:Nat
def fL(V:Vw)(a:az)(xs:List Nat):Prop:=ay V.w a xs/\∀p,a=some p->p.block=V.z
theorem fL.take{V:Vw}{a:az}{xs:List Nat}(h:fL V a xs)(n:Nat):fL V a (xs.take n):=⟨h.1.take n,h.2⟩
theorem fL.drop{V:Vw}{B o:Nat}{xs:List Nat}(h:fL V (some ⟨B,o,none⟩) xs)(n:Nat):fL V (some ⟨B,o+n,none⟩) (xs.drop n):=⟨h.1.drop n, λ p e=>by cases e;exact h.2 ⟨B,o,none⟩ rfl⟩
theorem fL.nil{V:Vw}{a b:az}{xs:List Nat}(h:fL V a xs)(hb:b=a):fL V b []:=⟨ay.nil _ _,by subst hb;exact h.2⟩
theorem fL.below{V:Vw}{W:World}{a:az}{xs:List Nat}(h:fL V a xs)(hb:Below V.w.heap.size V.w W):ay W a xs:=h.1.below hb
def ix(V:Vw)(W:World)(R:Nat)(xs:List Nat):Prop:=∃B o c,Boxed W R 28 (.slice (some ⟨B,o,none⟩) xs.length c)/\xs.length<=c/\ay W (some ⟨B,o,none⟩) xs/\fL V (some ⟨B,o,none⟩) xs
theorem ix.only{Q R:Nat}{V:Vw}{v:Value}(hr:ix V W R xs)(h:dI Q W W')(hQ:Boxed W Q t v)(hv:∀x:Nat,v≠.int .u8 (x:Int))(dN:R≠Q):ix V W' R xs:=by obtain⟨B,o,c,h1,h2,h3,h4⟩:=hr;exact⟨B,o,c,h.boxed h1 dN,h2,h.bytes hQ hv h3,h4⟩
theorem ix.below{R:Nat}{V:Vw}{W W':World}{xs:List Nat}(hr:ix V W R xs)(h:Below W W W'):ix V W' R xs:=by obtain⟨B,o,c,h1,h2,h3,h4⟩:=hr;exact⟨B,o,c,(h.block R h1.lt).T h1,h2,h3.below h,h4⟩
theorem MW{V:Vw}{R:Nat}(n:Nat)(hr:ix V w R xs)(hk:Boxed w K 4 (.bool true))(hn:n<=xs.length)(hl:xs.length<=1000000):
 Calls Tryz.prog 220 (aeV n (zp K) (zp R)) w λ e w'=>∃a,e= .returned (.slice a n n)/\ay w' a (xs.take n)/\fL V a (xs.take n)/\ix V w' R (xs.drop n)/\dI R w w':=by
 obtain⟨B,o,c,mM,hc,iL,zb⟩:=hr;have jG:=ag zb;have HK:=ag hk;have UJ:=ag iL;have hRK:R≠K:=by rintro rfl;have:=mM.symm.T hk;simp at this
 have e1:=du mM;have e2:=fe mM;have e3:=du hk;have e4:=fe hk;have aci:Boxed (w.setCell (za K 0) (.bool true)) R 28 (.slice (some ⟨B,o,none⟩) xs.length c):=Boxed.other mM hRK _;have u9:Boxed (w.setCell (za K 0) (.bool true)) K 4 (.bool true):=gS _ hk;have f1:=du aci;have f2:=fe aci;have f3:=du u9;have Za:=ag aci;clear mM hk aci u9 iL zb;go_enter Tryz.func220,Tryz.ntmps220
 go_wp2_with fail
 all_goals have H0:dI K w (w.setCell (za K 0) (.bool true)):=dI.set _ _ _
 all_goals have H0':dI R w (w.setCell (za K 0) (.bool true)):=dI.same HK.O
 case inl=>
  have hd:xs.drop n=[]:=dM an;refine bodyPost_ret (v:=.slice (some ⟨B,o,none⟩) n n) (by rw[results_tmp rfl];rfl) bp ⟨_,rfl,?_,jG.O.take n,⟨B,o,0,?_,by simp;omega,?_,by rw[hd];exact jG.O.nil rfl⟩,?_⟩
  ·exact((dI.set (R:=R) _ _ _).bytes Za.O cP (H0.bytes HK.O cP UJ.O)).take n
  ·simpa using gS (.slice (some ⟨B,o,none⟩) (xs.length - n) 0) Za.O
  ·rw[hd];exact ay.nil _ _
  ·exact H0'.T (dI.set _ _ _)
 case inr=>
  refine bodyPost_ret (v:=.slice (some ⟨B,o,none⟩) n n) (by rw[results_tmp rfl];rfl) bp ⟨_,rfl,?_,jG.O.take n,⟨B,o+n,c - n,?_,by simp;omega,?_,jG.O.drop n⟩,?_⟩
  ·exact((dI.set (R:=R) _ _ _).bytes Za.O cP (H0.bytes HK.O cP UJ.O)).take n
  ·simpa using gS (.slice (some ⟨B,o+n,none⟩) (xs.length - n) (c - n)) Za.O
  ·exact((dI.set (R:=R) _ _ _).bytes Za.O cP (H0.bytes HK.O cP UJ.O)).drop n
  ·exact H0'.T (dI.set _ _ _)
def numOf(xs:List Nat):Nat:=xs.foldl (λ x c=>x*256+c) 0
theorem FB(xs:List Nat)(x:Nat):numOf (xs++[x])=numOf xs*256+x:=by simp[numOf]
theorem MX:∀(k:Nat) (xs:List Nat),(∀x∈xs,x<256)->xs.length<=k->numOf xs<256^k:=by
 suffices h:∀(xs:List Nat),(∀x∈xs,x<256)->∀n m:Nat,n<256^m->xs.foldl (λ x c=>x*256+c) n<256^(m+xs.length)by
  intro k xs hx hl;have:=h xs hx 0 0 de;rw[aN]at this;exact aA this (Nat.pow_le_pow_right de hl)
 intro xs
 induction xs with
 |nil=>intro _ n m h;simpa using h
 |cons x xs ih=>
  intro hx n m h;have Rd:=hx x cP;have:=ih (λ y hy=>hx y kj) (n*256+x) (m+1) (by rw[cK];omega);rw[cD,aK,show m+(xs.length+1)=m+1+xs.length by omega];exact this
theorem or8(n x:Nat)(hn:n<72057594037927936)(hx:x<256):bits .or .u64 (IntKind.u64.wrap ((n:Int)*256)) (IntKind.u64.wrap (x:Int))=((n*256+x:Nat):Int):=by
 have h1:IntKind.u64.wrap ((n:Int)*256)=((n*256:Nat):Int):=by rw[bR];omega
 have h2:IntKind.u64.wrap (x:Int)=(x:Int):=by rw[bR];omega
 rw[h1,h2,u64_or_nat _ _ an an];congr 1;have:=Nat.two_pow_add_eq_or_of_lt (i:=8) (b:=x) an n;rw[dr n 256];exact this.symm
theorem aai{V:Vw}{R T:Nat}(n:Nat)(hr:ix V w R xs)(hk:Boxed w K 4 (.bool true))(ht:Boxed w T 205 (.func (.func 220) #[] (oR (zp K) (zp R))))(hn:n<=8)(pI:n<=xs.length)(hl:xs.length<=1000000):
 Calls Tryz.prog 221 #[.int .i64 (n:Int),.pointer (zp T)] w λ e w'=>e= .returned (.int .u64 (numOf (xs.take n):Nat))/\ix V w' R (xs.drop n)/\dI R w w':=by
 have HT:=ag (MW n hr hk pI hl);have e1:=du ht;have e2:=fe ht;clear hr hk ht;go_enter Tryz.func221,Tryz.ntmps221
 go_wp2_with first
  |((with_reducible refine HT.O.mono ?_);rintro e w1 ⟨a,rfl,hb, -,hr,ho⟩;have HB:=ag hb;have HR:=ag hr;have HO:=ag ho;clear hb hr ho)
  |fail
 have VH:(xs.take n).length=n:=dU;obtain⟨ys,yO⟩:=bL (xs.take n);rw[<-yO]at HB VH;have Hh:=ag yO;have BR:=HB.O.1;have HB8:=ag BR;clear yO BR
 go_loopw [3,10] (λ rv iv wr=>∃j:Nat,j<=n/\iv= .int .i64 (j:Int)/\rv= .int .u64 (numOf (ys.take j):Nat)/\w1=wr) (λ _ iv _=>n - (intOf iv).toNat)
 case atStart=>exact⟨0,aD _,rfl,rfl,rfl⟩
 case round=>
  obtain⟨j,hj,rfl,rfl,rfl⟩:=hrel;by_cases cL:j<n
  ·obtain⟨x,hx⟩:∃x,ys[j]? =some x:=⟨ys[j],by simp[VH,cL]⟩;obtain⟨C,o,rfl,hc⟩:∃C o,a=some ⟨C,o,none⟩/\w1.cell? (za C (o+j))=some (.int .u8 (x:Int)):=by
    rcases HB.O.2 with h0|⟨C,o,e,hc⟩
    ·rw[h0]at VH;simp at VH;omega
    ·exact⟨C,o,e,hc j x hx⟩
   have mn:(j:Int)<(n:Int):=an;have hj8:(j:Int)<=8:=an;have HX:=ag hx;clear hx
   go_wp2_with fail
   have UK:=HB8.O x (ak HX.O);have adm:numOf (ys.take j)<72057594037927936:=MX 7 _ (λ y hy=>HB8.O y (aP hy)) dU;exact⟨⟨j+1,an,by simp,by rw[or8 _ _ adm UK,aL,HX.O,fY,FB],trivial⟩,by simp[intOf];omega⟩
  ·obtain rfl:j=n:=an;have aiZ:ys.take ys.length=ys:=bd
   go_wp2_with fail
   go_ret;exact⟨by rw[aY an,Hh.O];rfl,HR.O,HO.O⟩
theorem gQ{R:Nat}(hk:∀j,j≠R->W'.heap[j]? =W.heap[j]?){fz:Nat×Nat}(hR:W.heap[R]? =some (.cells cs t fz))(ht1:∀(j x:Nat),cs[j]? ≠some (.int .u8 (x:Int))){a:az}(h:ay W a xs):ay W' a xs:=by
 have hc:∀(p:Addr) (v:Value),p.block≠R->W.cell? p=some v->W'.cell? p=some v:= λ p v hp hv=>(bq (hk p.block hp)).T hv;refine⟨h.1,?_⟩;rcases h.2 with h0|⟨B,o,e,dK⟩
 ·exact .inl h0
 ·exact vX
def zd(K R:Nat):Value:=.func (.func 220) #[] (oR (zp K) (zp R))
def IE(T:Nat):Value:=.func (.func 221) #[] (iS (zp T))
structure Dg(V:Vw)(W0 W:World)(R K T N X:Nat)(xs:List Nat)(cs:Array Value)(t:TypeId)(bl:List (az×List Nat)):Prop where
 rest:ix V W R xs
 ok:Boxed W K 4 (.bool true)
 take:Boxed W T 205 (zd K R)
 num:Boxed W N 355 (IE T)
 ne:R≠K/\R≠T/\R≠N/\X≠R/\X≠K/\X≠T/\X≠N
 small:xs.length<=1000000
 x:W.heap[X]? =some (.cells cs t)
 x8:∀(j x:Nat),cs[j]? ≠some (.int .u8 (x:Int))
 only:dI R W0 W
 new:W0.heap.size<=X
 bytes:∀p∈bl,fL V p.1 p.2
theorem Dg.facts{V:Vw}{R T:Nat}{bl:List (az×List Nat)}(h:Dg V W0 W R K T N X xs cs t bl):
 W.cell? (za T 0)=some (.func (.func 220) #[] (oR (zp K) (zp R)))/\W.cell? (za N 0)=some (.func (.func 221) #[] (iS (zp T)))/\W.cell? (za K 0)=some (.bool true)/\∀j,W.frozen? ⟨X,j,none⟩=false:=
 ⟨du h.take,du h.num,du h.ok,ax h.x⟩
theorem Dg.cell{V:Vw}{R T:Nat}{bl:List (az×List Nat)}(h:Dg V W0 W R K T N X xs cs t bl)(j:Nat)(v:Value)(hj:cs[j]? =some v):W.cell? ⟨X,j,none⟩=some v:=(af h.x j).T hj
theorem Dg.step{V:Vw}{R T:Nat}{ys:List Nat}{bl:List (az×List Nat)}(h:Dg V W0 W R K T N X xs cs t bl)(hr:ix V W' R ys)(ho:dI R W W')(hs:ys.length<=1000000):Dg V W0 W' R K T N X ys cs t bl:=by obtain⟨n1,n2,n3,n4,n5,n6,n7⟩:=h.ne;obtain⟨B,o,c,hb,_⟩:=h.rest;exact⟨hr,ho.boxed h.ok (dy n1),ho.boxed h.take (dy n2),ho.boxed h.num (dy n3),h.ne,hs,(ho.block X (cS h.x).1 n4).T h.x,h.x8,h.only.T ho,h.new,h.bytes⟩
theorem Dg.yP{V:Vw}{R T:Nat}{bl:List (az×List Nat)}(ws:List Nat)(h:Dg V W0 W R K T N X (ws++xs) cs t bl)(m:Int)(hm:m=(ws.length:Int))(hn8:ws.length<=8):
 Calls Tryz.prog 221 #[.int .i64 m,.pointer (zp T)] W λ e w'=>e= .returned (.int .u64 (numOf ws:Nat))/\Dg V W0 w' R K T N X xs cs t bl:=by
 have hs:=h.small;rw[ar]at hs;subst hm;refine(aai ws.length h.rest h.ok h.take hn8 cP h.small).mono ?_;rintro e w' ⟨rfl,hr,ho⟩;rw[df an,aY an];rw[ji an,dh an,bn]at hr;exact⟨rfl,h.step hr ho an⟩
theorem Dg.Wd{V:Vw}{R T:Nat}{bl:List (az×List Nat)}(ws:List Nat)(h:Dg V W0 W R K T N X (ws++xs) cs t bl):
 Calls Tryz.prog 220 (aeV ws.length (zp K) (zp R)) W λ e w'=>∃a,e= .returned (.slice a ws.length ws.length)/\Dg V W0 w' R K T N X xs cs t (bl++[(a,ws)]):=by
 have hs:=h.small;rw[ar]at hs;refine(MW ws.length h.rest h.ok cP h.small).mono ?_;rintro e w' ⟨a,rfl, -,hb,hr,ho⟩;rw[df (cH),aY (cH)]at hb;rw[ji (cH),dh (cH),bn]at hr;have:=h.step hr ho an;refine⟨a,rfl,{this with bytes:= λ p hp=>?_}⟩;rcases aG.1 hp with hp|hp
 ·exact this.bytes p hp
 ·rw[aE]at hp;subst hp;exact hb
theorem Dg.store{V:Vw}{R T:Nat}{bl:List (az×List Nat)}(h:Dg V W0 W R K T N X xs cs t bl)(j:Nat)(v:Value)(hv:∀x:Nat,v≠.int .u8 (x:Int))(cs':Array Value)(he:cs.setIfInBounds j v=cs'):Dg V W0 (W.setCell ⟨X,j,none⟩ v) R K T N X xs cs' t bl:=by
 subst he;obtain⟨n1,n2,n3,n4,n5,n6,n7⟩:=h.ne;have hk:∀i,i≠X->(W.setCell ⟨X,j,none⟩ v).heap[i]? =W.heap[i]? := λ i hi=>aq W ⟨X,j,none⟩ v i hi;obtain⟨B,o,c,hb,hc,sc,zb⟩:=h.rest;refine⟨⟨B,o,c,(hk R (dy n4)).T hb,hc,gQ hk h.x h.x8 sc,zb⟩,(hk K (dy n5)).T h.ok,(hk T (dy n6)).T h.take,(hk N (dy n7)).T h.num,h.ne,h.small,aU v h.x, λ i x e=>?_,?_,h.new,h.bytes⟩
 ·rw[Array.getElem?_setIfInBounds]at e;split at e
  ·split at e
   ·exact hv x (fp e)
   ·cases e
  ·exact h.x8 i x e
 ·exact⟨h.only.os,h.only.tape,h.only.output,by have:=h.only.size;simpa[World.setCell]using this, λ k C1 u9=>(hk k (cm h.new)).T (h.only.block k C1 u9)⟩
theorem Dg.drew{V:Vw}{W0 W:World}{R K T N X:Nat}{xs:List Nat}{cs:Array Value}{t:TypeId}{bl:List (az×List Nat)}(h:Dg V W0 W R K T N X xs cs t bl):Dg V W0 W.drew R K T N X xs cs t bl:=
 ⟨h.rest,h.ok,h.take,h.num,h.ne,h.small,h.x,h.x8,⟨h.only.os,h.only.tape,h.only.output,h.only.size,h.only.block⟩,h.new,h.bytes⟩
theorem Dg.start{V:Vw}{R T:Nat}(hr:ix V W0 R xs)(hk:Boxed W0 K 4 (.bool true))(ht:Boxed W0 T 205 (zd K R))(hn:Boxed W0 N 355 (IE T))(dN:R≠K/\R≠T/\R≠N)(hs:xs.length<=1000000)(cs:Array Value)(t:TypeId)(h8:∀(j x:Nat),cs[j]? ≠some (.int .u8 (x:Int))):
 Dg V W0 (W0.alloc (.cells cs t)) R K T N W0 xs cs t []:=by
 obtain⟨B,o,c,h1,h2,h3,h4⟩:=id hr;have hb:Below W0 W0 (W0.alloc (.cells cs t)):=(gb).alloc (cH) _;exact⟨hr.below hb,hk.alloc _,ht.alloc _,hn.alloc _,⟨dN.1,dN.2.1,dN.2.2,kU h1.lt,kU hk.lt,kU ht.lt,kU hn.lt⟩,hs,ai W0 _,h8,dI.bH hb,cH,by simp⟩
theorem Pz(x:aH)(r:List Nat):kB x++r=[x.key.length]++(x.key++([x.val.length]++(x.val++([0]++(fK 8 0++r))))):=by simp[kB,tj,fK]
theorem tJ(c:Nat):numOf [c]=c:=by simp[numOf]
theorem We{V:Vw}{R T:Nat}(x:aH)(r:List Nat)(hr:ix V w R (kB x++r))(hk:Boxed w K 4 (.bool true))(ht:Boxed w T 205 (zd K R))(hn:Boxed w N 355 (IE T))(dN:R≠K/\R≠T/\R≠N)(hs:(kB x++r).length<=1000000):
 Calls Tryz.prog 223 (J7 (zp T) (zp N) (zp K)) w λ e w'=>∃y:aH,y.key=x.key/\y.val=x.val/\e= .returned (.tuple #[y.v,.bool true])/\fL V y.ka y.key/\(fL V y.va y.val/\y.vc=y.val.length)/\ix V w' R r/\dI R w w':=by
 have hl:=hs;rw[Pz]at hr hs;have D0:=ag (Dg.start hr hk ht hn dN hs oH 101 uo);have C1:x.key.length<=1000000:=by simp[kB]at hl;omega
 have u9:x.val.length<=1000000:=by simp[kB]at hl;omega
 have bY:IntKind.i64.wrap (x.key.length:Int)=(x.key.length:Int):=by rw[aI];omega
 have fH:IntKind.i64.wrap (x.val.length:Int)=(x.val.length:Int):=by rw[aI];omega
 clear hr hk ht hn dN hs hl;obtain⟨f1,f2,f3,f4⟩:=D0.O.facts;have x0:=D0.O.cell 0 (.slice none 0 0) rfl;have x1:=D0.O.cell 1 (.slice none 0 0) rfl;have x2:=D0.O.cell 2 (.bool false) rfl;have x3:=D0.O.cell 3 (.int .i64 0) rfl;go_enter Tryz.func223,Tryz.ntmps223
 go_wp2_with fail
 have D1:=ag D0.O.drew;clear f1 f2 f3 f4 x0 x1 x2 x3;obtain⟨f1,f2,f3,f4⟩:=D1.O.facts;have x0:=D1.O.cell 0 (.slice none 0 0) rfl;have x1:=D1.O.cell 1 (.slice none 0 0) rfl;have x2:=D1.O.cell 2 (.bool false) rfl;have x3:=D1.O.cell 3 (.int .i64 0) rfl;generalize sd:World.drew _=W1 at D1 f1 f2 f3 f4 x0 x1 x2 x3;refine ku 6 (λ w'=>w'.cell? (za T 0)=some (.func (.func 220) #[] (oR (zp K) (zp R)))/\w'.cell? (za N 0)=some (.func (.func 221) #[] (iS (zp T)))) bU ⟨by rw[sd];exact f1,by rw[sd];exact f2⟩ (λ hS=>?_);rw[sd]at hS⊢;clear sd;refine tT 0 hS ?_;refine tT 1 hS ?_;refine sT 2 λ K hK=>?_;go_simp;(with_reducible refine(D1.O.yP _ 1 rfl cP).mono ?_);rintro e w2 ⟨rfl,hd⟩;have D2:=ag hd;clear hd;clear f1 f2 f3 f4 x0 x1 x2 x3;obtain⟨f1,f2,f3,f4⟩:=D2.O.facts;have x0:=D2.O.cell 0 (.slice none 0 0) rfl;have x1:=D2.O.cell 1 (.slice none 0 0) rfl;have x2:=D2.O.cell 2 (.bool false) rfl;have x3:=D2.O.cell 3 (.int .i64 0) rfl;rw[tJ];refine et hK ?_ (λ hS=>?_)
 ·exact⟨f1,f2⟩
 clear hK K;refine tT 3 hS ?_;refine sT 4 λ K hK=>?_;go_simp;(with_reducible refine(D2.O.Wd _).mono ?_);rintro e w3 ⟨a1,rfl,hd⟩;have D3:=ag hd;clear hd;clear f1 f2 f3 f4 x0 x1 x2 x3;obtain⟨f1,f2,f3,f4⟩:=D3.O.facts;have x0:=D3.O.cell 0 (.slice none 0 0) rfl;have x1:=D3.O.cell 1 (.slice none 0 0) rfl;have x2:=D3.O.cell 2 (.bool false) rfl;have x3:=D3.O.cell 3 (.int .i64 0) rfl;refine et hK ?_ (λ hS=>?_)
 ·exact⟨f1,f2⟩
 clear hK K;refine tT 5 hS ?_;refine sT 6 λ K hK=>?_;go_simp;refine ra hK ?_;clear hK K;refine nK bU ?_ _;have D4:=ag (D3.O.store 0 (.slice a1 x.key.length x.key.length) cP #[.slice a1 x.key.length x.key.length,.slice none 0 0,.bool false,.int .i64 0] rfl);clear f1 f2 f3 f4 x0 x1 x2 x3;obtain⟨f1,f2,f3,f4⟩:=D4.O.facts;have x0:=D4.O.cell 0 (.slice a1 x.key.length x.key.length) rfl;have x1:=D4.O.cell 1 (.slice none 0 0) rfl;have x2:=D4.O.cell 2 (.bool false) rfl;have x3:=D4.O.cell 3 (.int .i64 0) rfl
 go_wp2_with fail
 have D5:=ag D4.O.drew;clear f1 f2 f3 f4 x0 x1 x2 x3;obtain⟨f1,f2,f3,f4⟩:=D5.O.facts;have x0:=D5.O.cell 0 (.slice a1 x.key.length x.key.length) rfl;have x1:=D5.O.cell 1 (.slice none 0 0) rfl;have x2:=D5.O.cell 2 (.bool false) rfl;have x3:=D5.O.cell 3 (.int .i64 0) rfl;generalize sd:World.drew _=W5 at D5 f1 f2 f3 f4 x0 x1 x2 x3;refine ku 6 (λ w'=>w'.cell? (za T 0)=some (.func (.func 220) #[] (oR (zp K) (zp R)))/\w'.cell? (za N 0)=some (.func (.func 221) #[] (iS (zp T)))) bU ⟨by rw[sd];exact f1,by rw[sd];exact f2⟩ (λ hS=>?_);rw[sd]at hS⊢;clear sd;refine tT 0 hS ?_;refine tT 1 hS ?_;refine sT 2 λ K hK=>?_;go_simp;(with_reducible refine(D5.O.yP _ 1 rfl cP).mono ?_);rintro e w6 ⟨rfl,hd⟩;have D6:=ag hd;clear hd;clear f1 f2 f3 f4 x0 x1 x2 x3;obtain⟨f1,f2,f3,f4⟩:=D6.O.facts;have x0:=D6.O.cell 0 (.slice a1 x.key.length x.key.length) rfl;have x1:=D6.O.cell 1 (.slice none 0 0) rfl;have x2:=D6.O.cell 2 (.bool false) rfl;have x3:=D6.O.cell 3 (.int .i64 0) rfl;rw[tJ];refine et hK ?_ (λ hS=>?_)
 ·exact⟨f1,f2⟩
 clear hK K;refine tT 3 hS ?_;refine sT 4 λ K hK=>?_;go_simp;(with_reducible refine(D6.O.Wd _).mono ?_);rintro e w7 ⟨a2,rfl,hd⟩;have D7:=ag hd;clear hd;clear f1 f2 f3 f4 x0 x1 x2 x3;obtain⟨f1,f2,f3,f4⟩:=D7.O.facts;have x0:=D7.O.cell 0 (.slice a1 x.key.length x.key.length) rfl;have x1:=D7.O.cell 1 (.slice none 0 0) rfl;have x2:=D7.O.cell 2 (.bool false) rfl;have x3:=D7.O.cell 3 (.int .i64 0) rfl;refine et hK ?_ (λ hS=>?_)
 ·exact⟨f1,f2⟩
 clear hK K;refine tT 5 hS ?_;refine sT 6 λ K hK=>?_;go_simp;refine ra hK ?_;clear hK K;refine nK bU ?_ _;have D8:=ag (D7.O.store 1 (.slice a2 x.val.length x.val.length) cP (il a1 x.key.length x.key.length a2 x.val.length x.val.length) rfl);clear f1 f2 f3 f4 x0 x1 x2 x3;obtain⟨f1,f2,f3,f4⟩:=D8.O.facts;have x0:=D8.O.cell 0 (.slice a1 x.key.length x.key.length) rfl;have x1:=D8.O.cell 1 (.slice a2 x.val.length x.val.length) rfl;have x2:=D8.O.cell 2 (.bool false) rfl;have x3:=D8.O.cell 3 (.int .i64 0) rfl
 go_wp2_with first
  |((with_reducible refine(D8.O.yP _ 1 rfl cP).mono ?_);rintro e w9 ⟨rfl,hd⟩;have D9:=ag hd;clear hd;clear f1 f2 f3 f4 x0 x1 x2 x3;obtain⟨f1,f2,f3,f4⟩:=D9.O.facts;have x0:=D9.O.cell 0 (.slice a1 x.key.length x.key.length) rfl;have x1:=D9.O.cell 1 (.slice a2 x.val.length x.val.length) rfl;have x2:=D9.O.cell 2 (.bool false) rfl;have x3:=D9.O.cell 3 (.int .i64 0) rfl;rw[show numOf [0]=0 by decide];have MY:=ag (D9.O.store 2 (.bool false) cP (il a1 x.key.length x.key.length a2 x.val.length x.val.length) rfl);obtain⟨g1,g2,g3,g4⟩:=MY.O.facts;have y0:=MY.O.cell 0 (.slice a1 x.key.length x.key.length) rfl;have y1:=MY.O.cell 1 (.slice a2 x.val.length x.val.length) rfl;have y2:=MY.O.cell 2 (.bool false) rfl;have y3:=MY.O.cell 3 (.int .i64 0) rfl)
  |((with_reducible refine(MY.O.yP _ 8 rfl lZ).mono ?_);rintro e w11 ⟨rfl,hd⟩;have MZ:=ag hd;clear hd;clear f1 f2 f3 f4 x0 x1 x2 x3;obtain⟨f1,f2,f3,f4⟩:=MZ.O.facts;have x0:=MZ.O.cell 0 (.slice a1 x.key.length x.key.length) rfl;have x1:=MZ.O.cell 1 (.slice a2 x.val.length x.val.length) rfl;have x2:=MZ.O.cell 2 (.bool false) rfl;have x3:=MZ.O.cell 3 (.int .i64 0) rfl;rw[show numOf (fK 8 0)=0 by decide];have LI:=ag (MZ.O.store 3 (.int .i64 0) cP (il a1 x.key.length x.key.length a2 x.val.length x.val.length) rfl);obtain⟨g1,g2,g3,g4⟩:=LI.O.facts;have y0:=LI.O.cell 0 (.slice a1 x.key.length x.key.length) rfl;have y1:=LI.O.cell 1 (.slice a2 x.val.length x.val.length) rfl;have y2:=LI.O.cell 2 (.bool false) rfl;have y3:=LI.O.cell 3 (.int .i64 0) rfl)
  |fail
 have LJ:=ag LI.O.drew;clear g1 g2 g3 g4 y0 y1 y2 y3;clear f1 f2 f3 f4 x0 x1 x2 x3;obtain⟨f1,f2,f3,f4⟩:=LJ.O.facts;have x0:=LJ.O.cell 0 (.slice a1 x.key.length x.key.length) rfl;have x1:=LJ.O.cell 1 (.slice a2 x.val.length x.val.length) rfl;have x2:=LJ.O.cell 2 (.bool false) rfl;have x3:=LJ.O.cell 3 (.int .i64 0) rfl;generalize sd:World.drew _=W13 at LJ f1 f2 f3 f4 x0 x1 x2 x3;refine ku 3 (λ w'=>w'.cell? (za w 0)=some (.slice a1 x.key.length x.key.length)/\w'.cell? (za w 1)=some (.slice a2 x.val.length x.val.length)/\w'.cell? (za w 2)=some (.bool false)/\w'.cell? (za w 3)=some (.int .i64 0)/\w'.cell? (za K 0)=some (.bool true)) bU (by rw[sd];exact⟨x0,x1,x2,x3,f3⟩) (λ hS=>?_);rw[sd]at hS⊢;clear sd;have DZ:=ag ((((LJ.O.store 0 (.slice a1 x.key.length x.key.length) cP (il a1 x.key.length x.key.length a2 x.val.length x.val.length) rfl).store 1 (.slice a2 x.val.length x.val.length) cP (il a1 x.key.length x.key.length a2 x.val.length x.val.length) rfl).store 2 (.bool false) cP (il a1 x.key.length x.key.length a2 x.val.length x.val.length) rfl).store 3 (.int .i64 0) cP (il a1 x.key.length x.key.length a2 x.val.length x.val.length) rfl);refine tT 0 hS ?_;refine tT 1 hS ?_;refine sT 2 λ K hK=>?_;go_simp;refine et hK ?_ (λ hS=>?_)
 ·exact⟨DZ.O.cell 0 (.slice a1 x.key.length x.key.length) rfl,DZ.O.cell 1 (.slice a2 x.val.length x.val.length) rfl,DZ.O.cell 2 (.bool false) rfl,DZ.O.cell 3 (.int .i64 0) rfl,DZ.O.facts.2.2.1⟩
 clear hK K;refine sT 3 λ K hK=>?_;go_simp;refine ra hK ?_;clear hK K;refine nK bU ?_ _
 go_wp2_with fail
 refine bodyPost_ret (v:=.tuple (zo (.agg (il a1 x.key.length x.key.length a2 x.val.length x.val.length)))) ?_ bp ?_
 ·have z0:=DZ.O.cell 0 (.slice a1 x.key.length x.key.length) rfl;have z1:=DZ.O.cell 1 (.slice a2 x.val.length x.val.length) rfl;have z2:=DZ.O.cell 2 (.bool false) rfl;have z3:=DZ.O.cell 3 (.int .i64 0) rfl;rw[results_cell_tmp rfl];go_simp
 ·exact⟨⟨a1,x.key,x.key.length,a2,x.val,x.val.length⟩,rfl,rfl,rfl,DZ.O.bytes (a1,x.key) cP,⟨DZ.O.bytes (a2,x.val) cP,rfl⟩,DZ.O.rest,DZ.O.only⟩
theorem PA(x:a8)(r:List Nat):kL x++r=[x.key.length]++(x.key++(fK 4 x.at_++(fK 4 x.count++(fK 4 0++(fK 8 0++(fK 8 0++(fK 8 0++(fK 8 0++r)))))))):=by simp[kL,tj]
theorem M0:∀(i n m:Nat),(fK i n).foldl (λ x c=>x*256+c) m=m*256^i+n%256^i
 |0,n,m=>by simp[fK,lL]
 |i+1,n,m=>by
  rw[fK,cD,M0 i n,cK,Nat.mod_mul,fB,Nat.mul_assoc,dr 256];rw[dr (256^i) (n/256^i%256)];omega
theorem FC(i n:Nat)(h:n<256^i):numOf (fK i n)=n:=by rw[numOf,M0,cl h];simp
theorem Wf{V:Vw}{R T:Nat}(x:a8)(r:List Nat)(hr:ix V w R (kL x++r))(hk:Boxed w K 4 (.bool true))(ht:Boxed w T 205 (zd K R))(hn:Boxed w N 355 (IE T))(dN:R≠K/\R≠T/\R≠N)(hs:(kL x++r).length<=1000000)(eb:x.at_<1000000)(jP:x.count<1000000):
 Calls Tryz.prog 225 (J7 (zp T) (zp N) (zp K)) w λ e w'=>∃y:a8,y.key=x.key/\y.at_=x.at_/\y.count=x.count/\e= .returned (.tuple #[y.v,.bool true])/\fL V y.ka y.key/\ix V w' R r/\dI R w w':=by
 have hl:=hs;rw[PA]at hr hs;have D0:=ag (Dg.start hr hk ht hn dN hs qq 144 (by intro j x;rcases j with _|_|_|_|_|_|_|_|j<;>simp));have C1:x.key.length<=1000000:=by simp[kL]at hl;omega
 have bY:IntKind.i64.wrap (x.key.length:Int)=(x.key.length:Int):=by rw[aI];omega
 have fH:IntKind.i64.wrap (x.at_:Int)=(x.at_:Int):=by rw[aI];omega
 have gV:IntKind.i64.wrap (x.count:Int)=(x.count:Int):=by rw[aI];omega
 have yJ:IntKind.i64.wrap 0=0:=by decide
 have cN:=ag (FC 4 x.at_ an);have bG:=ag (FC 4 x.count an);clear hr hk ht hn dN hs hl;obtain⟨f1,f2,f3,f4⟩:=D0.O.facts;have x0:=D0.O.cell 0 (.slice none 0 0) rfl;have x1:=D0.O.cell 1 (.int .i64 0) rfl;have x2:=D0.O.cell 2 (.int .i64 0) rfl;have x3:=D0.O.cell 3 (.int .i64 0) rfl;have x4:=D0.O.cell 4 (.int .i64 0) rfl;have x5:=D0.O.cell 5 (.int .u64 0) rfl;have x6:=D0.O.cell 6 (.int .i64 0) rfl;have x7:=D0.O.cell 7 (.int .i64 0) rfl;go_enter Tryz.func225,Tryz.ntmps225
 go_wp2_with fail
 have D1:=ag D0.O.drew;clear f1 f2 f3 f4 x0 x1 x2 x3 x4 x5 x6 x7;obtain⟨f1,f2,f3,f4⟩:=D1.O.facts;have x0:=D1.O.cell 0 (.slice none 0 0) rfl;have x1:=D1.O.cell 1 (.int .i64 0) rfl;have x2:=D1.O.cell 2 (.int .i64 0) rfl;have x3:=D1.O.cell 3 (.int .i64 0) rfl;have x4:=D1.O.cell 4 (.int .i64 0) rfl;have x5:=D1.O.cell 5 (.int .u64 0) rfl;have x6:=D1.O.cell 6 (.int .i64 0) rfl;have x7:=D1.O.cell 7 (.int .i64 0) rfl;generalize sd:World.drew _=W1 at D1 f1 f2 f3 f4 x0 x1 x2 x3 x4 x5 x6 x7;refine ku 6 (λ w'=>w'.cell? (za T 0)=some (.func (.func 220) #[] (oR (zp K) (zp R)))/\w'.cell? (za N 0)=some (.func (.func 221) #[] (iS (zp T)))) bU ⟨by rw[sd];exact f1,by rw[sd];exact f2⟩ (λ hS=>?_);rw[sd]at hS⊢;clear sd;refine tT 0 hS ?_;refine tT 1 hS ?_;refine sT 2 λ K hK=>?_;go_simp;(with_reducible refine(D1.O.yP _ 1 rfl cP).mono ?_);rintro e w2 ⟨rfl,hd⟩;have D2:=ag hd;clear hd;clear f1 f2 f3 f4 x0 x1 x2 x3 x4 x5 x6 x7;obtain⟨f1,f2,f3,f4⟩:=D2.O.facts;have x0:=D2.O.cell 0 (.slice none 0 0) rfl;have x1:=D2.O.cell 1 (.int .i64 0) rfl;have x2:=D2.O.cell 2 (.int .i64 0) rfl;have x3:=D2.O.cell 3 (.int .i64 0) rfl;have x4:=D2.O.cell 4 (.int .i64 0) rfl;have x5:=D2.O.cell 5 (.int .u64 0) rfl;have x6:=D2.O.cell 6 (.int .i64 0) rfl;have x7:=D2.O.cell 7 (.int .i64 0) rfl;rw[tJ];refine et hK ?_ (λ hS=>?_)
 ·exact⟨f1,f2⟩
 clear hK K;refine tT 3 hS ?_;refine sT 4 λ K hK=>?_;go_simp;(with_reducible refine(D2.O.Wd _).mono ?_);rintro e w3 ⟨a1,rfl,hd⟩;have D3:=ag hd;clear hd;clear f1 f2 f3 f4 x0 x1 x2 x3 x4 x5 x6 x7;obtain⟨f1,f2,f3,f4⟩:=D3.O.facts;have x0:=D3.O.cell 0 (.slice none 0 0) rfl;have x1:=D3.O.cell 1 (.int .i64 0) rfl;have x2:=D3.O.cell 2 (.int .i64 0) rfl;have x3:=D3.O.cell 3 (.int .i64 0) rfl;have x4:=D3.O.cell 4 (.int .i64 0) rfl;have x5:=D3.O.cell 5 (.int .u64 0) rfl;have x6:=D3.O.cell 6 (.int .i64 0) rfl;have x7:=D3.O.cell 7 (.int .i64 0) rfl;refine et hK ?_ (λ hS=>?_)
 ·exact⟨f1,f2⟩
 clear hK K;refine tT 5 hS ?_;refine sT 6 λ K hK=>?_;go_simp;refine ra hK ?_;clear hK K;refine nK bU ?_ _;have D4:=ag (D3.O.store 0 (.slice a1 x.key.length x.key.length) cP #[.slice a1 x.key.length x.key.length,.int .i64 0,.int .i64 0,.int .i64 0,.int .i64 0,.int .u64 0,.int .i64 0,.int .i64 0] rfl);clear f1 f2 f3 f4 x0 x1 x2 x3 x4 x5 x6 x7;obtain⟨f1,f2,f3,f4⟩:=D4.O.facts;have x0:=D4.O.cell 0 (.slice a1 x.key.length x.key.length) rfl;have x1:=D4.O.cell 1 (.int .i64 0) rfl;have x2:=D4.O.cell 2 (.int .i64 0) rfl;have x3:=D4.O.cell 3 (.int .i64 0) rfl;have x4:=D4.O.cell 4 (.int .i64 0) rfl;have x5:=D4.O.cell 5 (.int .u64 0) rfl;have x6:=D4.O.cell 6 (.int .i64 0) rfl;have x7:=D4.O.cell 7 (.int .i64 0) rfl
 go_wp2_with fail
 have D5:=ag D4.O.drew;clear f1 f2 f3 f4 x0 x1 x2 x3 x4 x5 x6 x7;obtain⟨f1,f2,f3,f4⟩:=D5.O.facts;have x0:=D5.O.cell 0 (.slice a1 x.key.length x.key.length) rfl;have x1:=D5.O.cell 1 (.int .i64 0) rfl;have x2:=D5.O.cell 2 (.int .i64 0) rfl;have x3:=D5.O.cell 3 (.int .i64 0) rfl;have x4:=D5.O.cell 4 (.int .i64 0) rfl;have x5:=D5.O.cell 5 (.int .u64 0) rfl;have x6:=D5.O.cell 6 (.int .i64 0) rfl;have x7:=D5.O.cell 7 (.int .i64 0) rfl;generalize sd:World.drew _=W5 at D5 f1 f2 f3 f4 x0 x1 x2 x3 x4 x5 x6 x7;refine ku 16 (λ w'=>w'.cell? (za T 0)=some (.func (.func 220) #[] (oR (zp K) (zp R)))/\w'.cell? (za N 0)=some (.func (.func 221) #[] (iS (zp T)))) bU ⟨by rw[sd];exact f1,by rw[sd];exact f2⟩ (λ hS=>?_);rw[sd]at hS⊢;clear sd;refine tT 0 hS ?_;refine tT 3 hS ?_;refine tT 6 hS ?_;refine sT 1 λ K hK=>?_;go_simp;(with_reducible refine(D5.O.yP _ 4 rfl lZ).mono ?_);rintro e w6 ⟨rfl,hd⟩;have D6:=ag hd;clear hd;clear f1 f2 f3 f4 x0 x1 x2 x3 x4 x5 x6 x7;obtain⟨f1,f2,f3,f4⟩:=D6.O.facts;have x0:=D6.O.cell 0 (.slice a1 x.key.length x.key.length) rfl;have x1:=D6.O.cell 1 (.int .i64 0) rfl;have x2:=D6.O.cell 2 (.int .i64 0) rfl;have x3:=D6.O.cell 3 (.int .i64 0) rfl;have x4:=D6.O.cell 4 (.int .i64 0) rfl;have x5:=D6.O.cell 5 (.int .u64 0) rfl;have x6:=D6.O.cell 6 (.int .i64 0) rfl;have x7:=D6.O.cell 7 (.int .i64 0) rfl;rw[cN.O];refine et hK ?_ (λ hS=>?_)
 ·exact⟨f1,f2⟩
 clear hK K;refine tT 2 hS ?_;refine tT 9 hS ?_;refine sT 4 λ K hK=>?_;go_simp;(with_reducible refine(D6.O.yP _ 4 rfl lZ).mono ?_);rintro e w7 ⟨rfl,hd⟩;have D7:=ag hd;clear hd;clear f1 f2 f3 f4 x0 x1 x2 x3 x4 x5 x6 x7;obtain⟨f1,f2,f3,f4⟩:=D7.O.facts;have x0:=D7.O.cell 0 (.slice a1 x.key.length x.key.length) rfl;have x1:=D7.O.cell 1 (.int .i64 0) rfl;have x2:=D7.O.cell 2 (.int .i64 0) rfl;have x3:=D7.O.cell 3 (.int .i64 0) rfl;have x4:=D7.O.cell 4 (.int .i64 0) rfl;have x5:=D7.O.cell 5 (.int .u64 0) rfl;have x6:=D7.O.cell 6 (.int .i64 0) rfl;have x7:=D7.O.cell 7 (.int .i64 0) rfl;rw[bG.O];refine et hK ?_ (λ hS=>?_)
 ·exact⟨f1,f2⟩
 clear hK K;refine tT 5 hS ?_;refine sT 7 λ K hK=>?_;go_simp;(with_reducible refine(D7.O.yP _ 4 rfl lZ).mono ?_);rintro e w8 ⟨rfl,hd⟩;have D8:=ag hd;clear hd;clear f1 f2 f3 f4 x0 x1 x2 x3 x4 x5 x6 x7;obtain⟨f1,f2,f3,f4⟩:=D8.O.facts;have x0:=D8.O.cell 0 (.slice a1 x.key.length x.key.length) rfl;have x1:=D8.O.cell 1 (.int .i64 0) rfl;have x2:=D8.O.cell 2 (.int .i64 0) rfl;have x3:=D8.O.cell 3 (.int .i64 0) rfl;have x4:=D8.O.cell 4 (.int .i64 0) rfl;have x5:=D8.O.cell 5 (.int .u64 0) rfl;have x6:=D8.O.cell 6 (.int .i64 0) rfl;have x7:=D8.O.cell 7 (.int .i64 0) rfl;rw[show numOf (fK 4 0)=0 by decide];have D9:=ag (D8.O.store 1 (.int .i64 (x.at_:Int)) cP #[.slice a1 x.key.length x.key.length,.int .i64 (x.at_:Int),.int .i64 0,.int .i64 0,.int .i64 0,.int .u64 0,.int .i64 0,.int .i64 0] rfl);obtain⟨g01,g02,g03,g04⟩:=D9.O.facts;have y00:=D9.O.cell 0 (.slice a1 x.key.length x.key.length) rfl;have y01:=D9.O.cell 1 (.int .i64 (x.at_:Int)) rfl;have y02:=D9.O.cell 2 (.int .i64 0) rfl;have y03:=D9.O.cell 3 (.int .i64 0) rfl;have y04:=D9.O.cell 4 (.int .i64 0) rfl;have y05:=D9.O.cell 5 (.int .u64 0) rfl;have y06:=D9.O.cell 6 (.int .i64 0) rfl;have y07:=D9.O.cell 7 (.int .i64 0) rfl;have MY:=ag (D9.O.store 2 (.int .i64 (x.count:Int)) cP (jl a1 x.key.length x.key.length x.at_ x.count) rfl);obtain⟨g11,g12,g13,g14⟩:=MY.O.facts;have y10:=MY.O.cell 0 (.slice a1 x.key.length x.key.length) rfl;have y11:=MY.O.cell 1 (.int .i64 (x.at_:Int)) rfl;have y12:=MY.O.cell 2 (.int .i64 (x.count:Int)) rfl;have y13:=MY.O.cell 3 (.int .i64 0) rfl;have y14:=MY.O.cell 4 (.int .i64 0) rfl;have y15:=MY.O.cell 5 (.int .u64 0) rfl;have y16:=MY.O.cell 6 (.int .i64 0) rfl;have y17:=MY.O.cell 7 (.int .i64 0) rfl;have MZ:=ag (MY.O.store 3 (.int .i64 0) cP (jl a1 x.key.length x.key.length x.at_ x.count) rfl);obtain⟨g21,g22,g23,g24⟩:=MZ.O.facts;have y20:=MZ.O.cell 0 (.slice a1 x.key.length x.key.length) rfl;have y21:=MZ.O.cell 1 (.int .i64 (x.at_:Int)) rfl;have y22:=MZ.O.cell 2 (.int .i64 (x.count:Int)) rfl;have y23:=MZ.O.cell 3 (.int .i64 0) rfl;have y24:=MZ.O.cell 4 (.int .i64 0) rfl;have y25:=MZ.O.cell 5 (.int .u64 0) rfl;have y26:=MZ.O.cell 6 (.int .i64 0) rfl;have y27:=MZ.O.cell 7 (.int .i64 0) rfl;refine et hK ?_ (λ hS=>?_)
 ·exact⟨f1,f2⟩
 clear hK K;refine tT 8 hS ?_;refine sT 10 λ K hK=>?_;go_simp;refine et hK ?_ (λ hS=>?_)
 ·exact⟨g01,g02⟩
 clear hK K;refine tT 11 hS ?_;refine tT 12 hS ?_;refine sT 13 λ K hK=>?_;go_simp;refine et hK ?_ (λ hS=>?_)
 ·exact⟨g11,g12⟩
 clear hK K;refine sT 14 λ K hK=>?_;go_simp;refine et hK hS (λ hS=>?_);clear hK K;refine tT 15 hS ?_;refine sT 16 λ K hK=>?_;go_simp;refine ra hK ?_;clear hK K;refine nK bU ?_ _
 go_wp2_with fail
 clear f1 f2 f3 f4 x0 x1 x2 x3 x4 x5 x6 x7;have LI:=ag MZ.O.drew;obtain⟨f1,f2,f3,f4⟩:=LI.O.facts;have x0:=LI.O.cell 0 (.slice a1 x.key.length x.key.length) rfl;have x1:=LI.O.cell 1 (.int .i64 (x.at_:Int)) rfl;have x2:=LI.O.cell 2 (.int .i64 (x.count:Int)) rfl;have x3:=LI.O.cell 3 (.int .i64 0) rfl;have x4:=LI.O.cell 4 (.int .i64 0) rfl;have x5:=LI.O.cell 5 (.int .u64 0) rfl;have x6:=LI.O.cell 6 (.int .i64 0) rfl;have x7:=LI.O.cell 7 (.int .i64 0) rfl;generalize sd:World.drew _=W12 at LI f1 f2 f3 f4 x0 x1 x2 x3 x4 x5 x6 x7;refine ku 10 (λ w'=>w'.cell? (za T 0)=some (.func (.func 220) #[] (oR (zp K) (zp R)))/\w'.cell? (za N 0)=some (.func (.func 221) #[] (iS (zp T)))) bU ⟨by rw[sd];exact f1,by rw[sd];exact f2⟩ (λ hS=>?_);rw[sd]at hS⊢;clear sd;refine tT 0 hS ?_;refine tT 3 hS ?_;refine sT 1 λ K hK=>?_;go_simp;(with_reducible refine(LI.O.yP _ 8 rfl lZ).mono ?_);rintro e w13 ⟨rfl,hd⟩;have LJ:=ag hd;clear hd;clear f1 f2 f3 f4 x0 x1 x2 x3 x4 x5 x6 x7;obtain⟨f1,f2,f3,f4⟩:=LJ.O.facts;have x0:=LJ.O.cell 0 (.slice a1 x.key.length x.key.length) rfl;have x1:=LJ.O.cell 1 (.int .i64 (x.at_:Int)) rfl;have x2:=LJ.O.cell 2 (.int .i64 (x.count:Int)) rfl;have x3:=LJ.O.cell 3 (.int .i64 0) rfl;have x4:=LJ.O.cell 4 (.int .i64 0) rfl;have x5:=LJ.O.cell 5 (.int .u64 0) rfl;have x6:=LJ.O.cell 6 (.int .i64 0) rfl;have x7:=LJ.O.cell 7 (.int .i64 0) rfl;rw[show numOf (fK 8 0)=0 by decide];refine et hK ?_ (λ hS=>?_)
 ·exact⟨f1,f2⟩
 clear hK K;refine tT 2 hS ?_;refine tT 5 hS ?_;refine tT 6 hS ?_;refine sT 4 λ K hK=>?_;go_simp;(with_reducible refine(LJ.O.yP _ 8 rfl lZ).mono ?_);rintro e w14 ⟨rfl,hd⟩;have Zd:=ag hd;clear hd;clear f1 f2 f3 f4 x0 x1 x2 x3 x4 x5 x6 x7;obtain⟨f1,f2,f3,f4⟩:=Zd.O.facts;have x0:=Zd.O.cell 0 (.slice a1 x.key.length x.key.length) rfl;have x1:=Zd.O.cell 1 (.int .i64 (x.at_:Int)) rfl;have x2:=Zd.O.cell 2 (.int .i64 (x.count:Int)) rfl;have x3:=Zd.O.cell 3 (.int .i64 0) rfl;have x4:=Zd.O.cell 4 (.int .i64 0) rfl;have x5:=Zd.O.cell 5 (.int .u64 0) rfl;have x6:=Zd.O.cell 6 (.int .i64 0) rfl;have x7:=Zd.O.cell 7 (.int .i64 0) rfl;rw[show numOf (fK 8 0)=0 by decide];have Ze:=ag (Zd.O.store 4 (.int .i64 0) cP (jl a1 x.key.length x.key.length x.at_ x.count) rfl);obtain⟨g01,g02,g03,g04⟩:=Ze.O.facts;have y00:=Ze.O.cell 0 (.slice a1 x.key.length x.key.length) rfl;have y01:=Ze.O.cell 1 (.int .i64 (x.at_:Int)) rfl;have y02:=Ze.O.cell 2 (.int .i64 (x.count:Int)) rfl;have y03:=Ze.O.cell 3 (.int .i64 0) rfl;have y04:=Ze.O.cell 4 (.int .i64 0) rfl;have y05:=Ze.O.cell 5 (.int .u64 0) rfl;have y06:=Ze.O.cell 6 (.int .i64 0) rfl;have y07:=Ze.O.cell 7 (.int .i64 0) rfl;have Zf:=ag (Ze.O.store 5 (.int .u64 0) cP (jl a1 x.key.length x.key.length x.at_ x.count) rfl);obtain⟨g11,g12,g13,g14⟩:=Zf.O.facts;have y10:=Zf.O.cell 0 (.slice a1 x.key.length x.key.length) rfl;have y11:=Zf.O.cell 1 (.int .i64 (x.at_:Int)) rfl;have y12:=Zf.O.cell 2 (.int .i64 (x.count:Int)) rfl;have y13:=Zf.O.cell 3 (.int .i64 0) rfl;have y14:=Zf.O.cell 4 (.int .i64 0) rfl;have y15:=Zf.O.cell 5 (.int .u64 0) rfl;have y16:=Zf.O.cell 6 (.int .i64 0) rfl;have y17:=Zf.O.cell 7 (.int .i64 0) rfl;refine et hK ?_ (λ hS=>?_)
 ·exact⟨f1,f2⟩
 clear hK K;refine sT 7 λ K hK=>?_;go_simp;refine et hK ?_ (λ hS=>?_)
 ·exact⟨g01,g02⟩
 clear hK K;refine sT 8 λ K hK=>?_;go_simp;refine et hK hS (λ hS=>?_);clear hK K;refine tT 9 hS ?_;refine sT 10 λ K hK=>?_;go_simp;refine ra hK ?_;clear hK K;refine nK bU ?_ _
 go_wp2_with fail
 clear f1 f2 f3 f4 x0 x1 x2 x3 x4 x5 x6 x7;have Wg:=ag Zf.O.drew;obtain⟨f1,f2,f3,f4⟩:=Wg.O.facts;have x0:=Wg.O.cell 0 (.slice a1 x.key.length x.key.length) rfl;have x1:=Wg.O.cell 1 (.int .i64 (x.at_:Int)) rfl;have x2:=Wg.O.cell 2 (.int .i64 (x.count:Int)) rfl;have x3:=Wg.O.cell 3 (.int .i64 0) rfl;have x4:=Wg.O.cell 4 (.int .i64 0) rfl;have x5:=Wg.O.cell 5 (.int .u64 0) rfl;have x6:=Wg.O.cell 6 (.int .i64 0) rfl;have x7:=Wg.O.cell 7 (.int .i64 0) rfl;generalize sd:World.drew _=W17 at Wg f1 f2 f3 f4 x0 x1 x2 x3 x4 x5 x6 x7;refine ku 11 (λ w'=>w'.cell? (za T 0)=some (.func (.func 220) #[] (oR (zp K) (zp R)))/\w'.cell? (za N 0)=some (.func (.func 221) #[] (iS (zp T)))) bU ⟨by rw[sd];exact f1,by rw[sd];exact f2⟩ (λ hS=>?_);rw[sd]at hS⊢;clear sd;refine tT 0 hS ?_;refine tT 3 hS ?_;refine sT 1 λ K hK=>?_;go_simp;(with_reducible refine(Wg.O.yP _ 8 rfl lZ).mono ?_);rintro e w18 ⟨rfl,hd⟩;have Zg:=ag hd;clear hd;clear f1 f2 f3 f4 x0 x1 x2 x3 x4 x5 x6 x7;obtain⟨f1,f2,f3,f4⟩:=Zg.O.facts;have x0:=Zg.O.cell 0 (.slice a1 x.key.length x.key.length) rfl;have x1:=Zg.O.cell 1 (.int .i64 (x.at_:Int)) rfl;have x2:=Zg.O.cell 2 (.int .i64 (x.count:Int)) rfl;have x3:=Zg.O.cell 3 (.int .i64 0) rfl;have x4:=Zg.O.cell 4 (.int .i64 0) rfl;have x5:=Zg.O.cell 5 (.int .u64 0) rfl;have x6:=Zg.O.cell 6 (.int .i64 0) rfl;have x7:=Zg.O.cell 7 (.int .i64 0) rfl;rw[show numOf (fK 8 0)=0 by decide];refine et hK ?_ (λ hS=>?_)
 ·exact⟨f1,f2⟩
 clear hK K;refine tT 2 hS ?_;refine tT 6 hS ?_;refine tT 7 hS ?_;refine sT 4 λ K hK=>?_;go_simp;(with_reducible refine(Zg.O.yP _ 8 rfl lZ).mono ?_);rintro e w19 ⟨rfl,hd⟩;have Zh:=ag hd;clear hd;clear f1 f2 f3 f4 x0 x1 x2 x3 x4 x5 x6 x7;obtain⟨f1,f2,f3,f4⟩:=Zh.O.facts;have x0:=Zh.O.cell 0 (.slice a1 x.key.length x.key.length) rfl;have x1:=Zh.O.cell 1 (.int .i64 (x.at_:Int)) rfl;have x2:=Zh.O.cell 2 (.int .i64 (x.count:Int)) rfl;have x3:=Zh.O.cell 3 (.int .i64 0) rfl;have x4:=Zh.O.cell 4 (.int .i64 0) rfl;have x5:=Zh.O.cell 5 (.int .u64 0) rfl;have x6:=Zh.O.cell 6 (.int .i64 0) rfl;have x7:=Zh.O.cell 7 (.int .i64 0) rfl;rw[show numOf (fK 8 0)=0 by decide];have Zi:=ag (Zh.O.store 6 (.int .i64 0) cP (jl a1 x.key.length x.key.length x.at_ x.count) rfl);obtain⟨g01,g02,g03,g04⟩:=Zi.O.facts;have y00:=Zi.O.cell 0 (.slice a1 x.key.length x.key.length) rfl;have y01:=Zi.O.cell 1 (.int .i64 (x.at_:Int)) rfl;have y02:=Zi.O.cell 2 (.int .i64 (x.count:Int)) rfl;have y03:=Zi.O.cell 3 (.int .i64 0) rfl;have y04:=Zi.O.cell 4 (.int .i64 0) rfl;have y05:=Zi.O.cell 5 (.int .u64 0) rfl;have y06:=Zi.O.cell 6 (.int .i64 0) rfl;have y07:=Zi.O.cell 7 (.int .i64 0) rfl;have Zj:=ag (Zi.O.store 7 (.int .i64 0) cP (jl a1 x.key.length x.key.length x.at_ x.count) rfl);obtain⟨g11,g12,g13,g14⟩:=Zj.O.facts;have y10:=Zj.O.cell 0 (.slice a1 x.key.length x.key.length) rfl;have y11:=Zj.O.cell 1 (.int .i64 (x.at_:Int)) rfl;have y12:=Zj.O.cell 2 (.int .i64 (x.count:Int)) rfl;have y13:=Zj.O.cell 3 (.int .i64 0) rfl;have y14:=Zj.O.cell 4 (.int .i64 0) rfl;have y15:=Zj.O.cell 5 (.int .u64 0) rfl;have y16:=Zj.O.cell 6 (.int .i64 0) rfl;have y17:=Zj.O.cell 7 (.int .i64 0) rfl;refine et hK ?_ (λ hS=>?_)
 ·exact⟨f1,f2⟩
 clear hK K;refine tT 5 hS ?_;refine sT 8 λ K hK=>?_;go_simp;refine et hK ?_ (λ hS=>?_)
 ·exact⟨g01,g02⟩
 clear hK K;refine sT 9 λ K hK=>?_;go_simp;refine et hK hS (λ hS=>?_);clear hK K;refine tT 10 hS ?_;refine sT 11 λ K hK=>?_;go_simp;refine ra hK ?_;clear hK K;refine nK bU ?_ _
 go_wp2_with fail
 have Wh:=ag Zj.O.drew;clear f1 f2 f3 f4 x0 x1 x2 x3 x4 x5 x6 x7;obtain⟨f1,f2,f3,f4⟩:=Wh.O.facts;have x0:=Wh.O.cell 0 (.slice a1 x.key.length x.key.length) rfl;have x1:=Wh.O.cell 1 (.int .i64 (x.at_:Int)) rfl;have x2:=Wh.O.cell 2 (.int .i64 (x.count:Int)) rfl;have x3:=Wh.O.cell 3 (.int .i64 0) rfl;have x4:=Wh.O.cell 4 (.int .i64 0) rfl;have x5:=Wh.O.cell 5 (.int .u64 0) rfl;have x6:=Wh.O.cell 6 (.int .i64 0) rfl;have x7:=Wh.O.cell 7 (.int .i64 0) rfl;generalize sd:World.drew _=W22 at Wh f1 f2 f3 f4 x0 x1 x2 x3 x4 x5 x6 x7;refine ku 3 (λ w'=>w'.cell? (za w 0)=some (.slice a1 x.key.length x.key.length)/\w'.cell? (za w 1)=some (.int .i64 (x.at_:Int))/\w'.cell? (za w 2)=some (.int .i64 (x.count:Int))/\w'.cell? (za w 3)=some (.int .i64 0)/\w'.cell? (za w 4)=some (.int .i64 0)/\w'.cell? (za w 5)=some (.int .u64 0)/\w'.cell? (za w 6)=some (.int .i64 0)/\w'.cell? (za w 7)=some (.int .i64 0)/\w'.cell? (za K 0)=some (.bool true)) bU (by rw[sd];exact⟨x0,x1,x2,x3,x4,x5,x6,x7,f3⟩) (λ hS=>?_);rw[sd]at hS⊢;clear sd;have DZ:=ag ((((((((Wh.O.store 0 (.slice a1 x.key.length x.key.length) cP (jl a1 x.key.length x.key.length x.at_ x.count) rfl).store 1 (.int .i64 (x.at_:Int)) cP (jl a1 x.key.length x.key.length x.at_ x.count) rfl).store 2 (.int .i64 (x.count:Int)) cP (jl a1 x.key.length x.key.length x.at_ x.count) rfl).store 3 (.int .i64 0) cP (jl a1 x.key.length x.key.length x.at_ x.count) rfl).store 4 (.int .i64 0) cP (jl a1 x.key.length x.key.length x.at_ x.count) rfl).store 5 (.int .u64 0) cP (jl a1 x.key.length x.key.length x.at_ x.count) rfl).store 6 (.int .i64 0) cP (jl a1 x.key.length x.key.length x.at_ x.count) rfl).store 7 (.int .i64 0) cP (jl a1 x.key.length x.key.length x.at_ x.count) rfl);refine tT 0 hS ?_;refine tT 1 hS ?_;refine sT 2 λ K hK=>?_;go_simp;refine et hK ?_ (λ hS=>?_)
 ·exact⟨DZ.O.cell 0 (.slice a1 x.key.length x.key.length) rfl,DZ.O.cell 1 (.int .i64 (x.at_:Int)) rfl,DZ.O.cell 2 (.int .i64 (x.count:Int)) rfl,DZ.O.cell 3 (.int .i64 0) rfl,DZ.O.cell 4 (.int .i64 0) rfl,DZ.O.cell 5 (.int .u64 0) rfl,DZ.O.cell 6 (.int .i64 0) rfl,DZ.O.cell 7 (.int .i64 0) rfl,DZ.O.facts.2.2.1⟩
 clear hK K;refine sT 3 λ K hK=>?_;go_simp;refine ra hK ?_;clear hK K;refine nK bU ?_ _
 go_wp2_with fail
 refine bodyPost_ret (v:=.tuple (zo (.agg (jl a1 x.key.length x.key.length x.at_ x.count)))) ?_ bp ?_
 ·have z0:=DZ.O.cell 0 (.slice a1 x.key.length x.key.length) rfl;have z1:=DZ.O.cell 1 (.int .i64 (x.at_:Int)) rfl;have z2:=DZ.O.cell 2 (.int .i64 (x.count:Int)) rfl;have z3:=DZ.O.cell 3 (.int .i64 0) rfl;have z4:=DZ.O.cell 4 (.int .i64 0) rfl;have z5:=DZ.O.cell 5 (.int .u64 0) rfl;have z6:=DZ.O.cell 6 (.int .i64 0) rfl;have z7:=DZ.O.cell 7 (.int .i64 0) rfl;rw[results_cell_tmp rfl];go_simp
 ·exact⟨⟨a1,x.key,x.key.length,x.at_,x.count⟩,rfl,rfl,rfl,rfl,DZ.O.bytes (a1,x.key) cP,DZ.O.rest,DZ.O.only⟩
theorem dI.next{R:Nat}{U V:World}(h:dI R U V)(k:Below U V W):dI R U W:=⟨k.os.T h.os,k.tape.T h.tape,k.output.T h.output,aj h.size k.size, λ i hi hr=>(k.block i hi).T (h.block i hi hr)⟩
theorem Jk{V:Vw}{wr W3:World}{R:Nat}(t e:TypeId)(z:Value)(sz bytes:Nat)(ht:Tryz.prog.underlying t=some (.slice e))(vw:(Tryz.prog.info? e).map (λ i=>(i.zero,i.size,i.bytes))=some (some z,sz,bytes))(vT:z.cells.size=sz)(kA:0<sz)(iL:bytes<=4096)
 (hR:R<w.heap.size)(hV:V.w.heap.size<=R)(hVw:Below V.w.heap.size V.w w)(ho:dI R w wr){a:az}(bA:wr.ownsRow w e sz (.slice a j c) j vs)(hj:j<=100)(o:Obj)(IF:dI R (wr.alloc o) w2){rest:List Nat}(oO:ix V w2 R rest)(hX:X=wr.heap.size)(hO:dI X w2 W3)(cells:Array Value)(fh:cells.size=sz)(h1:∀u∈cells.toList,u.oneCell'=true):
 ∃g' c' w5,(Builtin.append_ #[t,t] t (fP a j c (zp W3) 1 1)).run Tryz.prog (W3.alloc (.cells cells e))= .ok (.slice (zp g') (j+1) c') w5/\
  w5.ownsRow w e sz (.slice (zp g') (j+1) c') (j+1) (vs++cells.toList)/\ix V w5 R rest/\dI R w w5:=by
 have s2:wr.heap.size+1<=w2.heap.size:=by have:=IF.size;simpa using this
 have iU:∀k,k<wr.heap.size->k≠R->W3.heap[k]? =wr.heap[k]? := λ k hk u9=>
  (hO.block k an an).T ((IF.block k dU u9).T (aT wr o k hk))
 have gV:dI R w W3:=⟨hO.os.T (IF.os.T ho.os),hO.tape.T (IF.tape.T ho.tape),hO.output.T (IF.output.T ho.output),by have:=ho.size;have:=hO.size;omega, λ k hk u9=>(iU k (aA hk ho.size) u9).T (ho.block k hk u9)⟩;have aem:W3.ownsRow w e sz (.slice a j c) j vs:=iF bA λ g hg=>by
  rcases bg bA with⟨h1,_⟩|⟨g2,cur,h1,hb,jk⟩
  ·rw[hg]at h1;cases h1
  ·rw[hg]at h1;cases h1;exact iU _ (cS jk).1 an
 obtain⟨g',c',w5,eh,tK,dV, -, -, -⟩:=kZ (P:=Tryz.prog) t e z sz bytes ht vw vT kA (W:=W3) cells fh h1 aem an iL gV.size;have kY:dI R w w5:=gV.next dV
 obtain⟨B,q,cc,mM,Av,sc,zb⟩:=oO;refine⟨g',c',w5,eh,tK,⟨B,q,cc,?_,Av,zb.below (hVw.T (kY.below hV an)),zb⟩,kY⟩;have cu:W3.heap[R]? =w2.heap[R]? :=hO.block R mM.lt (cm ho.size);exact(dV.block R hR).T (cu.T mM)
theorem Tryz.mF:(Tryz.prog.info? 101).map (λ i=>(i.zero,i.size,i.bytes))=some (some (.agg oH),4,64):=bU
theorem wj(h:p:=by
 exact⟨⟨j+1,ys++[y],_,_,an,by simp,rfl,rfl,by simp[AU],ag (by rw[aL,HX.O];simp[rq.O,hsy.O]),ag (by simpa using hq.O.1),ag (λ z hz=>(aG.1 hz).elim (iL.O z) (λ h=>by rw[aE]at h;subst h;exact tk.O)),ag hq.O.2.1,ag hq.O.2.2⟩,by simp[intOf];omega⟩
 ):p:=h
theorem KA{V:Vw}{R T:Nat}(xs:List aH)(hr:ix V w R (xs.flatMap kB))(hk:Boxed w K 4 (.bool true))(ht:Boxed w T 205 (zd K R))(hn:Boxed w N 355 (IE T))(dN:R≠K/\R≠T/\R≠N)(hs:(xs.flatMap kB).length<=1000000)(hl:xs.length<=7)(hV:V.w.heap.size<=R)(hVw:Below V.w.heap.size V.w w):
 Calls Tryz.prog 222 (ZU xs.length (.func (.func 223) #[] (J7 (zp T) (zp N) (zp K)))) w λ e w'=>∃(ys:List aH) (a:az) (c:Nat),ys.map aH.key=xs.map aH.key/\ys.map aH.val=xs.map aH.val/\e= .returned (.tuple #[.slice a ys.length c,.bool true])/\w'.ownsRow w 101 4 (.slice a ys.length c) ys.length (ys.flatMap aH.cells)/\(∀y∈ys,fL V y.ka y.key/\(fL V y.va y.val/\y.vc=y.val.length))/\ix V w' R []/\dI R w w':=by
 have HK:=ag hk;have HT:=ag ht;have HN:=ag hn;have HR:=ag hr;have HVW:=ag hVw;have HRL:Hid (R<w.heap.size):=ag (by obtain⟨_,_,_,h,_⟩:=hr;exact h.lt);have HVR:=ag hV;have vd:=ag dN;have HS:=ag hs;clear hk ht hn hr hVw hV dN hs;go_enter Tryz.func222,Tryz.ntmps222
 go_wp2_with fail
 go_step3
 go_wp2_with fail
 go_step3
 go_wp2_with fail
 go_loopw [4,5,8] (λ rv bv iv wr=>∃(j:Nat) (ys:List aH) (a:az) (c:Nat),j<=xs.length/\iv= .int .i64 (j:Int)/\bv= .bool true/\rv= .slice a j c/\ys.length=j/\Hid (ys.map aH.key=(xs.take j).map aH.key/\ys.map aH.val=(xs.take j).map aH.val)/\Hid (wr.ownsRow w 101 4 (.slice a j c) j (ys.flatMap aH.cells))/\Hid (∀y∈ys,fL V y.ka y.key/\(fL V y.va y.val/\y.vc=y.val.length))/\Hid (ix V wr R ((xs.drop j).flatMap kB))/\Hid (dI R w wr)) (λ _ _ iv _=>xs.length - (intOf iv).toNat)
 case atStart=>exact⟨0,[],none,0,aD _,rfl,rfl,rfl,rfl,ag cP,ag ⟨by simp,.inl ⟨rfl,rfl⟩⟩,ag cP,ag (by simpa using HR.O),ag (dI.refl _ _)⟩
 case round=>
  obtain⟨j,ys,a,c,hj,rfl,rfl,rfl,AU,rq,bA,iL,sj,hO⟩:=hrel;by_cases cL:j<xs.length
  ·obtain⟨x,hx⟩:∃x,xs[j]? =some x:=⟨xs[j],by simp[cL]⟩;have mn:(j:Int)<(xs.length:Int):=an;have hj7:(j:Int)<=7:=an;have HD:Hid (xs.drop j=x::xs.drop (j+1)):=ag EK;have Zk:Hid (((xs.drop j).flatMap kB).length<=1000000):=ag (by
    have e:xs.flatMap kB=(xs.take j).flatMap kB++(xs.drop j).flatMap kB:=by rw[<-bV,bj]
    have:=HS.O;rw[e,ar]at this;omega)
   have HX:=ag hx;have HC:Hid (Calls Tryz.prog 223 (J7 (zp T) (zp N) (zp K)) (wr.alloc (.cells oH 101)) λ e w2=>∃y:aH,Hid (y.key=x.key/\y.val=x.val)/\e= .returned (.tuple (zo (.agg (il y.ka y.key.length y.kc y.va y.val.length y.vc))))/\Hid (fL V y.ka y.key/\(fL V y.va y.val/\y.vc=y.val.length))/\w2.heap[wr.heap.size]? =some (.cells oH 101)/\
    ∀W3,dI wr w2 W3->∃g' c' w5,(Builtin.append_ #[91,91] 91 (fP a j c (zp W3) 1 1)).run Tryz.prog (W3.alloc (.cells (il y.ka y.key.length y.kc y.va y.val.length y.vc) 101))= .ok (.slice (zp g') (j+1) c') w5/\
     Hid (w5.ownsRow w 101 4 (.slice (zp g') (j+1) c') (j+1) (ys.flatMap aH.cells++y.cells)/\ix V w5 R ((xs.drop (j+1)).flatMap kB)/\dI R w w5)):=ag (by
    have nt:Below wr wr (wr.alloc (.cells oH 101)):=(gb).alloc (cH) _;have Vx:=sj.O.below nt;have th:=Zk.O;rw[HD.O,bf]at Vx th;have hO0:dI R w (wr.alloc (.cells oH 101)):=hO.O.T (dI.bH nt);have dN:=vd.O;refine(We x _ Vx (hO0.boxed HK.O (dy dN.1)) (hO0.boxed HT.O (dy dN.2.1)) (hO0.boxed HN.O (dy dN.2.2)) dN th).mono ?_;rintro e w2 ⟨y,hp1,C0,rfl,cN,bG,oO,IF⟩;refine⟨y,ag ⟨hp1,C0⟩,rfl,ag ⟨cN,bG⟩,(IF.block wr cP (iX HRL.O hO.O.size)).T (ai wr _), λ W3 h3=>?_⟩;obtain⟨g',c',w5,eh,hq⟩:=Jk (W3:=W3) 91 101 (.agg oH) 4 64 bU Tryz.mF rfl de de HRL.O HVR.O HVW.O hO.O bA.O an _ IF oO rfl h3 (il y.ka y.key.length y.kc y.va y.val.length y.vc) rfl bz;exact⟨g',c',w5,eh,ag hq⟩)
   clear hx
   go_wp2_with first
    |((with_reducible refine HC.O.mono ?_);rintro e w2 ⟨y,hsy,rfl,tk,hX,eh⟩;have HXB:=ag hX;have x0:w2.cell? (za wr 0)=some (.slice none 0 0):=(af hX 0).T rfl;have x1:w2.cell? (za wr 1)=some (.slice none 0 0):=(af hX 1).T rfl;have x2:w2.cell? (za wr 2)=some (.bool false):=(af hX 2).T rfl;have x3:w2.cell? (za wr 3)=some (.int .i64 0):=(af hX 3).T rfl;have f0:=ax hX 0;have f1:=ax hX 1;have f2:=ax hX 2;have f3:=ax hX 3;have G4:=ag ((show((((w2.setCell (za wr 0) (.slice y.ka y.key.length y.kc)).setCell (za wr 1) (.slice y.va y.val.length y.vc)).setCell (za wr 2) (.bool false)).setCell (za wr 3) (.int .i64 0)).heap[wr.heap.size]? =some (.cells (il y.ka y.key.length y.kc y.va y.val.length y.vc) 101)by have:=(aU (j:=3) (.int .i64 0) (aU (j:=2) (.bool false) (aU (j:=1) (.slice y.va y.val.length y.vc) (aU (j:=0) (.slice y.ka y.key.length y.kc) HXB.O))));simpa using this));have z0:((((w2.setCell (za wr 0) (.slice y.ka y.key.length y.kc)).setCell (za wr 1) (.slice y.va y.val.length y.vc)).setCell (za wr 2) (.bool false)).setCell (za wr 3) (.int .i64 0)).cell? (za wr 0)=some (.slice y.ka y.key.length y.kc):=(af G4.O 0).T rfl;have z1:((((w2.setCell (za wr 0) (.slice y.ka y.key.length y.kc)).setCell (za wr 1) (.slice y.va y.val.length y.vc)).setCell (za wr 2) (.bool false)).setCell (za wr 3) (.int .i64 0)).cell? (za wr 1)=some (.slice y.va y.val.length y.vc):=(af G4.O 1).T rfl;have z2:((((w2.setCell (za wr 0) (.slice y.ka y.key.length y.kc)).setCell (za wr 1) (.slice y.va y.val.length y.vc)).setCell (za wr 2) (.bool false)).setCell (za wr 3) (.int .i64 0)).cell? (za wr 2)=some (.bool false):=(af G4.O 2).T rfl;have z3:((((w2.setCell (za wr 0) (.slice y.ka y.key.length y.kc)).setCell (za wr 1) (.slice y.va y.val.length y.vc)).setCell (za wr 2) (.bool false)).setCell (za wr 3) (.int .i64 0)).cell? (za wr 3)=some (.int .i64 0):=(af G4.O 3).T rfl;obtain⟨g',c',w5,DT,hq⟩:=eh _ (((((dI.refl _ _).T (dI.set _ 0 (.slice y.ka y.key.length y.kc))).T (dI.set _ 1 (.slice y.va y.val.length y.vc))).T (dI.set _ 2 (.bool false))).T (dI.set _ 3 (.int .i64 0)));simp only[World.size_setCell]at DT)
    |fail
   exact wj
  ·obtain rfl:j=xs.length:=an;rw[bd]at rq;rw[gH]at sj
   go_wp2_with fail
   rw[fo];go_ret2;exact⟨ys,a,c,rq.O.1,rq.O.2,by rw[AU];rfl,by rw[AU];exact bA.O,iL.O,sj.O,hO.O⟩
theorem Tryz.KB:(Tryz.prog.info? 144).map (λ i=>(i.zero,i.size,i.bytes))=some (some (.agg qq),8,80):=bU
theorem IG{V:Vw}{R T:Nat}(xs:List a8)(hr:ix V w R (xs.flatMap kL))(hk:Boxed w K 4 (.bool true))(ht:Boxed w T 205 (zd K R))(hn:Boxed w N 355 (IE T))(dN:R≠K/\R≠T/\R≠N)(hs:(xs.flatMap kL).length<=1000000)(hl:xs.length<=7)(hV:V.w.heap.size<=R)(hVw:Below V.w.heap.size V.w w)(Rg:∀x∈xs,x.at_<1000000/\x.count<1000000):
 Calls Tryz.prog 224 (ZU xs.length (.func (.func 225) #[] (J7 (zp T) (zp N) (zp K)))) w λ e w'=>∃(ys:List a8) (a:az) (c:Nat),ys.map a8.key=xs.map a8.key/\ys.map a8.at_=xs.map a8.at_/\ys.map a8.count=xs.map a8.count/\e= .returned (.tuple #[.slice a ys.length c,.bool true])/\w'.ownsRow w 144 8 (.slice a ys.length c) ys.length (ys.flatMap a8.cells)/\(∀y∈ys,fL V y.ka y.key)/\ix V w' R []/\dI R w w':=by
 have HK:=ag hk;have HT:=ag ht;have HN:=ag hn;have HR:=ag hr;have HVW:=ag hVw;have HRL:Hid (R<w.heap.size):=ag (by obtain⟨_,_,_,h,_⟩:=hr;exact h.lt);have HVR:=ag hV;have vd:=ag dN;have HXX:=ag Rg;have HS:=ag hs;clear hk ht hn hr hVw hV dN hs Rg;go_enter Tryz.func224,Tryz.ntmps224
 go_wp2_with fail
 go_step3
 go_wp2_with fail
 go_step3
 go_wp2_with fail
 go_loopw [4,5,8] (λ rv bv iv wr=>∃(j:Nat) (ys:List a8) (a:az) (c:Nat),j<=xs.length/\iv= .int .i64 (j:Int)/\bv= .bool true/\rv= .slice a j c/\ys.length=j/\Hid (ys.map a8.key=(xs.take j).map a8.key/\ys.map a8.at_=(xs.take j).map a8.at_/\ys.map a8.count=(xs.take j).map a8.count)/\Hid (wr.ownsRow w 144 8 (.slice a j c) j (ys.flatMap a8.cells))/\Hid (∀y∈ys,fL V y.ka y.key)/\Hid (ix V wr R ((xs.drop j).flatMap kL))/\Hid (dI R w wr)) (λ _ _ iv _=>xs.length - (intOf iv).toNat)
 case atStart=>exact⟨0,[],none,0,aD _,rfl,rfl,rfl,rfl,ag cP,ag ⟨by simp,.inl ⟨rfl,rfl⟩⟩,ag cP,ag (by simpa using HR.O),ag (dI.refl _ _)⟩
 case round=>
  obtain⟨j,ys,a,c,hj,rfl,rfl,rfl,AU,rq,bA,iL,sj,hO⟩:=hrel;by_cases cL:j<xs.length
  ·obtain⟨x,hx⟩:∃x,xs[j]? =some x:=⟨xs[j],by simp[cL]⟩;have mn:(j:Int)<(xs.length:Int):=an;have hj7:(j:Int)<=7:=an;have HD:Hid (xs.drop j=x::xs.drop (j+1)):=ag EK;have Zk:Hid (((xs.drop j).flatMap kL).length<=1000000):=ag (by
    have e:xs.flatMap kL=(xs.take j).flatMap kL++(xs.drop j).flatMap kL:=by rw[<-bV,bj]
    have:=HS.O;rw[e,ar]at this;omega)
   have HX:=ag hx;have HC:Hid (Calls Tryz.prog 225 (J7 (zp T) (zp N) (zp K)) (wr.alloc (.cells qq 144)) λ e w2=>∃y:a8,Hid (y.key=x.key/\y.at_=x.at_/\y.count=x.count)/\e= .returned (.tuple (zo (.agg (jl y.ka y.key.length y.kc y.at_ y.count))))/\Hid (fL V y.ka y.key)/\w2.heap[wr.heap.size]? =some (.cells qq 144)/\
    ∀W3,dI wr w2 W3->∃g' c' w5,(Builtin.append_ #[142,142] 142 (fP a j c (zp W3) 1 1)).run Tryz.prog (W3.alloc (.cells (jl y.ka y.key.length y.kc y.at_ y.count) 144))= .ok (.slice (zp g') (j+1) c') w5/\
     Hid (w5.ownsRow w 144 8 (.slice (zp g') (j+1) c') (j+1) (ys.flatMap a8.cells++y.cells)/\ix V w5 R ((xs.drop (j+1)).flatMap kL)/\dI R w w5)):=ag (by
    have nt:Below wr wr (wr.alloc (.cells qq 144)):=(gb).alloc (cH) _;have Vx:=sj.O.below nt;have th:=Zk.O;rw[HD.O,bf]at Vx th;have hO0:dI R w (wr.alloc (.cells qq 144)):=hO.O.T (dI.bH nt);have dN:=vd.O;refine(Wf x _ Vx (hO0.boxed HK.O (dy dN.1)) (hO0.boxed HT.O (dy dN.2.1)) (hO0.boxed HN.O (dy dN.2.2)) dN th (HXX.O x (ak HX.O)).1 (HXX.O x (ak HX.O)).2).mono ?_;rintro e w2 ⟨y,hp1,C0,hp3,rfl,cN,oO,IF⟩;refine⟨y,ag ⟨hp1,C0,hp3⟩,rfl,ag cN,(IF.block wr cP (iX HRL.O hO.O.size)).T (ai wr _), λ W3 h3=>?_⟩;obtain⟨g',c',w5,eh,hq⟩:=Jk (W3:=W3) 142 144 (.agg qq) 8 80 bU Tryz.KB rfl de de HRL.O HVR.O HVW.O hO.O bA.O an _ IF oO rfl h3 (jl y.ka y.key.length y.kc y.at_ y.count) rfl bz;exact⟨g',c',w5,eh,ag hq⟩)
   clear hx
   go_wp2_with first
    |((with_reducible refine HC.O.mono ?_);rintro e w2 ⟨y,hsy,rfl,tk,hX,eh⟩;have HXB:=ag hX;have x0:w2.cell? (za wr 0)=some (.slice none 0 0):=(af hX 0).T rfl;have x1:w2.cell? (za wr 1)=some (.int .i64 0):=(af hX 1).T rfl;have x2:w2.cell? (za wr 2)=some (.int .i64 0):=(af hX 2).T rfl;have x3:w2.cell? (za wr 3)=some (.int .i64 0):=(af hX 3).T rfl;have x4:w2.cell? (za wr 4)=some (.int .i64 0):=(af hX 4).T rfl;have x5:w2.cell? (za wr 5)=some (.int .u64 0):=(af hX 5).T rfl;have x6:w2.cell? (za wr 6)=some (.int .i64 0):=(af hX 6).T rfl;have x7:w2.cell? (za wr 7)=some (.int .i64 0):=(af hX 7).T rfl;have f0:=ax hX 0;have f1:=ax hX 1;have f2:=ax hX 2;have f3:=ax hX 3;have f4:=ax hX 4;have f5:=ax hX 5;have f6:=ax hX 6;have f7:=ax hX 7;have G4:=ag ((show((((((((w2.setCell (za wr 0) (.slice y.ka y.key.length y.kc)).setCell (za wr 1) (.int .i64 (y.at_:Int))).setCell (za wr 2) (.int .i64 (y.count:Int))).setCell (za wr 3) (.int .i64 0)).setCell (za wr 4) (.int .i64 0)).setCell (za wr 5) (.int .u64 0)).setCell (za wr 6) (.int .i64 0)).setCell (za wr 7) (.int .i64 0)).heap[wr.heap.size]? =some (.cells (jl y.ka y.key.length y.kc y.at_ y.count) 144)by have:=(aU (j:=7) (.int .i64 0) (aU (j:=6) (.int .i64 0) (aU (j:=5) (.int .u64 0) (aU (j:=4) (.int .i64 0) (aU (j:=3) (.int .i64 0) (aU (j:=2) (.int .i64 (y.count:Int)) (aU (j:=1) (.int .i64 (y.at_:Int)) (aU (j:=0) (.slice y.ka y.key.length y.kc) HXB.O))))))));simpa using this));have z0:((((((((w2.setCell (za wr 0) (.slice y.ka y.key.length y.kc)).setCell (za wr 1) (.int .i64 (y.at_:Int))).setCell (za wr 2) (.int .i64 (y.count:Int))).setCell (za wr 3) (.int .i64 0)).setCell (za wr 4) (.int .i64 0)).setCell (za wr 5) (.int .u64 0)).setCell (za wr 6) (.int .i64 0)).setCell (za wr 7) (.int .i64 0)).cell? (za wr 0)=some (.slice y.ka y.key.length y.kc):=(af G4.O 0).T rfl;have z1:((((((((w2.setCell (za wr 0) (.slice y.ka y.key.length y.kc)).setCell (za wr 1) (.int .i64 (y.at_:Int))).setCell (za wr 2) (.int .i64 (y.count:Int))).setCell (za wr 3) (.int .i64 0)).setCell (za wr 4) (.int .i64 0)).setCell (za wr 5) (.int .u64 0)).setCell (za wr 6) (.int .i64 0)).setCell (za wr 7) (.int .i64 0)).cell? (za wr 1)=some (.int .i64 (y.at_:Int)):=(af G4.O 1).T rfl;have z2:((((((((w2.setCell (za wr 0) (.slice y.ka y.key.length y.kc)).setCell (za wr 1) (.int .i64 (y.at_:Int))).setCell (za wr 2) (.int .i64 (y.count:Int))).setCell (za wr 3) (.int .i64 0)).setCell (za wr 4) (.int .i64 0)).setCell (za wr 5) (.int .u64 0)).setCell (za wr 6) (.int .i64 0)).setCell (za wr 7) (.int .i64 0)).cell? (za wr 2)=some (.int .i64 (y.count:Int)):=(af G4.O 2).T rfl;have z3:((((((((w2.setCell (za wr 0) (.slice y.ka y.key.length y.kc)).setCell (za wr 1) (.int .i64 (y.at_:Int))).setCell (za wr 2) (.int .i64 (y.count:Int))).setCell (za wr 3) (.int .i64 0)).setCell (za wr 4) (.int .i64 0)).setCell (za wr 5) (.int .u64 0)).setCell (za wr 6) (.int .i64 0)).setCell (za wr 7) (.int .i64 0)).cell? (za wr 3)=some (.int .i64 0):=(af G4.O 3).T rfl;have z4:((((((((w2.setCell (za wr 0) (.slice y.ka y.key.length y.kc)).setCell (za wr 1) (.int .i64 (y.at_:Int))).setCell (za wr 2) (.int .i64 (y.count:Int))).setCell (za wr 3) (.int .i64 0)).setCell (za wr 4) (.int .i64 0)).setCell (za wr 5) (.int .u64 0)).setCell (za wr 6) (.int .i64 0)).setCell (za wr 7) (.int .i64 0)).cell? (za wr 4)=some (.int .i64 0):=(af G4.O 4).T rfl;have z5:((((((((w2.setCell (za wr 0) (.slice y.ka y.key.length y.kc)).setCell (za wr 1) (.int .i64 (y.at_:Int))).setCell (za wr 2) (.int .i64 (y.count:Int))).setCell (za wr 3) (.int .i64 0)).setCell (za wr 4) (.int .i64 0)).setCell (za wr 5) (.int .u64 0)).setCell (za wr 6) (.int .i64 0)).setCell (za wr 7) (.int .i64 0)).cell? (za wr 5)=some (.int .u64 0):=(af G4.O 5).T rfl;have z6:((((((((w2.setCell (za wr 0) (.slice y.ka y.key.length y.kc)).setCell (za wr 1) (.int .i64 (y.at_:Int))).setCell (za wr 2) (.int .i64 (y.count:Int))).setCell (za wr 3) (.int .i64 0)).setCell (za wr 4) (.int .i64 0)).setCell (za wr 5) (.int .u64 0)).setCell (za wr 6) (.int .i64 0)).setCell (za wr 7) (.int .i64 0)).cell? (za wr 6)=some (.int .i64 0):=(af G4.O 6).T rfl;have z7:((((((((w2.setCell (za wr 0) (.slice y.ka y.key.length y.kc)).setCell (za wr 1) (.int .i64 (y.at_:Int))).setCell (za wr 2) (.int .i64 (y.count:Int))).setCell (za wr 3) (.int .i64 0)).setCell (za wr 4) (.int .i64 0)).setCell (za wr 5) (.int .u64 0)).setCell (za wr 6) (.int .i64 0)).setCell (za wr 7) (.int .i64 0)).cell? (za wr 7)=some (.int .i64 0):=(af G4.O 7).T rfl;obtain⟨g',c',w5,DT,hq⟩:=eh _ (((((((((dI.refl _ _).T (dI.set _ 0 (.slice y.ka y.key.length y.kc))).T (dI.set _ 1 (.int .i64 (y.at_:Int)))).T (dI.set _ 2 (.int .i64 (y.count:Int)))).T (dI.set _ 3 (.int .i64 0))).T (dI.set _ 4 (.int .i64 0))).T (dI.set _ 5 (.int .u64 0))).T (dI.set _ 6 (.int .i64 0))).T (dI.set _ 7 (.int .i64 0)));simp only[World.size_setCell]at DT)
    |fail
   exact wj
  ·obtain rfl:j=xs.length:=an;rw[bd]at rq;rw[gH]at sj
   go_wp2_with fail
   rw[fo];go_ret2;exact⟨ys,a,c,rq.O.1,rq.O.2.1,rq.O.2.2,by rw[AU];rfl,by rw[AU];exact bA.O,iL.O,sj.O,hO.O⟩
theorem wm{α:Type}(f:α->List Value)(m:Nat)(hf:∀x,(f x).length=m):∀(xs:List α) (j:Nat) (x:α) (i:Nat) (v:Value),xs[j]? =some x->(f x)[i]? =some v->(xs.flatMap f)[j*m+i]? =some v
 |[],_,_,_,_,h,_=>by simp at h
 |y::xs,0,x,i,v,h,hi=>by
  simp only[eW,dz]at h;subst h;have hl:=(aC.1 hi).1;simp only[bf,cY,aN];rw[cO hl];exact hi
 |y::xs,j+1,x,i,v,h,hi=>by
  have ih:=wm f m hf xs j x i v jy hi;simp only[bf];have e:(j+1)*m+i=m+(j*m+i):=by rw[fB,Nat.one_mul];omega
  rw[e,bJ (by rw[hf];omega),hf,fU];exact ih
theorem Ew{a:az}(h:W.ownsRow n₀ e sz (.slice a k c) k vs):vs=[]\/∃g,a=some ⟨g,0,none⟩/\n₀<=g/\g<W.heap.size/\∀(j:Nat) (v:Value),vs[j]? =some v->W.cell? ⟨g,j,none⟩=some v:=by
 rcases h.2 with⟨h2,h3⟩|⟨g',cap,cur,h2,hb,hg,_,_,_,ht⟩
 ·cases h2;refine .inl ?_;have:=h.1;simp_all
 ·cases h2;refine .inr ⟨g',rfl,hb,(cS hg).1, λ j v hj=>?_⟩;rw[<-ht,bB]at hj;split at hj
  ·simp only[World.cell?,hg];simpa using hj
  ·cases hj
theorem qC{a:az}(h:W.ownsRow n₀ 101 4 (.slice a k c) k (ys.flatMap aH.cells))(hb:∀y∈ys,ay W y.ka y.key/\ay W y.va y.val):ec W a ys:=by
 refine⟨?_,hb⟩;rcases Ew h with h0|⟨g,rfl, -, -,hc⟩
 ·refine .inl ?_;cases ys with
  |nil=>rfl
  |cons y ys=>simp[aH.cells]at h0
 ·refine .inr ⟨g,0,rfl, λ j x hj=>?_⟩;have hg:= λ i v hi=>hc _ _ (wm aH.cells 4 (λ _=>rfl) ys j x i v hj hi);simp only[aN];exact⟨hg 0 _ rfl,hg 1 _ rfl,hg 2 _ rfl,hg 3 _ rfl⟩
theorem Dh{a:az}{ys:List a8}(h:W.ownsRow n₀ 144 8 (.slice a k c) k (ys.flatMap a8.cells))(hb:∀y∈ys,ay W y.ka y.key):kJ W a ys:=by
 refine⟨?_,hb⟩;rcases Ew h with h0|⟨g,rfl, -, -,hc⟩
 ·refine .inl ?_;cases ys with
  |nil=>rfl
  |cons y ys=>simp[a8.cells]at h0
 ·refine .inr ⟨g,0,rfl, λ j x hj i v hi=>?_⟩;simp only[aN];exact hc _ _ (wm a8.cells 8 (λ _=>rfl) ys j x i v hj hi)
def iQ(W:World)(n₀:Nat)(a:az)(k:Nat)(ys:List aH):Prop:=W.ownsRow n₀ 101 4 (.slice a ys.length k) ys.length (ys.flatMap aH.cells)/\∀y∈ys,(ay W y.ka y.key/\ay W y.va y.val)/\eZ n₀ y.ka/\eZ n₀ y.va/\y.vc=y.val.length
def lx(W:World)(n₀:Nat)(a:az)(k:Nat)(ys:List a8):Prop:=W.ownsRow n₀ 144 8 (.slice a ys.length k) ys.length (ys.flatMap a8.cells)/\∀y∈ys,ay W y.ka y.key/\eZ n₀ y.ka
theorem me{e:Nat}{v:Value}(h:W.ownsRow n₀ e sz v k vs)(hn:eE<=n₀):W.ownsRow eE e sz v k vs:=by
 refine⟨h.1,?_⟩;rcases h.2 with h2|⟨g,cap,cur,hv,hb,hg⟩
 ·exact .inl h2
 ·exact .inr ⟨g,cap,cur,hv,aj hn hb,hg⟩
theorem abL{a:az}(h:W.ownsRow n₀ 101 4 (.slice a ys.length k) ys.length (ys.flatMap aH.cells))(hn:eE<=n₀)(hb:∀y∈ys,(ay W y.ka y.key/\ay W y.va y.val)/\eZ eE y.ka/\eZ eE y.va/\y.vc=y.val.length):iQ W eE a k ys:=⟨me h hn,hb⟩
theorem aen{a:az}{ys:List a8}(h:W.ownsRow n₀ 144 8 (.slice a ys.length k) ys.length (ys.flatMap a8.cells))(hn:eE<=n₀)(hb:∀y∈ys,ay W y.ka y.key/\eZ eE y.ka):lx W eE a k ys:=⟨me h hn,hb⟩
theorem iQ.at{a:az}(h:iQ W n₀ a k ys):ec W a ys:=qC h.1 λ y hy=>(h.2 y hy).1
theorem lx.at{a:az}{ys:List a8}(h:lx W n₀ a k ys):kJ W a ys:=Dh h.1 λ y hy=>(h.2 y hy).1
theorem iQ.below{W W':World}{n₀ k:Nat}{a:az}{ys:List aH}(h:iQ W n₀ a k ys)(hb:Below W W W'):iQ W' n₀ a k ys:=⟨dC.row hb h.1, λ y hy=>⟨⟨(h.2 y hy).1.1.below hb,(h.2 y hy).1.2.below hb⟩,(h.2 y hy).2⟩⟩
theorem lx.below{W W':World}{n₀ k:Nat}{a:az}{ys:List a8}(h:lx W n₀ a k ys)(hb:Below W W W'):lx W' n₀ a k ys:=⟨dC.row hb h.1, λ y hy=>⟨(h.2 y hy).1.below hb,(h.2 y hy).2⟩⟩
theorem iQ.zT{a:az}(h:iQ W n₀ a k ys)(hn:eE<=n₀):iQ W eE a k ys:=⟨me h.1 hn, λ y hy=>⟨(h.2 y hy).1,(h.2 y hy).2.1.mono hn,(h.2 y hy).2.2.1.mono hn,(h.2 y hy).2.2.2⟩⟩
theorem lx.zT{a:az}{ys:List a8}(h:lx W n₀ a k ys)(hn:eE<=n₀):lx W eE a k ys:=⟨me h.1 hn, λ y hy=>⟨(h.2 y hy).1,(h.2 y hy).2.mono hn⟩⟩
theorem fL.fresh{V:Vw}{a:az}(h:fL V a xs)(hn:n₀<=V.z):eZ n₀ a:= λ p e=>by rw[h.2 p e];exact hn
theorem Rm{R:Nat}(hk:∀j,j≠R->W'.heap[j]? =W.heap[j]?){fz:Nat×Nat}(hR:W.heap[R]? =some (.cells cs t fz))(Iq:t≠e){a:az}(h:W.ownsRow n₀ e sz (.slice a j c) j vs):W'.ownsRow n₀ e sz (.slice a j c) j vs:=iF h λ g hg=>by
 rcases bg h with⟨h1,_⟩|⟨g2,cur,h1,hb,jk⟩
 ·rw[hg]at h1;cases h1
 ·rw[hg]at h1;cases h1;refine hk _ ?_;rintro rfl;rw[hR]at jk;injection jk with h5;injection h5 with _ h6 _;exact Iq h6
theorem iQ.Di{R:Nat}(hk:∀j,j≠R->W'.heap[j]? =W.heap[j]?){fz:Nat×Nat}(hR:W.heap[R]? =some (.cells cs t fz))(Iq:t≠101)(h8:∀(j x:Nat),cs[j]? ≠some (.int .u8 (x:Int))){a:az}(h:iQ W n₀ a k ys):iQ W' n₀ a k ys:=
 ⟨Rm hk hR Iq h.1, λ y hy=>⟨⟨gQ hk hR h8 (h.2 y hy).1.1,gQ hk hR h8 (h.2 y hy).1.2⟩,(h.2 y hy).2⟩⟩
theorem lx.Di{R:Nat}(hk:∀j,j≠R->W'.heap[j]? =W.heap[j]?){fz:Nat×Nat}(hR:W.heap[R]? =some (.cells cs t fz))(Iq:t≠144)(h8:∀(j x:Nat),cs[j]? ≠some (.int .u8 (x:Int))){a:az}{ys:List a8}(h:lx W n₀ a k ys):lx W' n₀ a k ys:=
 ⟨Rm hk hR Iq h.1, λ y hy=>⟨gQ hk hR h8 (h.2 y hy).1,(h.2 y hy).2⟩⟩
theorem Jl:∀(xs ys:List aH),ys.map aH.key=xs.map aH.key->ys.map aH.val=xs.map aH.val->ys.flatMap kB=xs.flatMap kB
 |[],[],_,_=>rfl
 |[],_::_,h,_=>by simp at h
 |_::_,[],h,_=>by simp at h
 |x::xs,y::ys,h1,h2=>by
  simp only[bF,eK]at h1 h2;rw[bf,bf,Jl xs ys h1.2 h2.2];simp only[kB,h1.1,h2.1]
theorem Jm:∀(xs ys:List a8),ys.map a8.key=xs.map a8.key->ys.map a8.at_=xs.map a8.at_->ys.map a8.count=xs.map a8.count->ys.flatMap kL=xs.flatMap kL
 |[],[],_,_,_=>rfl
 |[],_::_,h,_,_=>by simp at h
 |_::_,[],h,_,_=>by simp at h
 |x::xs,y::ys,h1,h2,h3=>by
  simp only[bF,eK]at h1 h2 h3;rw[bf,bf,Jm xs ys h1.2 h2.2 h3.2];simp only[kL,h1.1,h2.1,h3.1]
theorem Jn(iL:ay w (some ⟨B,o,none⟩) xs)(mV:xs.length<=c)(hs:xs.length<=1000000):
 Dg ⟨w,B⟩ w (((((w.alloc (.cells jR 147)).alloc (.cells (sg (some ⟨B,o,none⟩) xs.length c) 28)).alloc (.cells #[.bool true] 4)).alloc (.cells #[zd (w+1+1) (w+1)] 205)).alloc (.cells #[IE (w+1+1+1)] 355))
  (w+1) (w+1+1) (w+1+1+1) (w+1+1+1+1) w xs jR 147 []:=by
 have hb:Below w w (((((w.alloc (.cells jR 147)).alloc (.cells (sg (some ⟨B,o,none⟩) xs.length c) 28)).alloc (.cells #[.bool true] 4)).alloc (.cells #[zd (w+1+1) (w+1)] 205)).alloc (.cells #[IE (w+1+1+1)] 355)):=by go_grown
 have key:∀(w1:World) (n:Nat) (x:Obj),n=w1.heap.size->(w1.alloc x).heap[n]? =some x:= λ w1 n x e=>e▸ai w1 x;refine⟨⟨B,o,c,?_,mV,iL.below hb,⟨iL, λ p e=>by cases e;rfl⟩⟩,?_,?_,?_,an,hs,?_,by intro j x;rcases j with _|_|_|j<;>simp,dI.bH hb,cH,by simp⟩
 ·exact(aT _ _ _ dt).T ((aT _ _ _ dt).T ((aT _ _ _ cP).T (key _ _ _ cP)))
 ·exact(aT _ _ _ dt).T ((aT _ _ _ cP).T (key _ _ _ cP))
 ·exact(aT _ _ _ cP).T (key _ _ _ cP)
 ·exact key _ _ _ cP
 ·exact(aT _ _ _ dt).T ((aT _ _ _ dt).T ((aT _ _ _ dt).T ((aT _ _ _ cP).T (key _ _ _ rfl))))
theorem nO.same{xs:List aH}(ho:nO xs)(yI:∀x∈xs,1<=x.val.length)(hs:ys.map aH.key=xs.map aH.key/\ys.map aH.val=xs.map aH.val):nO ys/\(∀y∈ys,1<=y.val.length)/\dc ys=dc xs:=by
 have hlen:ys.length=xs.length:=by have:=congrArg List.length hs.1;simpa using this
 have Kz:∀y∈ys,∃x∈xs,y.key=x.key/\y.val=x.val:= λ y hy=>by
  obtain⟨j,hj⟩:=dE.1 hy;have h1:=congrArg (λ l=>l[j]?) hs.1;have h2:=congrArg (λ l=>l[j]?) hs.2;simp only[aW,hj,eM]at h1 h2;cases hx:xs[j]? with
  |none=>rw[hx]at h1;cases h1
  |some x=>
   rw[hx]at h1 h2;exact⟨x,ak hx,by simpa using h1,by simpa using h2⟩
 refine⟨⟨by have:=ho.MK;omega,by have:=ho.mE;omega, λ y hy=>?_,by rw[hs.1];exact ho.zM⟩, λ y hy=>?_,?_⟩
 ·obtain⟨x,hx,h1,h2⟩:=Kz y hy;rw[h1,h2];exact ho.key x hx
 ·obtain⟨x,hx,h1,h2⟩:=Kz y hy;rw[h2];exact yI x hx
 ·unfold dc;rw[hlen,Jl xs ys hs.1 hs.2]
theorem wu(h:p:=by
 rcases bg tK with⟨h1,_⟩|⟨g2,cur,h1,hb,jk⟩
 ·rw[hg]at h1;cases h1
 ·rw[hg]at h1;cases h1;exact(cS jk).1
 ):p:=h
theorem wy(h:p:=by
 rcases bg bA with⟨h1,_⟩|⟨g2,cur,h1,hb,jk⟩
 ·rw[hg]at h1;cases h1
 ·rw[hg]at h1;cases h1;exact(h5o _ an).T (hAo _ an)
 ):p:=h
theorem wD(h:p:=by
 have hgX:g≠w.heap.size:=by
  rcases bg tK with⟨h1,_⟩|⟨g2,cur,h1,hb,jk⟩
  ·rw[hg]at h1;cases h1
  ·rw[hg]at h1;cases h1;omega
 exact(aq _ _ _ _ hgX).T ((aq _ _ _ _ hgX).T (aq _ _ _ _ hgX))
 ):p:=h
theorem Wi{xs:List aH}{rest:List Nat}{a:az}(n₀:Nat)(LH:n₀<=B)(KC:n₀<=w.heap.size)(hd:Dg ⟨w,B⟩ w w3 (w+1) (w+1+1) (w+1+1+1) (w+1+1+1+1) w rest jR 147 [])
 (BU:dI (w+1) (w3.alloc (.cells Sr 147)) w4)(bA:w4.ownsRow (w3+1) 101 4 (.slice a ys.length k) ys.length (ys.flatMap aH.cells))(ho:nO xs)(yI:∀x∈xs,1<=x.val.length)(hs:ys.map aH.key=xs.map aH.key/\ys.map aH.val=xs.map aH.val)(AU:ys.length=xs.length)(tk:∀y∈ys,fL ⟨w,B⟩ y.ka y.key/\(fL ⟨w,B⟩ y.va y.val/\y.vc=y.val.length))(iL:ay w (some ⟨B,o,none⟩) (dc xs)):
 (w4.cell? (za w3 0)=some (.bool true)/\w4.cell? (za w3 1)=some (.slice none 0 0)/\w4.cell? (za w3 2)=some (.slice none 0 0)/\w4.frozen? ⟨w3.heap.size,1,none⟩=false/\
   (w4.setCell (za w3 1) (.slice a ys.length k)).cell? (za (w+1+1) 0)=some (.bool true)/\(w4.setCell (za w3 1) (.slice a ys.length k)).frozen? ⟨w.heap.size+1+1,0,none⟩=false/\
   ((w4.setCell (za w3 1) (.slice a ys.length k)).setCell (za (w+1+1) 0) (.bool true)).cell? (za w3 0)=some (.bool true)/\((w4.setCell (za w3 1) (.slice a ys.length k)).setCell (za (w+1+1) 0) (.bool true)).cell? (za w3 1)=some (.slice a ys.length k)/\((w4.setCell (za w3 1) (.slice a ys.length k)).setCell (za (w+1+1) 0) (.bool true)).cell? (za w3 2)=some (.slice none 0 0))/\
 Calls Tryz.prog 217 (BX (.agg (pF a ys.length k))) ((w4.setCell (za w3 1) (.slice a ys.length k)).setCell (za (w+1+1) 0) (.bool true)) λ e w6=>∃a2 k2,e= .returned (.tuple (Lz a2 (dc xs).length k2))/\
  Hid (∀c:Nat,Calls Tryz.prog 173 (fP a2 (dc xs).length k2 (some ⟨B,o,none⟩) (dc xs).length c) w6 λ e w7=>e= .returned (.bool true)/\w6=w7)/\Hid (Below w w w6)/\
  w6.cell? (za w3 0)=some (.bool true)/\w6.cell? (za w3 1)=some (.slice a ys.length k)/\w6.cell? (za w3 2)=some (.slice none 0 0)/\w6.cell? (za (w+1+1) 0)=some (.bool true)/\
  w6.cell? (za w 0)=some (.bool false)/\w6.cell? (za w 1)=some (.slice none 0 0)/\w6.cell? (za w 2)=some (.slice none 0 0)/\(∀j,w6.frozen? ⟨w.heap.size,j,none⟩=false)/\
  Hid (iQ (((w6.setCell (za w 0) (.bool true)).setCell (za w 1) (.slice a ys.length k)).setCell (za w 2) (.slice none 0 0)) n₀ a k ys/\Below w w (((w6.setCell (za w 0) (.bool true)).setCell (za w 1) (.slice a ys.length k)).setCell (za w 2) (.slice none 0 0))/\(((w6.setCell (za w 0) (.bool true)).setCell (za w 1) (.slice a ys.length k)).setCell (za w 2) (.slice none 0 0)).cell? (za w 0)=some (.bool true)/\(((w6.setCell (za w 0) (.bool true)).setCell (za w 1) (.slice a ys.length k)).setCell (za w 2) (.slice none 0 0)).cell? (za w 1)=some (.slice a ys.length k)/\(((w6.setCell (za w 0) (.bool true)).setCell (za w 1) (.slice a ys.length k)).setCell (za w 2) (.slice none 0 0)).cell? (za w 2)=some (.slice none 0 0)):=by
 have hN:=hd.num.lt;have s3:w3.heap.size+1<=w4.heap.size:=by have:=BU.size;simpa using this
 have hY:w4.heap[w3.heap.size]? =some (.cells Sr 147):=(BU.block _ cP an).T (ai w3 _);have hK:Boxed w4 (w+1+1) 4 (.bool true):=BU.boxed (hd.ok.alloc _) an;have hX:w4.heap[w.heap.size]? =some (.cells jR 147):=(BU.block _ dU an).T ((aT _ _ _ an).T hd.x);obtain⟨wA,hA⟩:=bL (w4.setCell (za w3 1) (.slice a ys.length k));obtain⟨w5,h5⟩:=bL (wA.setCell (za (w+1+1) 0) (.bool true));have hAo:∀j,j≠w3.heap.size->wA.heap[j]? =w4.heap[j]? := λ j hj=>by rw[hA];exact aq w4 ⟨w3.heap.size,1,none⟩ _ j hj
 have h5o:∀j,j≠w.heap.size+1+1->w5.heap[j]? =wA.heap[j]? := λ j hj=>by rw[h5];exact aq wA ⟨w.heap.size+1+1,0,none⟩ _ j hj
 have hYA:wA.heap[w3.heap.size]? =some (.cells (pF a ys.length k) 147):=by rw[hA];simpa using aU (j:=1) (.slice a ys.length k) hY
 have hKA:Boxed wA (w+1+1) 4 (.bool true):=(hAo _ an).T hK;have hY5:=(h5o w3 an).T hYA;have hK5:Boxed w5 (w+1+1) 4 (.bool true):=by rw[h5];exact gS _ hKA
 have hX5:=(h5o w an).T ((hAo w an).T hX);have ae4:w5.heap.size=w4.heap.size:=by rw[h5,hA];simp
 have cu:Below w w w3:=hd.only.below (bk _) (cH);have dX:Below w w w4:=(cu.alloc an (.cells Sr 147)).T (BU.below (bk _) dU);have dV:Below w w w5:=by rw[h5,hA];exact(dX.setCell (p:=(za w3 1)) (by show _<=w3.heap.size;omega) _).setCell (p:=(za (w+1+1) 0)) (by show _<=w.heap.size+1+1;omega) _
 have tK:w5.ownsRow (w3+1) 101 4 (.slice a ys.length k) ys.length (ys.flatMap aH.cells):=iF bA λ g hg=>by exact wy
 obtain⟨kD,hvy,M1⟩:=ho.same yI hs;rw[<-hA,<-h5];refine⟨⟨(af hY 0).T rfl,(af hY 1).T rfl,(af hY 2).T rfl,ax hY 1,du hKA,fe hKA,(af hY5 0).T rfl,(af hY5 1).T rfl,(af hY5 2).T rfl⟩,?_⟩;refine(Dd k (qC tK λ y hy=>⟨(tk y hy).1.below dV,(tk y hy).2.1.below dV⟩) kD hvy none 0).mono ?_;rintro e w6 ⟨a2,k2,rfl,u9, -,lP,Rj⟩;rw[M1]at lP⊢;have KD:Below w w w6:=dV.T (Rj.mono dV.size);have Wj:=(Rj.block w oV).T hX5;have hY6:=(Rj.block w3 oV).T hY5;have hK6:Boxed w6 (w+1+1) 4 (.bool true):=(Rj.block _ oV).T hK5;have hX7:=aU (j:=2) (.slice none 0 0) (aU (j:=1) (.slice a ys.length k) (aU (j:=0) (.bool true) Wj));refine⟨a2,k2,rfl,ag λ c=>?_,ag KD,(af hY6 0).T rfl,(af hY6 1).T rfl,(af hY6 2).T rfl,du hK6,(af Wj 0).T rfl,(af Wj 1).T rfl,(af Wj 2).T rfl,ax Wj,ag ⟨?_,?_,(af hX7 0).T rfl,(af hX7 1).T rfl,(af hX7 2).T rfl⟩⟩
 ·refine(Cq (c:=k2) (d:=c) lP (iL.below KD) rfl rfl).mono ?_;rintro e w7 ⟨rfl,rfl⟩;exact⟨by simp,rfl⟩
 ·have hB7:Below w w (((w6.setCell (za w 0) (.bool true)).setCell (za w 1) (.slice a ys.length k)).setCell (za w 2) (.slice none 0 0)):=((KD.setCell (p:=(za w 0)) (cH) _).setCell (p:=(za w 1)) (cH) _).setCell (p:=(za w 2)) (cH) _;refine abL (iF (iF tK λ g hg=>Rj.block g ?_) λ g hg=>?_) (cm hd.only.size) λ y hy=>⟨⟨(tk y hy).1.below hB7,(tk y hy).2.1.below hB7⟩,(tk y hy).1.fresh LH,(tk y hy).2.1.fresh LH,(tk y hy).2.2⟩
  ·exact wu
  ·exact wD
 ·exact((KD.setCell (p:=(za w 0)) (cH) _).setCell (p:=(za w 1)) (cH) _).setCell (p:=(za w 2)) (cH) _
theorem M3{xs:List aH}(n₀:Nat)(LH:n₀<=B)(KC:n₀<=w.heap.size)(iL:ay w (some ⟨B,o,none⟩) (dc xs))(mV:(dc xs).length<=c)(ho:nO xs)(yI:∀x∈xs,1<=x.val.length):
 Calls Tryz.prog 202 (sg (some ⟨B,o,none⟩) (dc xs).length c) w λ e w'=>∃(ys:List aH) (a:az) (k:Nat),(ys.map aH.key=xs.map aH.key/\ys.map aH.val=xs.map aH.val)/\e= .returned (.tuple (vm (.agg (pF a ys.length k))))/\iQ w' n₀ a k ys/\Below w w w':=by
 have SW:=ho.mE;have hlen:(dc xs).length<=2000:=by have:=nR kB 231 xs (λ x hx=>by have:=ho.key x hx;rw[AO];omega);have:=eX (lK 231) SW;simp only[dc,aK];omega
 have D0:=ag (Jn iL mV an);have UJ:=ag iL;have HO:=ag ho;have HV:=ag yI;unfold zd IE at D0;obtain⟨f1,f2,f3,f4⟩:=D0.O.facts;have HNB:=ag LH;have HNW:=ag KC;clear iL mV ho yI LH KC;go_enter Tryz.func202,Tryz.ntmps202
 go_wp2_with fail
 have D1:=ag D0.O.drew;clear f1 f2 f3 f4 D0;obtain⟨f1,f2,f3,f4⟩:=D1.O.facts;generalize sd:World.drew _=W1 at D1 f1 f2 f3 f4;refine ku 6 (λ w'=>w'.cell? (za (w+1+1+1+1) 0)=some (.func (.func 221) #[] (iS (zp (w+1+1+1))))) bU (by rw[sd];exact f2) (λ hS=>?_);rw[sd]at hS⊢;clear sd;have bY:IntKind.i64.wrap (xs.length:Int)=(xs.length:Int):=by rw[aI];omega
 refine tT 0 hS ?_;refine tT 2 hS ?_;refine sT 1 λ K hK=>?_;go_simp;(with_reducible refine(D1.O.yP [1] 1 rfl cP).mono ?_);rintro e w2 ⟨rfl,hd⟩;rw[show numOf [1]=1 by decide];have D2:=ag hd;clear f1 f2 f3 f4;obtain⟨f1,f2,f3,f4⟩:=hd.facts;clear hd;refine et hK ?_ (λ hS=>?_)
 ·exact f2
 clear hK K;refine sT 3 λ K hK=>?_;go_simp;(with_reducible refine(D2.O.yP [xs.length] 1 rfl cP).mono ?_);rintro e w3 ⟨rfl,hd⟩;rw[tJ];have D3:=ag hd;clear f1 f2 f3 f4;obtain⟨f1,f2,f3,f4⟩:=hd.facts;clear hd;refine et hK ?_ (λ hS=>?_)
 ·exact f2
 clear hK K;refine tT 4 hS ?_;refine tT 5 hS ?_;refine sT 6 λ K hK=>?_;go_simp;refine ra hK ?_;clear hK K;refine nK bU ?_ _;have HSV:Hid (Calls Tryz.prog 222 (ZU xs.length (.func (.func 223) #[] (J7 (zp (w+1+1+1)) (zp (w+1+1+1+1)) (zp (w+1+1))))) (w3.alloc (.cells Sr 147)) λ e w4=>∃(ys:List aH) (a:az) (k:Nat),Hid (ys.map aH.key=xs.map aH.key/\ys.map aH.val=xs.map aH.val)/\Hid (ys.length=xs.length)/\e= .returned (.tuple #[.slice a ys.length k,.bool true])/\Hid (w4.ownsRow (w3+1) 101 4 (.slice a ys.length k) ys.length (ys.flatMap aH.cells))/\Hid (∀y∈ys,fL ⟨w,B⟩ y.ka y.key/\(fL ⟨w,B⟩ y.va y.val/\y.vc=y.val.length))/\Hid (dI (w+1) (w3.alloc (.cells Sr 147)) w4)):=ag (by have nt:Below w3 w3 (w3.alloc (.cells Sr 147)):=(gb).alloc (cH) _;have hd:=D3.O;refine(KA (V:=⟨w,B⟩) xs (hd.rest.below nt) (hd.ok.alloc _) (hd.take.alloc _) (hd.num.alloc _) ⟨hd.ne.1,hd.ne.2.1,hd.ne.2.2.1⟩ (by have:=hlen;simp only[dc,aK]at this;omega) an (bk _) ((hd.only.below (bk _) (cH)).T (nt.mono (cm hd.only.size)))).mono ?_;rintro e w4 ⟨ys,a,k,gC,lH,rfl,bA,tk, -,BU⟩;rw[bt]at bA;exact⟨ys,a,k,ag ⟨gC,lH⟩,ag EL,rfl,ag bA,ag tk,ag BU⟩)
 have ahe:min (xs.length:Int) 7=(xs.length:Int):=an
 go_wp2_with first
  |((with_reducible refine HSV.O.mono ?_);rintro e w4 ⟨ys,a,k,rq,AU,rfl,bA,tk,BU⟩;have HF4:=ag (Wi (a:=a) (k:=k) n₀ HNB.O HNW.O D3.O BU.O bA.O HO.O HV.O rq.O AU.O tk.O UJ.O);clear bA tk BU;obtain⟨y0,y1,y2,yf,k0,kf,z0,z1,z2⟩:=HF4.O.1)
  |((with_reducible refine HF4.O.2.mono ?_);rintro e w6 ⟨a2,k2,rfl,HEQ,tl,c0,c1,c2,c3,c4,c5,c6,cf,ly⟩)
  |((with_reducible refine(HEQ.O c).mono ?_);rintro e w7 ⟨rfl,rfl⟩)
  |fail
 refine bodyPost_ret (v:=.tuple (vm (.agg (pF a ys.length k)))) ?_ bp ⟨ys,a,k,rq.O,rfl,ly.O.1,ly.O.2.1⟩;obtain⟨s0,s1,s2⟩:=ly.O.2.2;rw[results_cell_tmp rfl];go_simp
theorem gM.same{xs ys:List a8}(ho:gM xs)(hs:ys.map a8.key=xs.map a8.key/\ys.map a8.at_=xs.map a8.at_/\ys.map a8.count=xs.map a8.count):gM ys/\cz ys=cz xs:=by
 have hlen:ys.length=xs.length:=by have:=congrArg List.length hs.1;simpa using this
 have Kz:∀y∈ys,∃x∈xs,y.key=x.key/\y.at_=x.at_/\y.count=x.count:= λ y hy=>by
  obtain⟨j,hj⟩:=dE.1 hy;have h1:=congrArg (λ l=>l[j]?) hs.1;have h2:=congrArg (λ l=>l[j]?) hs.2.1;have h3:=congrArg (λ l=>l[j]?) hs.2.2;simp only[aW,hj,eM]at h1 h2 h3;cases hx:xs[j]? with
  |none=>rw[hx]at h1;cases h1
  |some x=>
   rw[hx]at h1 h2 h3;exact⟨x,ak hx,by simpa using h1,by simpa using h2,by simpa using h3⟩
 refine⟨⟨by have:=ho.ML;omega,by have:=ho.mE;omega, λ y hy=>?_,by rw[hs.1];exact ho.zM⟩,?_⟩
 ·obtain⟨x,hx,h1,h2,h3⟩:=Kz y hy;rw[h1,h2,h3];exact ho.key x hx
 ·unfold cz;rw[hlen,Jm xs ys hs.1 hs.2.1 hs.2.2]
theorem Wk{xs ys:List a8}{rest:List Nat}{a:az}(n₀:Nat)(LH:n₀<=B)(KC:n₀<=w.heap.size)(hd:Dg ⟨w,B⟩ w w3 (w+1) (w+1+1) (w+1+1+1) (w+1+1+1+1) w rest jR 147 [])
 (BU:dI (w+1) (w3.alloc (.cells jR 147)) w4)(bA:w4.ownsRow (w3+1) 144 8 (.slice a ys.length k) ys.length (ys.flatMap a8.cells))(ho:gM xs)(yI:True)(hs:ys.map a8.key=xs.map a8.key/\ys.map a8.at_=xs.map a8.at_/\ys.map a8.count=xs.map a8.count)(AU:ys.length=xs.length)(tk:∀y∈ys,fL ⟨w,B⟩ y.ka y.key)(iL:ay w (some ⟨B,o,none⟩) (cz xs)):
 (w4.cell? (za w3 0)=some (.bool false)/\w4.cell? (za w3 1)=some (.slice none 0 0)/\w4.cell? (za w3 2)=some (.slice none 0 0)/\w4.frozen? ⟨w3.heap.size,2,none⟩=false/\
   (w4.setCell (za w3 2) (.slice a ys.length k)).cell? (za (w+1+1) 0)=some (.bool true)/\(w4.setCell (za w3 2) (.slice a ys.length k)).frozen? ⟨w.heap.size+1+1,0,none⟩=false/\
   ((w4.setCell (za w3 2) (.slice a ys.length k)).setCell (za (w+1+1) 0) (.bool true)).cell? (za w3 0)=some (.bool false)/\((w4.setCell (za w3 2) (.slice a ys.length k)).setCell (za (w+1+1) 0) (.bool true)).cell? (za w3 1)=some (.slice none 0 0)/\((w4.setCell (za w3 2) (.slice a ys.length k)).setCell (za (w+1+1) 0) (.bool true)).cell? (za w3 2)=some (.slice a ys.length k))/\
 Calls Tryz.prog 217 (BX (.agg (pU a ys.length k))) ((w4.setCell (za w3 2) (.slice a ys.length k)).setCell (za (w+1+1) 0) (.bool true)) λ e w6=>∃a2 k2,e= .returned (.tuple (Lz a2 (cz xs).length k2))/\
  Hid (∀c:Nat,Calls Tryz.prog 173 (fP a2 (cz xs).length k2 (some ⟨B,o,none⟩) (cz xs).length c) w6 λ e w7=>e= .returned (.bool true)/\w6=w7)/\Hid (Below w w w6)/\
  w6.cell? (za w3 0)=some (.bool false)/\w6.cell? (za w3 1)=some (.slice none 0 0)/\w6.cell? (za w3 2)=some (.slice a ys.length k)/\w6.cell? (za (w+1+1) 0)=some (.bool true)/\
  w6.cell? (za w 0)=some (.bool false)/\w6.cell? (za w 1)=some (.slice none 0 0)/\w6.cell? (za w 2)=some (.slice none 0 0)/\(∀j,w6.frozen? ⟨w.heap.size,j,none⟩=false)/\
  Hid (lx (((w6.setCell (za w 0) (.bool false)).setCell (za w 1) (.slice none 0 0)).setCell (za w 2) (.slice a ys.length k)) n₀ a k ys/\Below w w (((w6.setCell (za w 0) (.bool false)).setCell (za w 1) (.slice none 0 0)).setCell (za w 2) (.slice a ys.length k))/\(((w6.setCell (za w 0) (.bool false)).setCell (za w 1) (.slice none 0 0)).setCell (za w 2) (.slice a ys.length k)).cell? (za w 0)=some (.bool false)/\(((w6.setCell (za w 0) (.bool false)).setCell (za w 1) (.slice none 0 0)).setCell (za w 2) (.slice a ys.length k)).cell? (za w 1)=some (.slice none 0 0)/\(((w6.setCell (za w 0) (.bool false)).setCell (za w 1) (.slice none 0 0)).setCell (za w 2) (.slice a ys.length k)).cell? (za w 2)=some (.slice a ys.length k)):=by
 have hN:=hd.num.lt;have s3:w3.heap.size+1<=w4.heap.size:=by have:=BU.size;simpa using this
 have hY:w4.heap[w3.heap.size]? =some (.cells jR 147):=(BU.block _ cP an).T (ai w3 _);have hK:Boxed w4 (w+1+1) 4 (.bool true):=BU.boxed (hd.ok.alloc _) an;have hX:w4.heap[w.heap.size]? =some (.cells jR 147):=(BU.block _ dU an).T ((aT _ _ _ an).T hd.x);obtain⟨wA,hA⟩:=bL (w4.setCell (za w3 2) (.slice a ys.length k));obtain⟨w5,h5⟩:=bL (wA.setCell (za (w+1+1) 0) (.bool true));have hAo:∀j,j≠w3.heap.size->wA.heap[j]? =w4.heap[j]? := λ j hj=>by rw[hA];exact aq w4 ⟨w3.heap.size,2,none⟩ _ j hj
 have h5o:∀j,j≠w.heap.size+1+1->w5.heap[j]? =wA.heap[j]? := λ j hj=>by rw[h5];exact aq wA ⟨w.heap.size+1+1,0,none⟩ _ j hj
 have hYA:wA.heap[w3.heap.size]? =some (.cells (pU a ys.length k) 147):=by rw[hA];simpa using aU (j:=2) (.slice a ys.length k) hY
 have hKA:Boxed wA (w+1+1) 4 (.bool true):=(hAo _ an).T hK;have hY5:=(h5o w3 an).T hYA;have hK5:Boxed w5 (w+1+1) 4 (.bool true):=by rw[h5];exact gS _ hKA
 have hX5:=(h5o w an).T ((hAo w an).T hX);have ae4:w5.heap.size=w4.heap.size:=by rw[h5,hA];simp
 have cu:Below w w w3:=hd.only.below (bk _) (cH);have dX:Below w w w4:=(cu.alloc an (.cells jR 147)).T (BU.below (bk _) dU);have dV:Below w w w5:=by rw[h5,hA];exact(dX.setCell (p:=(za w3 2)) (by show _<=w3.heap.size;omega) _).setCell (p:=(za (w+1+1) 0)) (by show _<=w.heap.size+1+1;omega) _
 have tK:w5.ownsRow (w3+1) 144 8 (.slice a ys.length k) ys.length (ys.flatMap a8.cells):=iF bA λ g hg=>by exact wy
 obtain⟨kD,M1⟩:=ho.same hs;rw[<-hA,<-h5];refine⟨⟨(af hY 0).T rfl,(af hY 1).T rfl,(af hY 2).T rfl,ax hY 2,du hKA,fe hKA,(af hY5 0).T rfl,(af hY5 1).T rfl,(af hY5 2).T rfl⟩,?_⟩;refine(AR k (Dh tK λ y hy=>(tk y hy).below dV) kD none 0).mono ?_;rintro e w6 ⟨a2,k2,rfl,u9, -,lP,Rj⟩;rw[M1]at lP⊢;have KD:Below w w w6:=dV.T (Rj.mono dV.size);have Wj:=(Rj.block w oV).T hX5;have hY6:=(Rj.block w3 oV).T hY5;have hK6:Boxed w6 (w+1+1) 4 (.bool true):=(Rj.block _ oV).T hK5;have hX7:=aU (j:=2) (.slice a ys.length k) (aU (j:=1) (.slice none 0 0) (aU (j:=0) (.bool false) Wj));refine⟨a2,k2,rfl,ag λ c=>?_,ag KD,(af hY6 0).T rfl,(af hY6 1).T rfl,(af hY6 2).T rfl,du hK6,(af Wj 0).T rfl,(af Wj 1).T rfl,(af Wj 2).T rfl,ax Wj,ag ⟨?_,?_,(af hX7 0).T rfl,(af hX7 1).T rfl,(af hX7 2).T rfl⟩⟩
 ·refine(Cq (c:=k2) (d:=c) lP (iL.below KD) rfl rfl).mono ?_;rintro e w7 ⟨rfl,rfl⟩;exact⟨by simp,rfl⟩
 ·have hB7:Below w w (((w6.setCell (za w 0) (.bool false)).setCell (za w 1) (.slice none 0 0)).setCell (za w 2) (.slice a ys.length k)):=((KD.setCell (p:=(za w 0)) (cH) _).setCell (p:=(za w 1)) (cH) _).setCell (p:=(za w 2)) (cH) _;refine aen (iF (iF tK λ g hg=>Rj.block g ?_) λ g hg=>?_) (cm hd.only.size) λ y hy=>⟨(tk y hy).below hB7,(tk y hy).fresh LH⟩
  ·exact wu
  ·exact wD
 ·exact((KD.setCell (p:=(za w 0)) (cH) _).setCell (p:=(za w 1)) (cH) _).setCell (p:=(za w 2)) (cH) _
theorem KE{xs:List a8}(n₀:Nat)(LH:n₀<=B)(KC:n₀<=w.heap.size)(iL:ay w (some ⟨B,o,none⟩) (cz xs))(mV:(cz xs).length<=c)(ho:gM xs):
 Calls Tryz.prog 202 (sg (some ⟨B,o,none⟩) (cz xs).length c) w λ e w'=>∃(ys:List a8) (a:az) (k:Nat),(ys.map a8.key=xs.map a8.key/\ys.map a8.at_=xs.map a8.at_/\ys.map a8.count=xs.map a8.count)/\e= .returned (.tuple (vm (.agg (pU a ys.length k))))/\lx w' n₀ a k ys/\Below w w w':=by
 have SW:=ho.mE;have hlen:(cz xs).length<=2000:=by have:=nR kL 165 xs (λ x hx=>by have:=ho.key x hx;rw[AP];omega);have:=eX (lK 165) SW;simp only[cz,aK];omega
 have D0:=ag (Jn iL mV an);have UJ:=ag iL;have HO:=ag ho;have HV:=ag trivial;unfold zd IE at D0;obtain⟨f1,f2,f3,f4⟩:=D0.O.facts;have HNB:=ag LH;have HNW:=ag KC;clear iL mV ho LH KC;go_enter Tryz.func202,Tryz.ntmps202
 go_wp2_with fail
 have D1:=ag D0.O.drew;clear f1 f2 f3 f4 D0;obtain⟨f1,f2,f3,f4⟩:=D1.O.facts;generalize sd:World.drew _=W1 at D1 f1 f2 f3 f4;refine ku 6 (λ w'=>w'.cell? (za (w+1+1+1+1) 0)=some (.func (.func 221) #[] (iS (zp (w+1+1+1))))) bU (by rw[sd];exact f2) (λ hS=>?_);rw[sd]at hS⊢;clear sd;have bY:IntKind.i64.wrap (xs.length:Int)=(xs.length:Int):=by rw[aI];omega
 refine tT 0 hS ?_;refine tT 2 hS ?_;refine sT 1 λ K hK=>?_;go_simp;(with_reducible refine(D1.O.yP [2] 1 rfl cP).mono ?_);rintro e w2 ⟨rfl,hd⟩;rw[show numOf [2]=2 by decide];have D2:=ag hd;clear f1 f2 f3 f4;obtain⟨f1,f2,f3,f4⟩:=hd.facts;clear hd;refine et hK ?_ (λ hS=>?_)
 ·exact f2
 clear hK K;refine sT 3 λ K hK=>?_;go_simp;(with_reducible refine(D2.O.yP [xs.length] 1 rfl cP).mono ?_);rintro e w3 ⟨rfl,hd⟩;rw[tJ];have D3:=ag hd;clear f1 f2 f3 f4;obtain⟨f1,f2,f3,f4⟩:=hd.facts;clear hd;refine et hK ?_ (λ hS=>?_)
 ·exact f2
 clear hK K;refine tT 4 hS ?_;refine tT 5 hS ?_;refine sT 6 λ K hK=>?_;go_simp;refine ra hK ?_;clear hK K;refine nK bU ?_ _;have HSV:Hid (Calls Tryz.prog 224 (ZU xs.length (.func (.func 225) #[] (J7 (zp (w+1+1+1)) (zp (w+1+1+1+1)) (zp (w+1+1))))) (w3.alloc (.cells jR 147)) λ e w4=>∃(ys:List a8) (a:az) (k:Nat),Hid (ys.map a8.key=xs.map a8.key/\ys.map a8.at_=xs.map a8.at_/\ys.map a8.count=xs.map a8.count)/\Hid (ys.length=xs.length)/\e= .returned (.tuple #[.slice a ys.length k,.bool true])/\Hid (w4.ownsRow (w3+1) 144 8 (.slice a ys.length k) ys.length (ys.flatMap a8.cells))/\Hid (∀y∈ys,fL ⟨w,B⟩ y.ka y.key)/\Hid (dI (w+1) (w3.alloc (.cells jR 147)) w4)):=ag (by have nt:Below w3 w3 (w3.alloc (.cells jR 147)):=(gb).alloc (cH) _;have hd:=D3.O;refine(IG (V:=⟨w,B⟩) xs (hd.rest.below nt) (hd.ok.alloc _) (hd.take.alloc _) (hd.num.alloc _) ⟨hd.ne.1,hd.ne.2.1,hd.ne.2.2.1⟩ (by have:=hlen;simp only[cz,aK]at this;omega) an (bk _) ((hd.only.below (bk _) (cH)).T (nt.mono (cm hd.only.size))) (λ x hx=>cm (HO.O.key x hx))).mono ?_;rintro e w4 ⟨ys,a,k,gC,lH,mK,rfl,bA,tk, -,BU⟩;rw[bt]at bA;exact⟨ys,a,k,ag ⟨gC,lH,mK⟩,ag EL,rfl,ag bA,ag tk,ag BU⟩)
 have ahe:min (xs.length:Int) 7=(xs.length:Int):=an
 go_wp2_with first
  |((with_reducible refine HSV.O.mono ?_);rintro e w4 ⟨ys,a,k,rq,AU,rfl,bA,tk,BU⟩;have HF4:=ag (Wk (a:=a) (k:=k) n₀ HNB.O HNW.O D3.O BU.O bA.O HO.O HV.O rq.O AU.O tk.O UJ.O);clear bA tk BU;obtain⟨y0,y1,y2,yf,k0,kf,z0,z1,z2⟩:=HF4.O.1)
  |((with_reducible refine HF4.O.2.mono ?_);rintro e w6 ⟨a2,k2,rfl,HEQ,tl,c0,c1,c2,c3,c4,c5,c6,cf,ly⟩)
  |((with_reducible refine(HEQ.O c).mono ?_);rintro e w7 ⟨rfl,rfl⟩)
  |fail
 refine bodyPost_ret (v:=.tuple (vm (.agg (pU a ys.length k)))) ?_ bp ⟨ys,a,k,rq.O,rfl,ly.O.1,ly.O.2.1⟩;obtain⟨s0,s1,s2⟩:=ly.O.2.2;rw[results_cell_tmp rfl];go_simp
theorem zU{a:az}(h:ay W a xs)(h1:1<=xs.length):∃B o,a=some ⟨B,o,none⟩:=by
 rcases h.2 with h0|⟨B,o,e,_⟩
 ·rw[h0]at h1;simp at h1
 ·exact⟨B,o,e⟩
theorem Jo{b:az}{u:TypeId}{ds:Array Value}(h:Below ((w.alloc (.cells (fA b k c) t)).alloc (.cells ds u)).heap.size ((w.alloc (.cells (fA b k c) t)).alloc (.cells ds u)) w2):w2.heap[w.heap.size+1]? =some (.cells ds u):=(bu h).2
theorem FE{R:Nat}{a0 a1 a2:Value}{fz:Nat×Nat}(h:W.heap[R]? =some (.cells #[a0,a1,a2] t fz)):(((W.setCell (za R 0) v0).setCell (za R 1) v1).setCell (za R 2) v2).heap[R]? =some (.cells #[v0,v1,v2] t fz):=by simpa using aU (j:=2) v2 (aU (j:=1) v1 (aU (j:=0) v0 h))
theorem pf{R:Nat}(j:Nat)(hj:j≠R):(((W.setCell (za R 0) v0).setCell (za R 1) v1).setCell (za R 2) v2).heap[j]? =W.heap[j]? :=
 (aq _ ⟨R,2,none⟩ v2 j hj).T ((aq _ ⟨R,1,none⟩ v1 j hj).T (aq W ⟨R,0,none⟩ v0 j hj))
theorem mZ{R:Nat}(h:n₀<=R):Below n₀ W (((W.setCell (za R 0) v0).setCell (za R 1) v1).setCell (za R 2) v2):=
 (((ah n₀ W).setCell (p:=(za R 0)) h _).setCell (p:=(za R 1)) h _).setCell (p:=(za R 2)) h _
theorem SX{b:az}(hF:aQ w b c ps)(hm:Marks (aw ps))(at_:Nat){xs:List aH}(hr:iy (aw ps) at_ (dc xs))(ho:nO xs)(yI:∀x∈xs,1<=x.val.length):
 Calls Tryz.prog 170 #[bN b ps.length c,.int .i64 (at_:Int),.int .i64 0] w λ e w'=>∃(ys:List aH) (a:az) (k:Nat),(ys.map aH.key=xs.map aH.key/\ys.map aH.val=xs.map aH.val)/\e= .returned (.tuple (vm (.agg (pF a ys.length k))))/\iQ w' w a k ys/\Below w w w':=by
 have HG:=ag λ (w2:World) (hb:Below w w w2)=>Kq (hF.below hb) hm at_ _ hr;have Rn:=ag λ (w2:World) (B o k:Nat) (hb:ay w2 (some ⟨B,o,none⟩) (dc xs)) (hk:(dc xs).length<=k) (hB:w.heap.size<=B) (hw:w.heap.size<=w2.heap.size)=>M3 w hB hw hb hk ho yI;have h1:Hid (1<=(dc xs).length):=ag hr.1;have j4:Hid (Below w w ((w.alloc (.cells (fA b ps.length c) 31)).alloc (.cells jR 147))):=ag bW;have hD:decide ((0:Int)<0)=false:=by decide
 unfold bN at*;clear hF hm hr ho yI;go_enter Tryz.func170,Tryz.ntmps170
 go_wp2_with first
  |((with_reducible refine(HG.O _ j4.O).mono ?_);rintro e w3 ⟨a3,k3,z,rfl,oN,nH,iL,cu⟩;have ek:=ag (j4.O.T (cu.mono j4.O.size));obtain⟨C,o,rfl⟩:=zU iL h1.O;have HX:=ag (Jo cu);have HD:=ag (Rn.O _ _ _ _ iL oN (aj j4.O.size (nH _ rfl)) ek.O.size);clear cu iL oN nH)
  |((with_reducible refine HD.O.mono ?_);rintro e w4 ⟨ys,a,k,hs,rfl,wE,dX⟩;have pB:=ag (ek.O.T (dX.mono ek.O.size));have zq:=(dX.block _ (cS HX.O).1).T HX.O;have M4:Hid ((w4.alloc (.cells (pF a ys.length k) 147)).heap[w.heap.size+1]? =some (.cells jR 147)):=ag ((aT _ _ _ (cS zq).1).T zq);have HI:=ag (wE.below ((ah _ w4).alloc (cH) (.cells (pF a ys.length k) 147)));have FA:=ag hs;have x0:=(af M4.O 0).T rfl;have x1:=(af M4.O 1).T rfl;have x2:=(af M4.O 2).T rfl;have xf:=ax M4.O;simp only[cW]at x0 x1 x2;clear wE dX zq hs)
  |fail
 refine bodyPost_ret (v:=.tuple (vm (.agg (pF a ys.length k)))) ?_ bp ⟨ys,a,k,FA.O,rfl,HI.O.Di (λ j hj=>pf j hj) M4.O de oW,(pB.O.alloc pB.O.size _).T (mZ (bk _))⟩;have s0:=(af (FE (v0:=.bool true) (v1:=.slice a ys.length k) (v2:=.slice none 0 0) M4.O) 0).T rfl;have s1:=(af (FE (v0:=.bool true) (v1:=.slice a ys.length k) (v2:=.slice none 0 0) M4.O) 1).T rfl;have s2:=(af (FE (v0:=.bool true) (v1:=.slice a ys.length k) (v2:=.slice none 0 0) M4.O) 2).T rfl;simp only[cW]at s0 s1 s2;rw[results_cell_tmp rfl];go_simp
theorem PB{b:az}(hF:aQ w b c ps)(hm:Marks (aw ps))(at_:Nat)(d:Nat)(hd0:1<=d){xs:List a8}(hr:iy (aw ps) at_ (cz xs))(ho:gM xs):
 Calls Tryz.prog 170 #[bN b ps.length c,.int .i64 (at_:Int),.int .i64 (d:Int)] w λ e w'=>∃(ys:List a8) (a:az) (k:Nat),(ys.map a8.key=xs.map a8.key/\ys.map a8.at_=xs.map a8.at_/\ys.map a8.count=xs.map a8.count)/\e= .returned (.tuple (vm (.agg (pU a ys.length k))))/\lx w' w a k ys/\Below w w w':=by
 have HG:=ag λ (w2:World) (hb:Below w w w2)=>Kq (hF.below hb) hm at_ _ hr;have Rn:=ag λ (w2:World) (B o k:Nat) (hb:ay w2 (some ⟨B,o,none⟩) (cz xs)) (hk:(cz xs).length<=k) (hB:w.heap.size<=B) (hw:w.heap.size<=w2.heap.size)=>KE w hB hw hb hk ho;have h1:Hid (1<=(cz xs).length):=ag hr.1;have j4:Hid (Below w w ((w.alloc (.cells (fA b ps.length c) 31)).alloc (.cells jR 147))):=ag bW;have hD:decide ((d:Int)<0)=false:=by simp
 have hD2:((d:Int)==0)=false:=dU;unfold bN at*;clear hF hm hr ho;go_enter Tryz.func170,Tryz.ntmps170
 go_wp2_with first
  |((with_reducible refine(HG.O _ j4.O).mono ?_);rintro e w3 ⟨a3,k3,z,rfl,oN,nH,iL,cu⟩;have ek:=ag (j4.O.T (cu.mono j4.O.size));obtain⟨C,o,rfl⟩:=zU iL h1.O;have HX:=ag (Jo cu);have HD:=ag (Rn.O _ _ _ _ iL oN (aj j4.O.size (nH _ rfl)) ek.O.size);clear cu iL oN nH)
  |((with_reducible refine HD.O.mono ?_);rintro e w4 ⟨ys,a,k,hs,rfl,wE,dX⟩;have pB:=ag (ek.O.T (dX.mono ek.O.size));have zq:=(dX.block _ (cS HX.O).1).T HX.O;have M4:Hid ((w4.alloc (.cells (pU a ys.length k) 147)).heap[w.heap.size+1]? =some (.cells jR 147)):=ag ((aT _ _ _ (cS zq).1).T zq);have HI:=ag (wE.below ((ah _ w4).alloc (cH) (.cells (pU a ys.length k) 147)));have FA:=ag hs;have x0:=(af M4.O 0).T rfl;have x1:=(af M4.O 1).T rfl;have x2:=(af M4.O 2).T rfl;have xf:=ax M4.O;simp only[cW]at x0 x1 x2;clear wE dX zq hs)
  |fail
 refine bodyPost_ret (v:=.tuple (vm (.agg (pU a ys.length k)))) ?_ bp ⟨ys,a,k,FA.O,rfl,HI.O.Di (λ j hj=>pf j hj) M4.O de oW,(pB.O.alloc pB.O.size _).T (mZ (bk _))⟩;have s0:=(af (FE (v0:=.bool false) (v1:=.slice none 0 0) (v2:=.slice a ys.length k) M4.O) 0).T rfl;have s1:=(af (FE (v0:=.bool false) (v1:=.slice none 0 0) (v2:=.slice a ys.length k) M4.O) 1).T rfl;have s2:=(af (FE (v0:=.bool false) (v1:=.slice none 0 0) (v2:=.slice a ys.length k) M4.O) 2).T rfl;simp only[cW]at s0 s1 s2;rw[results_cell_tmp rfl];go_simp
structure qI where
 fa:az
 from_:List Nat
 fc:Nat
 en:Bool
 ta:az
 to:List Nat
 tc:Nat
def qI.cells(l:qI):List Value:=(U2 l.fa l.from_.length l.fc l.en l.ta l.to.length l.tc)
def qI.v(l:qI):Value:=.agg (U2 l.fa l.from_.length l.fc l.en l.ta l.to.length l.tc)
def wF(W:World)(l:qI):Prop:=ay W l.fa l.from_/\ay W l.ta l.to
theorem wF.below{W W':World}{l:qI}(h:wF W l)(hb:Below W W W'):wF W' l:=⟨h.1.below hb,h.2.below hb⟩
def qI.ends(l:qI)(key:List Nat):Bool:=l.en&&decide (0<=cmpL key l.to)
def qI.holds(l:qI)(key:List Nat):Bool:=decide (0<=cmpL key l.from_)&& !l.ends key
theorem M5{l:qI}{a:az}(c:Nat)(hl:wF w l)(hk:ay w a key):
 Calls Tryz.prog 169 #[l.v,.slice a key.length c] w λ e w'=>e= .returned (.bool (l.ends key))/\Below w w w':=by
 have HC:=ag λ (w2:World) (hb:Below w w w2)=>nj (c:=c) (d:=l.tc) (hk.below hb) (hl.2.below hb) rfl rfl;have j4:Hid (Below w w (w.alloc (.cells (U2 l.fa l.from_.length l.fc l.en l.ta l.to.length l.tc) 178))):=ag bW;obtain⟨en,hen⟩:=bL l.en;unfold qI.v;rw[<-hen]at j4⊢;have Zl:=ag hen;clear hl hk hen;cases en with
 |false=>
  go_enter Tryz.func169,Tryz.ntmps169
  go_wp2_with fail
  go_ret;exact⟨by unfold qI.ends;rw[<-Zl.O];rfl,j4.O⟩
 |true=>
  go_enter Tryz.func169,Tryz.ntmps169
  go_wp2_with first
   |((with_reducible refine(HC.O _ j4.O).mono ?_);rintro e w2 ⟨rfl,rfl⟩)
   |fail
  go_ret;exact⟨by unfold qI.ends;rw[<-Zl.O];rfl,j4.O⟩
theorem SY{l:qI}{a:az}(c:Nat)(hl:wF w l)(hk:ay w a key):
 Calls Tryz.prog 168 #[l.v,.slice a key.length c] w λ e w'=>e= .returned (.bool (l.holds key))/\Below w w w':=by
 have HC:=ag λ (w2:World) (hb:Below w w w2)=>nj (c:=c) (d:=l.fc) (hk.below hb) (hl.1.below hb) rfl rfl;have HE:=ag λ (w2:World) (hb:Below w w w2)=>M5 c (hl.below hb) (hk.below hb);have j4:Hid (Below w w (w.alloc (.cells (U2 l.fa l.from_.length l.fc l.en l.ta l.to.length l.tc) 178))):=ag bW;clear hl hk;unfold qI.v at*;by_cases hc:0<=cmpL key l.from_
 ·have h1:decide (0<=cmpL key l.from_)=true:=decide_eq_true hc;have HH:Hid (l.holds key= !l.ends key):=ag (by unfold qI.holds;rw[h1];rfl);go_enter Tryz.func168,Tryz.ntmps168
  go_wp2_with first
   |((with_reducible refine(HC.O _ j4.O).mono ?_);rintro e w2 ⟨rfl,rfl⟩)
   |((with_reducible refine(HE.O _ j4.O).mono ?_);rintro e w2 ⟨rfl,bG⟩)
   |fail
  go_ret;exact⟨by rw[HH.O];rfl,j4.O.T (bG.mono j4.O.size)⟩
 ·have h1:decide (0<=cmpL key l.from_)=false:=decide_eq_false hc;have HH:Hid (l.holds key=false):=ag (by unfold qI.holds;rw[h1];rfl);go_enter Tryz.func168,Tryz.ntmps168
  go_wp2_with first
   |((with_reducible refine(HC.O _ j4.O).mono ?_);rintro e w2 ⟨rfl,rfl⟩)
   |fail
  go_ret;exact⟨by rw[HH.O];rfl,j4.O⟩
def dL(l:qI)(b:az)(kb cb:Nat)(tu:Bool)(la:az)(ln lc:Nat)(told:Bool)(UL:Int):Array Value:=
 #[.slice l.fa l.from_.length l.fc,.bool l.en,.slice l.ta l.to.length l.tc,.slice none 0 0,.slice b kb cb,.int .i64 (-1),.int .i64 (-1),.bool false,.bool tu,.slice la ln lc,.bool told,.int .i64 UL]
def O2(l:qI)(ks:List (List Nat))(i:Nat):Bool:=
 !(decide (0<i)&&l.ends (ks.getD i []))&&(decide (i+1=ks.length)||decide (0<cmpL (ks.getD (i+1) []) l.from_))
theorem wG(h:p:=by
 refine tT 21 hS ?_;refine sT 22 λ K hK=>?_;go_simp;refine et hK hS (λ hS=>?_);clear hK K;refine nK bU ?_ _
 go_wp2_with fail
 go_ret;exact⟨by rw[HH.O]<;>rfl,j4.O.drew⟩
 ):p:=h
theorem wH(h:p:=by
 refine tT 21 hS ?_;refine sT 22 λ K hK=>?_;go_simp;refine et hK hS (λ hS=>?_);clear hK K;refine nK bU ?_ _
 go_wp2_with fail
 go_ret;exact⟨by rw[HH.O]<;>rfl,ek.O.drew⟩
 ):p:=h
theorem abM{l:qI}{b:az}{kb:Nat}{la:az}{a:az}{xs:List a8}(hw:w.heap[Bw]? =some (.cells (dL l b kb cb tu la ln lc told UL) 180))(hl:wF w l)(hx:kJ w a xs)(hxl:xs.length<=100)(i:Nat)(hi:i<xs.length)(v1:az)(n1 c1:Nat):
 Calls Tryz.prog 125 (ZV (zp Bw) (.agg (zm v1 n1 c1 a xs.length c)) i) w λ e w'=>e= .returned (.bool (O2 l (xs.map a8.key) i))/\Below w w w':=by
 obtain⟨x,Hi⟩:∃x,xs[i]? =some x:=⟨xs[i],by simp[hi]⟩;obtain⟨C,o,rfl,hc⟩:∃C o,a=some ⟨C,o,none⟩/\∀(j:Nat) (x:a8),xs[j]? =some x->w.cell? ⟨C,o+j*8,none⟩=some (.slice x.ka x.key.length x.kc):=by
  rcases hx.1 with h|⟨C,o,e,h⟩
  ·rw[h]at hi;simp at hi
  ·exact⟨C,o,e, λ j x hj=>h j x hj 0 _ rfl⟩
 have Vy:(xs.map a8.key).getD i []=x.key:=by simp[List.getD,Hi]
 have HE:=ag λ (w2:World) (hb:Below w w w2)=>M5 x.kc (hl.below hb) ((hx.below hb).2 x (ak Hi));have Wl:=ag λ (y:a8) (hy:xs[i+1]? =some y) (w2:World) (hb:Below w w w2)=>nj (c:=y.kc) (d:=l.fc) ((hx.below hb).2 y (ak hy)) (hl.below hb).1 rfl rfl;have j4:Hid (Below w w (w.alloc (.cells (zm v1 n1 c1 (some ⟨C,o,none⟩) xs.length c) 147)).drew):=ag (by
  have:Below w w (w.alloc (.cells (zm v1 n1 c1 (some ⟨C,o,none⟩) xs.length c) 147)):=by go_grown
  exact this.drew)
 have HF:Hid (∀w2,Below w w w2->w2.cell? (za Bw 0)=some (.slice l.fa l.from_.length l.fc)/\w2.cell? (za Bw 1)=some (.bool l.en)/\w2.cell? (za Bw 2)=some (.slice l.ta l.to.length l.tc)/\w2.cell? ⟨C,o+i*8,none⟩=some (.slice x.ka x.key.length x.kc)):=ag λ w2 hb=>
  ⟨carry hb ((af hw 0).T rfl),carry hb ((af hw 1).T rfl),carry hb ((af hw 2).T rfl),carry hb (hc i x Hi)⟩
 have HC:=ag hc;have HKI:=ag Vy;have afb:(i:Int)<(xs.length:Int):=an;have aiG:(i:Int)<=100:=an;have hwi:IntKind.i64.wrap ((i:Int)+1)=(i:Int)+1:=by rw[aI];omega
 have hti:((i:Int)+1).toNat=i+1:=an;have ai0:(0:Int)<=(i:Int)+1:=an;unfold qI.v at HE;clear hw hx hl hc Hi Vy;obtain⟨f0,f1,f2,f3⟩:=HF.O _ j4.O;have f4:((w.alloc (.cells (zm v1 n1 c1 (some ⟨C,o,none⟩) xs.length c) 147)).drew).cell? (za w 2)=some (.slice (some ⟨C,o,none⟩) xs.length c):=by show(w.alloc (.cells (zm v1 n1 c1 (some ⟨C,o,none⟩) xs.length c) 147)).cell? _=_;rw[bO];rfl
 by_cases h0:i=0
 ·have h0i:decide ((0:Int)<(i:Int))=false:=dU;have hd:decide (0<i)=false:=dU;clear h0;go_enter Tryz.func125,Tryz.ntmps125
  go_wp2_with fail
  refine ku 99 (λ w'=>w'.cell? (za Bw 0)=some (.slice l.fa l.from_.length l.fc)/\w'.cell? (za Bw 1)=some (.bool l.en)/\w'.cell? (za Bw 2)=some (.slice l.ta l.to.length l.tc)/\w'.cell? ⟨C,o+i*8,none⟩=some (.slice x.ka x.key.length x.kc)/\w'.cell? (za w 2)=some (.slice (some ⟨C,o,none⟩) xs.length c)) bU ⟨f0,f1,f2,f3,f4⟩ (λ hS=>?_);refine tT 0 hS ?_;refine tT 1 hS ?_;refine tT 2 hS ?_;refine tU 3 hS ?_;refine tU 4 hS ?_;refine tU 5 hS ?_;refine tU 6 hS ?_;refine tU 7 hS ?_;refine tU 8 hS ?_;refine tU 9 hS ?_;refine tU 10 hS ?_;refine tU 11 hS ?_;refine tU 12 hS ?_;refine sT 13 λ K hK=>?_;go_simp;refine et hK hS (λ hS=>?_);clear hK K;refine sT 14 λ K hK=>?_;go_simp;refine et hK hS (λ hS=>?_);clear hK K;refine nK bU ?_ _
  go_wp2_with fail
  by_cases h1:i+1=xs.length
  ·have h1i:((i:Int)+1==(xs.length:Int))=true:=dU;have h1p:((i:Int)+1=(xs.length:Int))=True:=dU;have HH:Hid (O2 l (xs.map a8.key) i=true):=ag (by unfold O2;rw[hd];simp[h1]);clear h1;refine ku 99 (λ w'=>w'.cell? (za w 2)=some (.slice (some ⟨C,o,none⟩) xs.length c)) bU (by exact f4) (λ hS=>?_);refine tT 0 hS ?_;refine tT 1 hS ?_;refine tT 2 hS ?_;refine tT 3 hS ?_;refine tT 4 hS ?_;refine tT 5 hS ?_;refine tT 6 hS ?_;refine tU 7 hS ?_;refine tU 8 hS ?_;refine tU 9 hS ?_;refine tU 10 hS ?_;refine tU 11 hS ?_;refine tU 12 hS ?_;refine tU 13 hS ?_;refine tU 14 hS ?_;refine tU 15 hS ?_;refine tU 16 hS ?_;refine tU 17 hS ?_;refine tU 18 hS ?_;refine sT 19 λ K hK=>?_;go_simp;refine et hK hS (λ hS=>?_);clear hK K;refine tU 20 hS ?_;exact wG
  ·obtain⟨y,hy⟩:∃y,xs[i+1]? =some y:=⟨xs[i+1]'an,by simp<;>omega⟩;have h1i:((i:Int)+1==(xs.length:Int))=false:=dU;have h1p:((i:Int)+1=(xs.length:Int))=False:=dU;have h1j:(i:Int)+1<(xs.length:Int):=an;have Wm:(xs.map a8.key).getD (i+1) []=y.key:=by simp[List.getD,hy]
   have HH:Hid (O2 l (xs.map a8.key) i=decide (0<cmpL y.key l.from_)):=ag (by unfold O2;rw[hd,Wm];simp[h1]);have f5:=carry j4.O (HC.O _ y hy);have HY:=ag (Wl.O y hy);clear hy Wm;clear h1;refine ku 99 (λ w'=>w'.cell? (za Bw 0)=some (.slice l.fa l.from_.length l.fc)/\w'.cell? ⟨C,o+(i+1)*8,none⟩=some (.slice y.ka y.key.length y.kc)/\w'.cell? (za w 2)=some (.slice (some ⟨C,o,none⟩) xs.length c)) bU ⟨f0,f5,f4⟩ (λ hS=>?_);refine tT 0 hS ?_;refine tT 1 hS ?_;refine tT 2 hS ?_;refine tT 3 hS ?_;refine tT 4 hS ?_;refine tT 5 hS ?_;refine tT 6 hS ?_;refine tT 7 hS ?_;refine tT 8 hS ?_;refine tT 9 hS ?_;refine tT 10 hS ?_;refine tT 11 hS ?_;refine tT 12 hS ?_;refine tT 13 hS ?_;refine tT 14 hS ?_;refine tT 15 hS ?_;refine tT 16 hS ?_;refine tT 17 hS ?_;refine tT 18 hS ?_;refine sT 19 λ K hK=>?_;go_simp;(with_reducible refine(HY.O _ j4.O.drew).mono ?_);rintro e w2 ⟨rfl,rfl⟩;refine et hK ?_ (λ hS=>?_)
   ·exact hS
   clear hK K;refine tT 20 hS ?_;exact wG
 ·have h0i:decide ((0:Int)<(i:Int))=true:=dU;have hd:decide (0<i)=true:=dU;clear h0;go_enter Tryz.func125,Tryz.ntmps125
  go_wp2_with fail
  refine ku 99 (λ w'=>w'.cell? (za Bw 0)=some (.slice l.fa l.from_.length l.fc)/\w'.cell? (za Bw 1)=some (.bool l.en)/\w'.cell? (za Bw 2)=some (.slice l.ta l.to.length l.tc)/\w'.cell? ⟨C,o+i*8,none⟩=some (.slice x.ka x.key.length x.kc)/\w'.cell? (za w 2)=some (.slice (some ⟨C,o,none⟩) xs.length c)) bU ⟨f0,f1,f2,f3,f4⟩ (λ hS=>?_);refine tT 0 hS ?_;refine tT 1 hS ?_;refine tT 2 hS ?_;refine tT 3 hS ?_;refine tT 4 hS ?_;refine tT 5 hS ?_;refine tT 6 hS ?_;refine tT 7 hS ?_;refine tT 8 hS ?_;refine tT 9 hS ?_;refine tT 10 hS ?_;refine tT 11 hS ?_;refine tT 12 hS ?_;refine sT 13 λ K hK=>?_;go_simp;(with_reducible refine(HE.O _ j4.O).mono ?_);rintro e w3 ⟨rfl,cu⟩;have ek:=ag (j4.O.T (cu.mono j4.O.size));have g4:=carry cu f4;clear f0 f1 f2 f3 f4;have f4:=g4;obtain⟨f0,f1,f2,f3⟩:=HF.O _ ek.O;clear cu;refine et hK ?_ (λ hS=>?_)
  ·exact⟨f0,f1,f2,f3,f4⟩
  clear hK K;refine sT 14 λ K hK=>?_;go_simp;refine et hK hS (λ hS=>?_);clear hK K;refine nK bU ?_ _;by_cases hle:l.ends x.key=true
  ·have HH:Hid (O2 l (xs.map a8.key) i=false):=ag (by unfold O2;rw[HKI.O,hd,hle];rfl)
   go_wp2_with fail
   ·go_ret;exact⟨by rw[HH.O]<;>rfl,ek.O⟩
   ·exact absurd (hle.symm.T byA) de
  ·have hle:l.ends x.key=false:=by simpa using hle
   rw[<-HKI.O]at hle;have hlx:=hle;rw[HKI.O]at hlx;have HLE:=ag hle;clear hle
   go_wp2_with fail
   by_cases h1:i+1=xs.length
   ·have h1i:((i:Int)+1==(xs.length:Int))=true:=dU;have h1p:((i:Int)+1=(xs.length:Int))=True:=dU;have HH:Hid (O2 l (xs.map a8.key) i=true):=ag (by unfold O2;rw[hd,HLE.O];simp[h1]);clear h1;refine ku 99 (λ w'=>w'.cell? (za w 2)=some (.slice (some ⟨C,o,none⟩) xs.length c)) bU (by exact f4) (λ hS=>?_);refine tT 0 hS ?_;refine tT 1 hS ?_;refine tT 2 hS ?_;refine tT 3 hS ?_;refine tT 4 hS ?_;refine tT 5 hS ?_;refine tT 6 hS ?_;refine tU 7 hS ?_;refine tU 8 hS ?_;refine tU 9 hS ?_;refine tU 10 hS ?_;refine tU 11 hS ?_;refine tU 12 hS ?_;refine tU 13 hS ?_;refine tU 14 hS ?_;refine tU 15 hS ?_;refine tU 16 hS ?_;refine tU 17 hS ?_;refine tU 18 hS ?_;refine sT 19 λ K hK=>?_;go_simp;refine et hK hS (λ hS=>?_);clear hK K;refine tU 20 hS ?_;exact wH
   ·obtain⟨y,hy⟩:∃y,xs[i+1]? =some y:=⟨xs[i+1]'an,by simp<;>omega⟩;have h1i:((i:Int)+1==(xs.length:Int))=false:=dU;have h1p:((i:Int)+1=(xs.length:Int))=False:=dU;have h1j:(i:Int)+1<(xs.length:Int):=an;have Wm:(xs.map a8.key).getD (i+1) []=y.key:=by simp[List.getD,hy]
    have HH:Hid (O2 l (xs.map a8.key) i=decide (0<cmpL y.key l.from_)):=ag (by unfold O2;rw[hd,Wm,HLE.O];simp[h1]);have f5:=carry ek.O (HC.O _ y hy);have HY:=ag (Wl.O y hy);clear hy Wm;clear h1;refine ku 99 (λ w'=>w'.cell? (za Bw 0)=some (.slice l.fa l.from_.length l.fc)/\w'.cell? ⟨C,o+(i+1)*8,none⟩=some (.slice y.ka y.key.length y.kc)/\w'.cell? (za w 2)=some (.slice (some ⟨C,o,none⟩) xs.length c)) bU ⟨f0,f5,f4⟩ (λ hS=>?_);refine tT 0 hS ?_;refine tT 1 hS ?_;refine tT 2 hS ?_;refine tT 3 hS ?_;refine tT 4 hS ?_;refine tT 5 hS ?_;refine tT 6 hS ?_;refine tT 7 hS ?_;refine tT 8 hS ?_;refine tT 9 hS ?_;refine tT 10 hS ?_;refine tT 11 hS ?_;refine tT 12 hS ?_;refine tT 13 hS ?_;refine tT 14 hS ?_;refine tT 15 hS ?_;refine tT 16 hS ?_;refine tT 17 hS ?_;refine tT 18 hS ?_;refine sT 19 λ K hK=>?_;go_simp;(with_reducible refine(HY.O _ ek.O.drew).mono ?_);rintro e w2 ⟨rfl,rfl⟩;refine et hK ?_ (λ hS=>?_)
    ·exact hS
    clear hK K;refine tT 20 hS ?_;exact wH
inductive Nd where
 |leaf (xs:List aH)
 |inner (xs:List a8)
def Nd.enc:Nd->List Nat| .leaf xs=>dc xs| .inner xs=>cz xs
def Nd.Ok:Nd->Prop| .leaf xs=>nO xs/\∀x∈xs,1<=x.val.length| .inner xs=>gM xs
def Nd.is:Nd->Bool| .leaf _=>true| .inner _=>false
def Nd.red:Nd->Nat| .leaf xs=>xs.length| .inner xs=>(xs.map a8.count).sum
def Nd.keys:Nd->List (List Nat)| .leaf xs=>xs.map aH.key| .inner xs=>xs.map a8.key
def Nd.wK:Nd->Nd->Prop
 | .leaf ys,.leaf xs=>ys.map aH.key=xs.map aH.key/\ys.map aH.val=xs.map aH.val
 | .inner ys,.inner xs=>ys.map a8.key=xs.map a8.key/\ys.map a8.at_=xs.map a8.at_/\ys.map a8.count=xs.map a8.count
 |_,_=>False
def Nd.a1(a:az):Nd->az| .leaf _=>a| .inner _=>none
def Nd.n1:Nd->Nat| .leaf xs=>xs.length| .inner _=>0
def Nd.k1(k:Nat):Nd->Nat| .leaf _=>k| .inner _=>0
def Nd.a2(a:az):Nd->az| .leaf _=>none| .inner _=>a
def Nd.n2:Nd->Nat| .leaf _=>0| .inner xs=>xs.length
def Nd.k2(k:Nat):Nd->Nat| .leaf _=>0| .inner _=>k
def Nd.Ax(n:Nd):Nat:=n.n1+n.n2
def Nd.v(n:Nd)(a:az)(k:Nat):Value:=.agg (oS n.is (n.a1 a) n.n1 (n.k1 k) (n.a2 a) n.n2 (n.k2 k))
def Nd.R(W:World)(n₀:Nat)(a:az)(k:Nat):Nd->Prop| .leaf xs=>iQ W n₀ a k xs| .inner xs=>lx W n₀ a k xs
def Nd.At(W:World)(a:az):Nd->Prop| .leaf xs=>ec W a xs| .inner xs=>kJ W a xs
theorem Nd.At.below{W W':World}{a:az}{n:Nd}(h:n.At W a)(hb:Below W W W'):n.At W' a:=by
 cases n
 ·exact ec.below h hb
 ·exact kJ.below h hb
theorem Nd.R.at{W:World}{n₀ k:Nat}{a:az}{n:Nd}(h:n.R W n₀ a k):n.At W a:=by
 cases n
 ·exact iQ.at h
 ·exact lx.at h
theorem Nd.R.below{W W':World}{n₀ k:Nat}{a:az}{n:Nd}(h:n.R W n₀ a k)(hb:Below W W W'):n.R W' n₀ a k:=by
 cases n
 ·exact iQ.below h hb
 ·exact lx.below h hb
theorem Nd.R.zT{W:World}{n₀ eE k:Nat}{a:az}{n:Nd}(h:n.R W n₀ a k)(hn:eE<=n₀):n.R W eE a k:=by
 cases n
 ·exact iQ.zT h hn
 ·exact lx.zT h hn
theorem Nd.R.Di{W W':World}{R:Nat}(hk:∀j,j≠R->W'.heap[j]? =W.heap[j]?){cs:Array Value}{t:TypeId}{fz:Nat×Nat}(hR:W.heap[R]? =some (.cells cs t fz))(h1:t≠101)(h2:t≠144)(h8:∀(j x:Nat),cs[j]? ≠some (.int .u8 (x:Int))){n₀ k:Nat}{a:az}{n:Nd}(h:n.R W n₀ a k):n.R W' n₀ a k:=by
 cases n
 ·exact iQ.Di hk hR h1 h8 h
 ·exact lx.Di hk hR h2 h8 h
theorem Nd.wK.ok{m n:Nd}(h:m.wK n)(ho:n.Ok):m.Ok:=by
 cases m<;>cases n<;>simp only[Nd.wK]at h
 ·obtain⟨h1,h2,_⟩:=ho.1.same ho.2 h;exact⟨h1,h2⟩
 ·exact(gM.same ho h).1
theorem Nd.wK.enc{m n:Nd}(h:m.wK n)(ho:n.Ok):m.enc=n.enc:=by
 cases m<;>cases n<;>simp only[Nd.wK]at h
 ·exact(ho.1.same ho.2 h).2.2
 ·exact(gM.same ho h).2
theorem Nd.wK.keys{m n:Nd}(h:m.wK n):m.keys=n.keys:=by
 cases m<;>cases n<;>simp only[Nd.wK]at h
 ·exact h.1
 ·exact h.1
theorem Nd.wK.red{m n:Nd}(h:m.wK n):m.red=n.red:=by
 cases m<;>cases n<;>simp only[Nd.wK]at h
 ·have:=congrArg List.length h.1;simpa[Nd.red]using this
 ·simp only[Nd.red,h.2.2]
theorem Nd.wK.is{m n:Nd}(h:m.wK n):m.is=n.is:=by cases m<;>cases n<;>simp only[Nd.wK]at h<;>rfl
theorem Nd.wK.Ax{m n:Nd}(h:m.wK n):m.Ax=n.Ax:=by have:=congrArg List.length h.keys;cases m<;>cases n<;>simp only[Nd.wK]at h<;>simpa[Nd.keys,Nd.Ax,Nd.n1,Nd.n2]using this
theorem Nd.Ok.red{n:Nd}(ho:n.Ok):n.red<=1073741824:=by
 cases n with
 |leaf xs=>have:=ho.1.mE;simp only[Nd.red];omega
 |inner xs=>
  have h:=Et xs λ x hx=>(ho.key x hx).2.2.2.2.2;have:=ho.mE;simp only[nA]at h;simp only[Nd.red];omega
theorem KF{b:az}(hF:aQ w b c ps)(hm:Marks (aw ps))(at_ d:Nat){n:Nd}(hd:n.is=decide (d=0))(hr:iy (aw ps) at_ n.enc)(ho:n.Ok):
 Calls Tryz.prog 170 #[bN b ps.length c,.int .i64 (at_:Int),.int .i64 (d:Int)] w λ e w'=>∃(m:Nd) (a:az) (k:Nat),m.wK n/\e= .returned (.tuple #[m.v a k,.int .i64 0])/\m.R w' w a k/\Below w w w':=by
 cases n with
 |leaf xs=>
  have:d=0:=by simpa[Nd.is]using hd.symm
  subst this;refine(SX hF hm at_ hr ho.1 ho.2).mono ?_;rintro e w' ⟨ys,a,k,h1,rfl,h2,h3⟩;exact⟨.leaf ys,a,k,h1,rfl,h2,h3⟩
 |inner xs=>
  have:1<=d:=by have:¬ d=0:=by simpa[Nd.is]using hd.symm
                omega
  refine(PB hF hm at_ d this hr ho).mono ?_;rintro e w' ⟨ys,a,k,h1,rfl,h2,h3⟩;exact⟨.inner ys,a,k,h1,rfl,h2,h3⟩
def Nd.UM:Nd->az| .leaf (x::_)=>x.ka| .inner (x::_)=>x.ka|_=>none
theorem Jp{a:az}{n:Nd}(h:n.At w a)(ho:n.Ok)(key:List Nat)(hk:n.keys[0]? =some key):
 Calls Tryz.prog 171 #[n.v a k] w λ e w'=>∃c,e= .returned (.tuple (Lz n.UM key.length c))/\ay w' n.UM key/\Below w w w':=by
 cases n with
 |leaf xs=>
  cases xs with
  |nil=>simp[Nd.keys]at hk
  |cons x xs=>
   obtain rfl:x.key=key:=by simpa[Nd.keys]using hk
   refine(Px k h ho.1 none 0 x rfl).mono ?_;rintro e w' ⟨rfl,hb⟩;exact⟨_,rfl,(h.2 x bD).1.below hb,hb⟩
 |inner xs=>
  cases xs with
  |nil=>simp[Nd.keys]at hk
  |cons x xs=>
   obtain rfl:x.key=key:=by simpa[Nd.keys]using hk
   refine(MV k h ho none 0 x rfl).mono ?_;rintro e w' ⟨rfl,hb⟩;exact⟨_,rfl,(h.2 x bD).below hb,hb⟩
theorem Wo{a:az}{n:Nd}(h:n.At w a)(ho:n.Ok)(key:List Nat)(hk:n.keys[0]? =some key):
 Calls Tryz.prog 171 #[n.v a k] w λ e w'=>∃b c,e= .returned (.tuple (Lz b key.length c))/\ay w' b key/\Below w w w':=
 (Jp h ho key hk).mono λ e w' ⟨c,h1,h2,h3⟩=>⟨_,c,h1,h2,h3⟩
theorem Wp{a:az}{n:Nd}(h:n.R w n₀ a k)(ho:n.Ok)(key:List Nat)(hk:n.keys[0]? =some key):
 Calls Tryz.prog 171 #[n.v a k] w λ e w'=>∃b c,e= .returned (.tuple (Lz b key.length c))/\ay w' b key/\Below w w w':=Wo h.at ho key hk
theorem Wq{a:az}{n:Nd}(h:n.At w a)(ho:n.Ok):
 Calls Tryz.prog 172 #[n.v a k] w λ e w'=>e= .returned (.tuple #[iP (n.red:Nat),.int .i64 0])/\Below w w w':=by
 have hr:=ho.red;cases n with
 |leaf xs=>
  have e:=Jj xs;have:=SV k h ho.1 none 0 (by rw[e];exact hr);rw[e]at this;exact this
 |inner xs=>exact Py k h ho none 0 hr
theorem Ws{a:az}{n:Nd}(h:n.R w n₀ a k)(ho:n.Ok):
 Calls Tryz.prog 172 #[n.v a k] w λ e w'=>e= .returned (.tuple #[iP (n.red:Nat),.int .i64 0])/\Below w w w':=Wq h.at ho
theorem Wt(h:Array Obj)(g:Obj->Obj)(x:Obj):(h.push x).modify h.size g=h.push (g x):=by
 apply Array.ext
 ·simp
 ·intro i h1 h2;rw[Array.getElem_modify,Array.getElem_push,Array.getElem_push];by_cases hi:i<h.size
  ·rw[if_neg an,dif_pos hi,dif_pos hi]
  ·have:i=h.size:=by simp at h2;omega
   subst this;simp
theorem II(W:World)(cs:Array Value)(t:TypeId)(o:Nat)(v:Value):(W.alloc (.cells cs t)).setCell ⟨W.heap.size,o,none⟩ v=W.alloc (.cells (cs.setIfInBounds o v) t):=by unfold World.setCell World.alloc;dsimp only;rw[Wt];rfl
theorem wL(W:World)(t:TypeId):∀(vs:List Value) (pre zs:List Value),zs.length=vs.length->(W.alloc (.cells (pre++zs).toArray t)).setCells W pre.length vs=W.alloc (.cells (pre++vs).toArray t)
 |[],pre,zs,h=>by
  have:zs=[]:=cw.1 h;subst this;rfl
 |v::r,pre,z::zs,h=>by
  rw[World.setCells,II];have e:(pre++z::zs).toArray.setIfInBounds pre.length v=((pre++[v])++zs).toArray:=by rw[dq];congr 1;rw[List.set_append_right _ _ (cH),jv,eA,aS];rfl
  rw[e];have:=wL W t r (pre++[v]) zs jy;rw[ar]at this;rw[show pre.length+1=pre.length+[v].length from rfl,this,aS];rfl
 |_::_,_,[],h=>by simp at h
theorem zV(W:World)(t:TypeId)(zs cs:Array Value)(h:zs.size=cs.size):(W.alloc (.cells zs t)).setCells W 0 cs.toList=W.alloc (.cells cs t):=by have:=wL W t cs.toList [] zs.toList jy;simpa using this
theorem mf(ty:TypeId)(Sn:op.guard=none)(x y:Operand)(ho:op.op= .store ty x y)
 (B:Nat)(zs cells:Array Value)(hx:a.eval x= .pointer (zp B))(hB:B=W.heap.size)(hy:a.eval y= .agg cells)(hz:zs.size=cells.size)(hi:(P.info? ty).map (·.size)=some cells.size)(h1:cells.all (·.oneCell')=true)
 (h:wpList P ops Q rest (a.put op.dst undef) (W.alloc (.cells cells ty))):wpList P ops Q (op::rest) a (W.alloc (.cells zs ty)):=by
 subst hB;refine wpList_store_mid Sn ty x y ho W 0 cells hx hy (λ j hj=>?_) hi h1 (by rw[zV W ty zs cells hz];exact h);have hn:=ai W (.cells zs ty);refine⟨?_,ax hn _⟩;rw[af hn,aN,br an];rfl
def eu(cs:Array Value):Nat->List Value->Array Value
 |_,[]=>cs
 |o,v::r=>eu (cs.setIfInBounds o v) (o+1) r
theorem zW{B:Nat}{t:TypeId}{fz:Nat×Nat}:∀(vs:List Value) (o:Nat) (W:World) (cs:Array Value),W.heap[B]? =some (.cells cs t fz)->(W.setCells B o vs).heap[B]? =some (.cells (eu cs o vs) t fz)
 |[],_,_,_,h=>h
 |v::r,o,W,cs,h=>zW r (o+1) _ _ (aU (j:=o) v h)
theorem zX{B:Nat}:∀(vs:List Value) (o:Nat) (W:World) (j:Nat),j≠B->(W.setCells B o vs).heap[j]? =W.heap[j]?
 |[],_,_,_,_=>rfl
 |v::r,o,W,j,hj=>(zX r (o+1) _ j hj).T (aq W ⟨B,o,none⟩ v j hj)
theorem zY{B n₀:Nat}(hn:n₀<=B):∀(vs:List Value) (o:Nat) (U W:World),Below n₀ U W->Below n₀ U (W.setCells B o vs)
 |[],_,_,_,h=>h
 |v::r,o,U,W,h=>zY hn r (o+1) U _ (h.setCell (p:=⟨B,o,none⟩) hn v)
theorem Dj(h:W.heap[B]? =some (.cells cs t))(hn:o+n<=cs.size):W.there B o n:= λ j hj=>⟨by rw[af h,br an];rfl,ax h _⟩
theorem aF{cs:List Value}(h:W.heap[B]? =some (.cells cs.toArray t)):W.rangeAt B 0 cs:= λ j v hv=>by rw[af h,aN];simpa using hv
theorem abN{K:Act->World->Prop}(ty:TypeId)(x y:Operand)(ho:op.op= .store ty x y)
 (B:Nat)(zs cells:Array Value)(hx:a.eval x= .pointer (zp B))(hB:B=W.heap.size)(hy:a.eval y= .agg cells)(hz:zs.size=cells.size)(hi:(P.info? ty).map (·.size)=some cells.size)(h1:cells.all (·.oneCell')=true)
 (h:K (a.put op.dst undef) (W.alloc (.cells cells ty))):op.wp P a (W.alloc (.cells zs ty)) K Q:=by
 subst hB;have hn:=ai W (.cells zs ty);refine wp_store_mid ty x y ho W 0 cells hx hy (λ j hj=>⟨?_,ax hn _⟩) hi h1 (by rw[zV W ty zs cells hz];exact h);rw[af hn,aN,br an];rfl
theorem fT(ty:TypeId)(Sn:op.guard=none)(x y:Operand)(ho:op.op= .store ty x y)
 (B o:Nat)(cs cells:Array Value)(t:TypeId)(hx:a.eval x= .pointer (some ⟨B,o,none⟩))(hy:a.eval y= .agg cells)(hB:W.heap[B]? =some (.cells cs t))(hz:o+cells.size<=cs.size)(hi:(P.info? ty).map (·.size)=some cells.size)(h1:cells.all (·.oneCell')=true)
 (h:∀W',W'.heap[B]? =some (.cells (eu cs o cells.toList) t)->(∀j,j≠B->W'.heap[j]? =W.heap[j]?)->(∀n U,n<=B->Below n U W->Below n U W')->wpList P ops Q rest (a.put op.dst undef) W'):wpList P ops Q (op::rest) a W:=
 wpList_store_mid Sn ty x y ho B o cells hx hy (Dj hB hz) hi h1
  (h _ (zW _ _ _ _ hB) (λ j hj=>zX _ _ _ j hj) (λ n U hn hb=>zY hn _ _ U _ hb))
theorem iG{K:Act->World->Prop}(ty:TypeId)(x y:Operand)(ho:op.op= .store ty x y)
 (B o:Nat)(cs cells:Array Value)(t:TypeId)(hx:a.eval x= .pointer (some ⟨B,o,none⟩))(hy:a.eval y= .agg cells)(hB:W.heap[B]? =some (.cells cs t))(hz:o+cells.size<=cs.size)(hi:(P.info? ty).map (·.size)=some cells.size)(h1:cells.all (·.oneCell')=true)
 (h:∀W',W'.heap[B]? =some (.cells (eu cs o cells.toList) t)->(∀j,j≠B->W'.heap[j]? =W.heap[j]?)->(∀n U,n<=B->Below n U W->Below n U W')->K (a.put op.dst undef) W'):op.wp P a W K Q:=
 wp_store_mid ty x y ho B o cells hx hy (Dj hB hz) hi h1
  (h _ (zW _ _ _ _ hB) (λ j hj=>zX _ _ _ j hj) (λ n U hn hb=>zY hn _ _ U _ hb))
def cV{β:Type}(f:β->List Value)(sz:Nat)(W:World)(a:az)(xs:List β):Prop:=
 xs=[]\/∃B o,a=some ⟨B,o,none⟩/\∀(j:Nat) (x:β),xs[j]? =some x->W.rangeAt B (o+j*sz) (f x)
section
variable {β : Type} {f : β -> List Value} {sz : Nat} {W W' : World} {a : az} {xs : List β}
theorem nm{cs:List Value}(h:W.rangeAt B o cs)(hb:Below W W W'):W'.rangeAt B o cs:= λ j v hv=>carry hb (h j v hv)
theorem cV.below(h:cV f sz W a xs)(hb:Below W W W'):cV f sz W' a xs:=by
 rcases h with h|⟨B,o,e,h⟩
 ·exact .inl h
 ·exact .inr ⟨B,o,e, λ j x hx i v hv=>carry hb (h j x hx i v hv)⟩
theorem cV.nil:cV f sz W a []:=.inl rfl
theorem cV.take(h:cV f sz W a xs)(n:Nat):cV f sz W a (xs.take n):=by
 rcases h with h|⟨B,o,e,h⟩
 ·exact .inl (by rw[h];simp)
 ·refine .inr ⟨B,o,e, λ j x hx=>h j x ?_⟩;rw[bB]at hx;split at hx
  ·exact hx
  ·cases hx
theorem cV.drop{B o:Nat}(h:cV f sz W (some ⟨B,o,none⟩) xs)(n:Nat):cV f sz W (some ⟨B,o+n*sz,none⟩) (xs.drop n):=by
 rcases h with h|⟨B',o',e,h⟩
 ·exact .inl (by rw[h];simp)
 ·cases e;refine .inr ⟨B,o+n*sz,rfl, λ j x hx=>?_⟩;rw[fi]at hx;have:=h _ _ hx;rw[fB,<-bh]at this;exact this
theorem cV.get{x:β}(h:cV f sz W (some ⟨B,o,none⟩) xs)(hj:xs[j]? =some x):W.rangeAt B (o+j*sz) (f x):=by
 rcases h with h|⟨B',o',e,h⟩
 ·rw[h]at hj;simp at hj
 ·cases e;exact h j x hj
theorem cV.some_(h:cV f sz W a xs)(h1:1<=xs.length):∃B o,a=some ⟨B,o,none⟩:=by
 rcases h with h|⟨B,o,e,_⟩
 ·rw[h]at h1;simp at h1
 ·exact⟨B,o,e⟩
theorem cV.kM(h:W.ownsRow n₀ e sz (.slice a k c) k (xs.flatMap f))(hf:∀x,(f x).length=sz)(kA:0<sz):cV f sz W a xs:=by
 cases xs with
 |nil=>exact .inl rfl
 |cons y ys=>
  rcases Ew h with h0|⟨g,rfl, -, -,hc⟩
  ·have h1:=hf y;rw[bf]at h0;have h2:=(List.append_eq_nil_iff.1 h0).1;rw[h2]at h1;simp at h1;omega
  ·refine .inr ⟨g,0,rfl, λ j x hx i v hv=>?_⟩;rw[aN];exact hc _ _ (wm f sz hf _ j x i v hx hv)
end
theorem kN{a:az}{xs:List aH}:ec W a xs↔cV aH.cells 4 W a xs/\∀x∈xs,ay W x.ka x.key/\ay W x.va x.val:=by
 refine⟨λ h=>⟨?_,h.2⟩, λ h=>⟨?_,h.2⟩⟩
 ·rcases h.1 with h|⟨B,o,e,h⟩
  ·exact .inl h
  ·refine .inr ⟨B,o,e, λ j x hx i v hv=>?_⟩;obtain⟨h0,h1,h2,h3⟩:=h j x hx;rcases i with _|_|_|_|i
   ·cases hv;exact h0
   ·cases hv;exact h1
   ·cases hv;exact h2
   ·cases hv;exact h3
   ·simp[aH.cells]at hv
 ·rcases h.1 with h|⟨B,o,e,h⟩
  ·exact .inl h
  ·exact .inr ⟨B,o,e, λ j x hx=>⟨h j x hx 0 _ rfl,h j x hx 1 _ rfl,h j x hx 2 _ rfl,h j x hx 3 _ rfl⟩⟩
theorem KG{a:az}{xs:List a8}:kJ W a xs↔cV a8.cells 8 W a xs/\∀x∈xs,ay W x.ka x.key:=Iff.rfl
theorem lU(ty:TypeId){x y:Operand}{zs cells:Array Value}(h:wpList P ops Q rest (a.put op.dst undef) (W.alloc (.cells cells ty)))(Sn:op.guard=none:=by exact rfl)(ho:op.op= .store ty x y:=by exact rfl)(hx:a.eval x= .pointer (zp B):=by exact rfl)(hB:B=W.heap.size:=by simp)(hy:a.eval y= .agg cells:=by exact rfl)(hz:zs.size=cells.size:=by rfl)(hi:(P.info? ty).map (·.size)=some cells.size:=by kernel_rfl)(h1:cells.all (·.oneCell')=true:=by simp[Value.oneCell']):wpList P ops Q (op::rest) a (W.alloc (.cells zs ty)):=mf ty Sn x y ho B zs cells hx hB hy hz hi h1 h
theorem M6:∀(xs ys:List Value) (pre:List Value),xs.length=ys.length->eu (pre++xs).toArray pre.length ys=(pre++ys).toArray
 |[],[],pre,_=>by simp[eu]
 |[],_::_,_,h=>by simp at h
 |_::_,[],_,h=>by simp at h
 |x::xs,y::ys,pre,h=>by
  have e:((pre++x::xs).toArray.setIfInBounds pre.length y)=((pre++[y])++xs).toArray:=by simp
  have k:=M6 xs ys (pre++[y]) jy;unfold eu;rw[e];simpa using k
theorem FF(cs cells:Array Value)(h:cells.size=cs.size):eu cs 0 cells.toList=cells:=by have:=M6 cs.toList cells.toList [] (by simp[h]);simpa using this
theorem lz(ty:TypeId)(cells:Array Value){x y:Operand}(hB:W.heap[B]? =some (.cells cs t))
 (h:∀W',W'.heap[B]? =some (.cells cells t)->(∀j,j≠B->W'.heap[j]? =W.heap[j]?)->(∀n U,n<=B->Below n U W->Below n U W')->wpList P ops Q rest (a.put op.dst undef) W')
 (Sn:op.guard=none:=by exact rfl)(ho:op.op= .store ty x y:=by exact rfl)(hx:a.eval x= .pointer (zp B):=by exact rfl)(hy:a.eval y= .agg cells:=by exact rfl)(hz:cells.size=cs.size:=by simp)(hi:(P.info? ty).map (·.size)=some cells.size:=by kernel_rfl)(h1:cells.all (·.oneCell')=true:=by simp[Value.oneCell']):wpList P ops Q (op::rest) a W:=
 fT ty Sn x y ho B 0 cs cells t hx hy hB (by omega) hi h1 λ W' g=>by rw[FF cs cells hz]at g;exact h W' g
theorem pN{K:Act->World->Prop}(ty:TypeId)(cells:Array Value){x y:Operand}(hB:W.heap[B]? =some (.cells cs t))
 (h:∀W',W'.heap[B]? =some (.cells cells t)->(∀j,j≠B->W'.heap[j]? =W.heap[j]?)->(∀n U,n<=B->Below n U W->Below n U W')->K (a.put op.dst undef) W')
 (ho:op.op= .store ty x y:=by exact rfl)(hx:a.eval x= .pointer (zp B):=by exact rfl)(hy:a.eval y= .agg cells:=by exact rfl)(hz:cells.size=cs.size:=by simp)(hi:(P.info? ty).map (·.size)=some cells.size:=by kernel_rfl)(h1:cells.all (·.oneCell')=true:=by simp[Value.oneCell']):op.wp P a W K Q:=
 iG ty x y ho B 0 cs cells t hx hy hB (by omega) hi h1 λ W' g=>by rw[FF cs cells hz]at g;exact h W' g
def FG(W:World)(src:az)(m:Nat)(news:List Value):Prop:=(m=0/\src=none)\/∃B o,src=some ⟨B,o,none⟩/\∀(j:Nat) (u:Value),news[j]? =some u->W.cell? (za B (o+j))=some u
theorem lQ{e:Nat}{a:az}{xs:List Value}(h:W.ownsRow n₀ e sz (.slice a k c) k xs):k<=c:=by
 rcases h.2 with⟨h,_⟩|⟨g,cap,cur,h,_,_,h2,_⟩
 ·cases h;exact cH
 ·cases h;exact h2
theorem Ro{e:Nat}{a:az}{xs:List Value}{v':Value}(h:W.ownsRow n₀ e sz (.slice a k c) k xs)(hg:W.grownBy W' (Value.slice a k c).ownBlock)(hn:n₀<=W.heap.size)(mU:v'.ownBlock=(Value.slice a k c).ownBlock\/v'.ownBlock=some W.heap.size):dC n₀ W W' (.slice a k c) v' where
 below:=(ah n₀ W).grown hg hn λ j ej=>by
  rcases bg h with⟨rfl,_⟩|⟨g,cur,rfl,hb,_⟩
  ·simp[Value.ownBlock]at ej
  ·obtain rfl:g=j:=by simpa[Value.ownBlock]using ej
   exact hb
 eG:= λ j hj hv=>hg.block j hj (λ e=>hv e.symm)
 at_:=mU.elim .inl λ h=>.inr ⟨_,h,cH⟩
theorem mg(t e:TypeId)(z:Value)(sz bytes:Nat)(ht:P.underlying t=some (.slice e))(vw:(P.info? e).map (λ i=>(i.zero,i.size,i.bytes))=some (some z,sz,bytes))(vT:z.cells.size=sz)(kA:0<sz){m cc:Nat}{a src:az}{xs news:List Value}(hl:news.length=m*sz)(hs:FG W src m news)(h1:∀u∈news,u.oneCell'=true)(bA:W.ownsRow n₀ e sz (.slice a k c) k xs)(hk:k+m<=1048576)(iL:bytes<=4096)(hn:n₀<=W.heap.size)(Av:src=none->cc=0):
 ∃a' c' w',(Builtin.append_ #[t,t] t (fP a k c src m cc)).run P W= .ok (.slice a' (k+m) c') w'/\
  w'.ownsRow n₀ e sz (.slice a' (k+m) c') (k+m) (xs++news)/\dC n₀ W w' (.slice a k c) (.slice a' (k+m) c'):=by
 obtain⟨i0,hi,l8,j5,vr⟩:=info_parts vw;rcases hs with⟨rfl,rfl⟩|⟨B,o,rfl,hc⟩
 ·obtain rfl:=Av rfl;have hx:news=[]:=eT (by simpa using hl);subst hx;refine⟨a,c,W,?_,by simpa using bA,dC.refl _ _ _⟩;rcases bA.2 with⟨h,_⟩|⟨g,cap,cur,h,_,_,h2,h3,h4,_⟩
  ·cases h;simp[Builtin.append_,run_underlying ht,sizeOf,typeInfo,hi,Builtin.lenOf,Builtin.firstCells,loadCells,loadCellsFrom]
  ·cases h;have h5:(k:Int)<=(c:Int):=an;simp[Builtin.append_,run_underlying ht,sizeOf,typeInfo,hi,Builtin.lenOf,Builtin.firstCells,loadCells,loadCellsFrom,storeCells,h2]
 ·have hmul:(k+m)*bytes<=1048576*4096:=eX hk iL;obtain⟨v',w1,eh,gp,jQ,SZ,mU⟩:=run_append_own_at (P:=P) W n₀ t t e i0 z sz bytes ht hi l8 j5 vr vT kA _ _ xs bA
   ⟨B,o,none⟩ m cc news hl (λ j u hj=>by rw[kQ];exact hc j u hj) h1 kt an hn
  rcases gp.2 with⟨h,h0⟩|⟨g,cap,cur,h,_⟩
  ·subst h;obtain rfl:k=0:=an;obtain rfl:m=0:=an;exact⟨none,0,w1,eh,gp,Ro bA jQ hn mU⟩
  ·subst h;exact⟨some ⟨g,0,none⟩,cap,w1,eh,gp,Ro bA jQ hn mU⟩
theorem gR(t e:TypeId)(z:Value)(sz bytes:Nat)(ht:P.underlying t=some (.slice e))(vw:(P.info? e).map (λ i=>(i.zero,i.size,i.bytes))=some (some z,sz,bytes))(vT:z.cells.size=sz)(kA:0<sz){a:az}{xs:List Value}(cells:List Value)(fh:cells.length=sz)(h1:∀u∈cells,u.oneCell'=true)(bA:W.ownsRow n₀ e sz (.slice a k c) k xs)(hk:k+1<=1048576)(iL:bytes<=4096)(hn:n₀<=W.heap.size):
 ∃g' c' w',(Builtin.append_ #[t,t] t (fP a k c (zp W) 1 1)).run P (W.alloc (.cells cells.toArray e))= .ok (.slice (zp g') (k+1) c') w'/\
  w'.ownsRow n₀ e sz (.slice (zp g') (k+1) c') (k+1) (xs++cells)/\dC n₀ W w' (.slice a k c) (.slice (zp g') (k+1) c'):=by
 obtain⟨g',c',w',eh,jC,hb,hg,Y7,mU⟩:=kZ (P:=P) t e z sz bytes ht vw vT kA cells.toArray (by simpa using fh) (by simpa using h1) bA hk iL hn;exact⟨g',c',w',eh,by simpa using jC,hb, λ j hj hv=>Y7.block j hj (λ e=>hv e.symm),mU.elim (λ h=>.inl h.symm) (λ h=>.inr ⟨g',rfl,h⟩)⟩
theorem cV.src{β:Type}{f:β->List Value}{a:az}{xs:List β}(h:cV f sz W a xs)(ha:a=none\/∃B o,a=some ⟨B,o,none⟩)(hf:∀x,(f x).length=sz)(kA:0<sz):FG W a xs.length (xs.flatMap f):=by
 cases a with
 |none=>
  rcases h with h|⟨B,o,e,_⟩
  ·subst h;exact .inl ⟨rfl,rfl⟩
  ·cases e
 |some p=>
  rcases h with h|⟨B,o,e,h⟩
  ·subst h;rcases ha with ha|⟨B,o,ha⟩
   ·cases ha
   ·cases ha;exact .inr ⟨B,o,rfl, λ j u hj=>by simp at hj⟩
  ·cases e;refine .inr ⟨B,o,rfl, λ j u hj=>?_⟩;have key:∀(xs:List β) (j:Nat) (u:Value),(xs.flatMap f)[j]? =some u->∃i x,xs[j/sz]? =some x/\(f x)[i]? =some u/\j=j/sz*sz+i:=by
    intro xs
    induction xs with
    |nil=>intro j u hj;simp at hj
    |cons x xs ih=>
     intro j u hj;rw[bf]at hj;by_cases cL:j<sz
     ·rw[cO (by rw[hf];exact cL)]at hj;exact⟨j,x,by rw[jb cL];rfl,hj,by rw[jb cL];omega⟩
     ·rw[bJ (by rw[hf];omega),hf]at hj;obtain⟨i,y,h1,h2,h3⟩:=ih _ _ hj;have hd:j/sz=(j - sz)/sz+1:=by
       conv=>lhs;rw[show j=(j - sz)+sz by omega]
       exact Nat.add_div_right _ kA
      refine⟨i,y,by rw[hd];exact h1,h2,?_⟩;rw[hd,jw];omega
   obtain⟨i,x,h1,h2,h3⟩:=key xs j u hj;have:=h _ x h1 i u h2;rw[h3,<-bh];exact this
abbrev KV:=List Nat×List Nat
def fF(x:aH):KV:=(x.key,x.val)
def jH(all:List Nat):Nat->Nd->Nat->List KV->Prop
 |0,.leaf xs,at_,items=>iy all at_ (dc xs)/\(Nd.leaf xs).Ok/\items=xs.map fF
 |d+1,.inner xs,at_,items=>iy all at_ (cz xs)/\(Nd.inner xs).Ok/\∃fD:List (List KV),fD.length=xs.length/\items=fD.flatten/\
   ∀(j:Nat) (x:a8) (s:List KV),xs[j]? =some x->fD[j]? =some s->x.at_<at_/\∃n:Nd,3<=n.Ax/\x.count=n.red/\n.keys[0]? =some x.key/\jH all d n x.at_ s
 |_,_,_,_=>False
theorem jH.more{all:List Nat}(m:List Nat):∀{d at_:Nat} {n:Nd} {items:List KV},jH all d n at_ items->jH (all++m) d n at_ items
 |0,_,.leaf _,_,⟨h1,h2,h3⟩=>⟨h1.more m,h2,h3⟩
 |d+1,_,.inner _,_,⟨h1,h2,fD,h3,h4,h5⟩=>⟨h1.more m,h2,fD,h3,h4, λ j x s hx hs=>by
   obtain⟨a1,n,a2,a3,a4,a5⟩:=h5 j x s hx hs;exact⟨a1,n,a2,a3,a4,a5.more m⟩⟩
 |0,_,.inner _,_,h=>h.elim
 |_+1,_,.leaf _,_,h=>h.elim
theorem jH.node{all:List Nat}:∀{d at_:Nat} {n:Nd} {items:List KV},jH all d n at_ items->iy all at_ n.enc/\n.Ok/\n.is=decide (d=0)
 |0,_,.leaf _,_,⟨h1,h2,_⟩=>⟨h1,h2,rfl⟩
 |_+1,_,.inner _,_,⟨h1,h2,_⟩=>⟨h1,h2,rfl⟩
 |0,_,.inner _,_,h=>h.elim
 |_+1,_,.leaf _,_,h=>h.elim
theorem Dk:∀(xs:List a8) (fD:List (List KV)),fD.length=xs.length->(∀(j:Nat) (x:a8) (s:List KV),xs[j]? =some x->fD[j]? =some s->x.count=s.length)->(xs.map a8.count).sum=fD.flatten.length
 |[],[],_,_=>rfl
 |[],_::_,h,_=>by simp at h
 |_::_,[],h,_=>by simp at h
 |x::xs,s::fD,h,hj=>by
  rw[bF,iT,kG,ar,hj 0 x s rfl rfl,Dk xs fD jy λ j x s hx hs=>hj (j+1) x s hx hs]
theorem jH.count{all:List Nat}:∀{d at_:Nat} {n:Nd} {items:List KV},jH all d n at_ items->n.red=items.length
 |0,_,.leaf _,_,⟨_,_,h3⟩=>by subst h3;simp[Nd.red]
 |d+1,_,.inner xs,_,⟨_,_,fD,h3,h4,h5⟩=>by
  subst h4;exact Dk xs fD h3 λ j x s hx hs=>by
   obtain⟨_,n,_,a3,_,a5⟩:=h5 j x s hx hs;rw[a3,a5.count]
 |0,_,.inner _,_,h=>h.elim
 |_+1,_,.leaf _,_,h=>h.elim
theorem jH.first{all:List Nat}:∀{d at_:Nat} {n:Nd} {items:List KV},jH all d n at_ items->∃kv r,items=kv::r/\n.keys[0]? =some kv.1
 |0,_,.leaf xs,_,⟨_,h2,h3⟩=>by
  have:=h2.1.MK;cases xs with
  |nil=>simp at this
  |cons x xs=>exact⟨fF x,xs.map fF,h3,rfl⟩
 |d+1,_,.inner xs,_,⟨_,h2,fD,h3,h4,h5⟩=>by
  have:=gM.ML h2
  match xs,fD,h3,h4,h5 with
  |x::xs,s::fD,h3,h4,h5=>
   obtain⟨_,n,_,_,a4,a5⟩:=h5 0 x s rfl rfl;obtain⟨kv,r,e1,e2⟩:=a5.first
   refine⟨kv,r++fD.flatten,by rw[h4,e1];rfl,?_⟩;rw[e2]at a4;simpa[Nd.keys]using a4.symm
  |[],_,_,_,_=>simp at this
  |_::_,[],h3,_,_=>simp at h3
 |0,_,.inner _,_,h=>h.elim
 |_+1,_,.leaf _,_,h=>h.elim
structure fx(all:List Nat)(at_ d c:Nat)(items:List KV):Prop where
 none_:items=[]->at_=0/\d=0
 some_:items≠[]->1<=at_/\d<=8/\∃n,jH all d n at_ items
 count:c=items.length
 zM:cR (items.map Prod.fst)
theorem fx.more{all:List Nat}{at_ d n:Nat}{items:List KV}(h:fx all at_ d n items)(m:List Nat):fx (all++m) at_ d n items:=
 ⟨h.none_, λ e=>by obtain⟨a,b,f,s⟩:=h.some_ e;exact⟨a,b,f,s.more m⟩,h.count,h.zM⟩
theorem m8{u v x:Value}{fz:Nat×Nat}(h:W.heap[B]? =some (.cells #[u,v,x] t fz)):W.cell? (za B 0)=some u/\W.cell? (za B 1)=some v/\W.cell? (za B 2)=some x:=⟨(af h 0).T rfl,(af h 1).T rfl,(af h 2).T rfl⟩
theorem Nd.Ok.LB{n:Nd}(ho:n.Ok):n.n1<=6/\n.n2<=6:=by
 cases n with
 |leaf xs=>exact⟨ho.1.mE,aD _⟩
 |inner xs=>exact⟨aD _,gM.mE ho⟩
theorem wM(h:p:=by
 refine bodyPost_ret (v:=.tuple #[m.v a k,.bool true]) ?_ bp ⟨m,a,k,Cw.O,rfl,HI6.O.Di (λ j hj=>pf j hj) HXR.O de de oW,(fW.O.T (tl.O.mono fW.O.size)).T (mZ (bk _))⟩;obtain⟨s0,s1,s2⟩:=m8 (FE (v0:=.bool m.is) (v1:=.slice (m.a1 a) m.n1 (m.k1 k)) (v2:=.slice (m.a2 a) m.n2 (m.k2 k)) HXR.O);rw[results_cell_tmp rfl];unfold Nd.v;go_simp
 ):p:=h
theorem rr(h:p:=by
 have bG:=fW.O.T (hb.mono fW.O.size);have hc:∀j,w2.cell? ⟨Bw,j,none⟩=(dL l b ps.length cb tu la ln lc told UL)[j]? := λ j=>af ((bG.block Bw (cS hw).1).T hw) j;rw[bY]at hb;have eb:=bu hb;exact⟨⟨(hc 3).T rfl,(hc 4).T rfl,(hc 5).T rfl,(hc 6).T rfl,(hc 7).T rfl⟩,⟨(af eb.1 0).T rfl,(af eb.1 1).T rfl,(af eb.1 2).T rfl,(af eb.1 3).T rfl,(af eb.1 4).T rfl,(af eb.1 5).T rfl,(af eb.1 6).T rfl,(af eb.1 7).T rfl⟩,eb.2⟩
 ):p:=h
theorem aaj{l:qI}{b:az}{la:az}(hw:w.heap[Bw]? =some (.cells (dL l b ps.length cb tu la ln lc told UL) 180))(hF:aQ w b cb ps)(hm:Marks (aw ps))
 (x:a8)(hx:ay w x.ka x.key)(Rr d:Nat){n:Nd}(hd:n.is=decide (d=0))(hr:iy (aw ps) x.at_ n.enc)(ho:n.Ok)(hab:x.at_<Rr)(Ww:3<=n.Ax)(Wy:x.count=n.red)(Wz:n.keys[0]? =some x.key):
 Calls Tryz.prog 126 #[.pointer (zp Bw),x.v,.int .i64 (d:Int),.int .i64 (Rr:Int)] w λ e w'=>∃(m:Nd) (a:az) (k:Nat),m.wK n/\e= .returned (.tuple #[m.v a k,.bool true])/\m.R w' w a k/\Below w w w':=by
 have HLD:=ag λ (w2:World) (hb:Below w w w2)=>KF (hF.below hb) hm x.at_ d hd hr ho;have HFI:=ag λ (w2:World) (m:Nd) (a:az) (k n₀:Nat) (hs:m.wK n) (h:m.R w2 n₀ a k)=>Wp h (hs.ok ho) x.key (by rw[hs.keys];exact Wz);have Zq:=ag λ (w2:World) (m:Nd) (a:az) (k n₀:Nat) (hs:m.wK n) (h:m.R w2 n₀ a k)=>Ws h (hs.ok ho);have HEQ:=ag λ (w2:World) (hb:Below w w w2) (b:az) (c d:Nat) (hk:ay w2 b x.key)=>Cq (c:=c) (d:=d) hk (hx.below hb) rfl rfl;have ack:=ag λ (m:Nd) (hs:m.wK n)=>(⟨hs.Ax▸Ww,(hs.ok ho).LB⟩:3<=m.Ax/\m.n1<=6/\m.n2<=6);have adr:=ag λ (m:Nd) (hs:m.wK n)=>(hs.red▸Wy:x.count=m.red);unfold bN at HLD;obtain⟨w1,bY⟩:=bL ((w.alloc (.cells (jl x.ka x.key.length x.kc x.at_ x.count) 144)).alloc (.cells jR 147));have fW:Hid (Below w w w1):=ag (by rw[bY];go_grown);have HF:Hid (∀w2,Below w1 w1 w2->(w2.cell? (za Bw 3)=some (.slice none 0 0)/\w2.cell? (za Bw 4)=some (.slice b ps.length cb)/\w2.cell? (za Bw 5)=some (.int .i64 (-1))/\w2.cell? (za Bw 6)=some (.int .i64 (-1))/\w2.cell? (za Bw 7)=some (.bool false))/\
  (w2.cell? (za w 0)=some (.slice x.ka x.key.length x.kc)/\w2.cell? (za w 1)=some (.int .i64 (x.at_:Int))/\w2.cell? (za w 2)=some (.int .i64 (x.count:Int))/\w2.cell? (za w 3)=some (.int .i64 0)/\w2.cell? (za w 4)=some (.int .i64 0)/\w2.cell? (za w 5)=some (.int .u64 0)/\w2.cell? (za w 6)=some (.int .i64 0)/\w2.cell? (za w 7)=some (.int .i64 0))/\
  w2.heap[w.heap.size+1]? =some (.cells jR 147)):=ag λ w2 hb=>by
  exact rr
 have vW:decide ((Rr:Int)<=(x.at_:Int))=false:=dU;unfold a8.v SP;clear hw hF hm hr hx hd ho Wz Ww Wy hab;have gC:w1.heap.size=w.heap.size+1+1:=by rw[bY];simp
 go_enter Tryz.func126,Tryz.ntmps126
 go_wp2_with fail
 rw[<-bY];have eJ:=ag (ah w1 w1);clear bY;obtain⟨⟨f3,f4,f5,f6,f7⟩,⟨x0,x1,x2,x3,x4,x5,x6,x7⟩, -⟩:=HF.O _ eJ.O;refine bP 14 ?_;refine tP [0,1,2,3,4,5,6] ?_
 iterate 7 refine tO ?_
 refine au 7 rfl ?_;refine G6 7 11 [0,1,2,3,4,5,6] [] (λ K hK=>?_) λ K hK=>?_;go_simp;(with_reducible refine(HLD.O _ (fW.O.T (eJ.O.mono fW.O.size)).drew).mono ?_);rintro e w3 ⟨m,a,k,gl,rfl,wE,cu⟩;have ek:=ag (eJ.O.drew.T (cu.mono eJ.O.size));have qb:=ag wE;have S4:=ag cu;have Cw:=ag gl;unfold Nd.v;clear wE cu gl;clear f3 f4 f5 f6 f7 x0 x1 x2 x3 x4 x5 x6 x7;obtain⟨⟨f3,f4,f5,f6,f7⟩,⟨x0,x1,x2,x3,x4,x5,x6,x7⟩, -⟩:=HF.O _ ek.O;refine nP hK ?_;clear hK K;refine tP [8,9,10] ?_
 iterate 3 refine tO ?_
 refine au 3 rfl ?_;refine sP 11 [0,1,2,3,4,5,6] λ K hK=>?_;go_simp;have Nc:=ag (ek.O.alloc ek.O.size (.cells jR 147));clear f3 f4 f5 f6 f7 x0 x1 x2 x3 x4 x5 x6 x7;obtain⟨⟨f3,f4,f5,f6,f7⟩,⟨x0,x1,x2,x3,x4,x5,x6,x7⟩, -⟩:=HF.O _ Nc.O;refine nP hK ?_;clear hK K;refine sP 12 [0,1,2,3,4,5,6,7,8,9,11] λ K hK=>?_;go_simp;refine nP hK ?_;clear hK K;refine tP [13] ?_;refine tO ?_;refine au 0 rfl ?_;refine dP ?_;go_simp;obtain⟨W,hW⟩:=bL (w3.alloc (.cells (oS m.is (m.a1 a) m.n1 (m.k1 k) (m.a2 a) m.n2 (m.k2 k)) 147));obtain⟨A,hA⟩:=bL w3.heap.size;have HA:Hid (W.heap[A]? =some (.cells (oS m.is (m.a1 a) m.n1 (m.k1 k) (m.a2 a) m.n2 (m.k2 k)) 147)):=ag zu;have r7:Hid (Below w1 w1 W):=ag zv;have S7:Hid (m.R W w a k):=ag (by rw[hW];exact(qb.O.zT (by have:=fW.O.size;simpa using this)).below ((ah _ w3).alloc (cH) _));have HAN:Hid (w1.heap.size<=A):=ag (by rw[hA];exact ek.O.size);rw[<-hW,<-hA];clear Nc hW hA qb S4 ek;rotate_left;go_simp;have uG:=ag ((ah w1 w1).alloc (cH) (.cells jR 147));clear f3 f4 f5 f6 f7 x0 x1 x2 x3 x4 x5 x6 x7;obtain⟨⟨f3,f4,f5,f6,f7⟩,⟨x0,x1,x2,x3,x4,x5,x6,x7⟩, -⟩:=HF.O _ uG.O;refine nP hK ?_;clear hK K;refine sP 7 [0,1,2,3,4,5,6] λ K hK=>?_;go_simp;(with_reducible refine(HLD.O _ (fW.O.T (uG.O.mono fW.O.size)).drew).mono ?_);rintro e w3 ⟨m,a,k,gl,rfl,wE,cu⟩;have ek:=ag (uG.O.drew.T (cu.mono uG.O.size));have qb:=ag wE;have S4:=ag cu;have Cw:=ag gl;unfold Nd.v;have hn:=(cu.block (w+1+1) (by simp[gC])).T (show((w1.alloc (.cells jR 147)).drew).heap[w.heap.size+1+1]? =_ from gC▸ai w1 (.cells jR 147));have n0:=(af hn 0).T rfl;have n1:=(af hn 1).T rfl;have n2:=(af hn 2).T rfl;have nf:=ax hn;have HN:=ag hn;simp only[cW]at n0 n1 n2;clear hn;clear wE cu gl;clear f3 f4 f5 f6 f7 x0 x1 x2 x3 x4 x5 x6 x7;obtain⟨⟨f3,f4,f5,f6,f7⟩,⟨x0,x1,x2,x3,x4,x5,x6,x7⟩, -⟩:=HF.O _ ek.O;refine nP hK ?_;clear hK K;refine tP [8,9,10] ?_
 iterate 3 refine tO ?_
 refine au 2 rfl ?_;refine sP 12 [0,1,2,3,4,5,6,7,8,9,11] λ K hK=>?_;go_simp;refine nP hK ?_;clear hK K;refine tP [13] ?_;refine tO ?_;refine au 0 rfl ?_;refine dP ?_;go_simp;obtain⟨V,hV⟩:=bL w3;obtain⟨A,hA⟩:=bL (w.heap.size+1+1);have hVA:V.heap[A]? =some (.cells jR 147):=by rw[hV,hA];exact HN.O
 have jG:Below w1 w1 V:=by rw[hV];exact ek.O
 have UN:m.R V w a k:=by rw[hV];exact qb.O.zT (by have:=fW.O.size;simp;omega)
 have WA:w1.heap.size<=A:=by rw[hA];exact eC gC
 have HA:=ag (FE (v0:=.bool m.is) (v1:=.slice (m.a1 a) m.n1 (m.k1 k)) (v2:=.slice (m.a2 a) m.n2 (m.k2 k)) hVA);have r7:=ag (jG.T (mZ (v0:=.bool m.is) (v1:=.slice (m.a1 a) m.n1 (m.k1 k)) (v2:=.slice (m.a2 a) m.n2 (m.k2 k)) WA));have S7:=ag (UN.Di (λ j hj=>pf (v0:=.bool m.is) (v1:=.slice (m.a1 a) m.n1 (m.k1 k)) (v2:=.slice (m.a2 a) m.n2 (m.k2 k)) j hj) hVA de de oW);rw[<-hV,<-hA];obtain⟨W,hW⟩:=bL (((V.setCell (za A 0) (.bool m.is)).setCell (za A 1) (.slice (m.a1 a) m.n1 (m.k1 k))).setCell (za A 2) (.slice (m.a2 a) m.n2 (m.k2 k)));rw[<-hW]at HA r7 S7;rw[<-hW];have HAN:=ag WA;clear uG HN n0 n1 n2 nf;clear hV hA hVA jG UN WA hW qb S4 ek;rotate_left
 all_goals
  obtain⟨f0,f1,f2⟩:=m8 HA.O;clear f3 f4 f5 f6 f7 x0 x1 x2 x3 x4 x5 x6 x7;obtain⟨⟨f3,f4,f5,f6,f7⟩,⟨x0,x1,x2,x3,x4,x5,x6,x7⟩, -⟩:=HF.O _ r7.O;have HBc:=r7;have HAc:=HA;have HIc:=S7;have MQ:=ack.O m Cw.O;unfold Nd.Ax at MQ;have kH:(m.n1:Int)<=6:=an;have pI:(m.n2:Int)<=6:=an;have h3:decide ((m.n1:Int)+(m.n2:Int)<3)=false:=dU;have ai3:decide (Rr<=x.at_)=false:=by simpa using vW
  have AT:((m.red:Int)==(x.count:Int))=true:=by rw[adr.O m Cw.O];simp
  have afl:=ag (HFI.O W m a k _ Cw.O S7.O);unfold Nd.v at afl;clear MQ
  go_wp2_with first
   |((with_reducible refine afl.O.mono ?_);rintro e w4 ⟨b4,c4,rfl,S8,dX⟩;have ahl:=ag S8;clear S8;have pB:=ag (HBc.O.T (dX.mono HBc.O.size));have O3:=ag ((dX.block _ (cS HAc.O).1).T HAc.O);have HI4:=ag (HIc.O.below dX);clear f0 f1 f2 f3 f4 f5 f6 f7 x0 x1 x2 x3 x4 x5 x6 x7 dX;obtain⟨f0,f1,f2⟩:=m8 O3.O;obtain⟨⟨f3,f4,f5,f6,f7⟩,⟨x0,x1,x2,x3,x4,x5,x6,x7⟩, -⟩:=HF.O _ pB.O;have WB:=ag (Zq.O w4 m a k _ Cw.O HI4.O);unfold Nd.v at WB)
   |((with_reducible refine WB.O.mono ?_);rintro e w5 ⟨rfl,dV⟩;have ahm:=ag (ahl.O.below dV);have jE:=ag (pB.O.T (dV.mono pB.O.size));have HA5:=ag ((dV.block _ (cS O3.O).1).T O3.O);have HI5:=ag (HI4.O.below dV);clear f0 f1 f2 f3 f4 f5 f6 f7 x0 x1 x2 x3 x4 x5 x6 x7 dV;obtain⟨f0,f1,f2⟩:=m8 HA5.O;obtain⟨⟨f3,f4,f5,f6,f7⟩,⟨x0,x1,x2,x3,x4,x5,x6,x7⟩, -⟩:=HF.O _ jE.O;have lP:=(ah w5 w5).alloc (cH) (.cells (qp m.red) 33);have ahn:=ag (ahm.O.below lP);have tl:=ag (jE.O.T (lP.mono jE.O.size));have HA6:=ag ((lP.block _ (cS HA5.O).1).T HA5.O);have HI6:=ag (HI5.O.below lP);clear f0 f1 f2 f3 f4 f5 f6 f7 x0 x1 x2 x3 x4 x5 x6 x7 lP;obtain⟨f0,f1,f2⟩:=m8 HA6.O;obtain⟨⟨f3,f4,f5,f6,f7⟩,⟨x0,x1,x2,x3,x4,x5,x6,x7⟩, -⟩:=HF.O _ tl.O;have aho:=ag (HEQ.O _ (fW.O.T (tl.O.mono fW.O.size)) b4 c4 x.kc ahn.O);have ahp:∀W,(binOp BinOp.neq 33 (.agg (qp m.red)) (.agg (qp x.count))).run Tryz.prog W= .ok (.bool false) W:= λ W=>by
      have:=Ri (m.red:Int) (x.count:Int) W;rw[AT]at this;exact this
     have xr:=(HF.O _ tl.O).2.2;obtain⟨y0,y1,y2⟩:=m8 xr;have yf:=ax xr;have HXR:=ag xr;clear xr;unfold iP)
   |((with_reducible refine aho.O.mono ?_);rintro e w7 ⟨rfl,rfl⟩)
   |fail
 all_goals
  exact wM
end
end Go.Proofs.YtbiififbfefkjaaGreatDoor

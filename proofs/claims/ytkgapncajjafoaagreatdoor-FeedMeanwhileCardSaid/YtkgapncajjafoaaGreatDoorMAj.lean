/- The store, part 10. -/
import Derived.Test.YtkgapncajjafoaaGreatDoorMAa
import Derived.Test.YtkgapncajjafoaaGreatDoorMAh
import Derived.Laws.BitsAllLaws
import Derived.Test.YtkgapncajjafoaaGreatDoorMAi
import Derived.Test.YtkgapncajjafoaaGreatDoorMAg
import Derived.Lib.ConvBytes
import Derived.Laws.AppendOwn
import Derived.Test.YtkgapncajjafoaaGreatDoorMAc
import Derived.Lib.UnsafeStr
import Derived.TacticsIn
set_option linter.unusedSimpArgs false
set_option linter.unusedVariables false
set_option maxRecDepth 100000
set_option maxHeartbeats 16000000
namespace Go.Proofs.YtkgapncajjafoaaGreatDoor
open Go.RowKit Go.Shelf
variable{w W W':World}{B o k c g m s at_ n₀ R a1 d1 c1 a2 d2 c2 q cf vc:Nat}{xs bs key id:List Nat}{del:Bool}{a b ka:Option Addr}{t:TypeId}{ps:List Piece}
section
attribute [-go_sem] Builtin.append_
theorem CC(a b k m:Nat)(hb:b<2^k)(hm:m=2^k):a*m|||b=a*m+b:=by
 subst hm
 rw[Nat.mul_comm,Nat.two_pow_add_eq_or_of_lt hb]
theorem Hk(n:Nat)(hn:n<4294967296):bits .or .u32 (bits .or .u32 (bits .or .u32 (IntKind.u32.wrap (((n/16777216%256:Nat):Int)*16777216)) (IntKind.u32.wrap (((n/65536%256:Nat):Int)*65536))) (IntKind.u32.wrap (((n/256%256:Nat):Int)*256))) ((n%256:Nat):Int)=(n:Int):=by
 have w1:IntKind.u32.wrap (((n/16777216%256:Nat):Int)*16777216)=((n/16777216%256*16777216:Nat):Int):=by rw[IntKind.wrap_u32];omega
 have w2:IntKind.u32.wrap (((n/65536%256:Nat):Int)*65536)=((n/65536%256*65536:Nat):Int):=by rw[IntKind.wrap_u32];omega
 have w3:IntKind.u32.wrap (((n/256%256:Nat):Int)*256)=((n/256%256*256:Nat):Int):=by rw[IntKind.wrap_u32];omega
 rw[w1,w2,w3,u32_or_nat _ _ ag ag,CC _ _ 24 16777216 ag bd,u32_or_nat _ _ ag ag,
  show n/16777216%256*16777216+n/65536%256*65536=(n/16777216%256*256+n/65536%256)*65536 by omega,CC _ _ 16 65536 ag bd,u32_or_nat _ _ ag ag,
  show(n/16777216%256*256+n/65536%256)*65536+n/256%256*256=((n/16777216%256*256+n/65536%256)*256+n/256%256)*256 by omega,CC _ _ 8 256 ag bd]
 omega
theorem Hl{r:List Nat}(n:Nat)(hn:n<4294967296)(hx:xs=dL 4 n++r)(hb:ai w (some ⟨B,o,none⟩) xs)(hk:xs.length=k):
 Calls Tryz.prog 55 (jE (some ⟨B,o,none⟩) k c) w λ e w'=>e= .returned (.int .u32 (n:Int))/\w'.heap=w.heap/\Below w w w':=by
 have hc:∀(j x:Nat),xs[j]? =some x->w.cell? (za B (o+j))=some (.int .u8 (x:Int)):=by
  rcases hb.2 with h0|⟨B',o',e,h⟩
  ·rw[h0]at hx;simp[dL]at hx
  ·cases e;exact h
 have hl:4<=k:=by rw[<-hk,hx];simp[dL]
 have c0:=hc 0 (n/16777216%256) (by rw[hx];simp[dL])
 have c1:=hc 1 (n/65536%256) (by rw[hx];simp[dL])
 have c2:=hc 2 (n/256%256) (by rw[hx];simp[dL])
 have c3:=hc 3 (n%256) (by rw[hx];simp[dL])
 have HV:=af (Hk n hn)
 obtain⟨b0,e0⟩:=aK (n/16777216%256)
 obtain⟨b1,e1⟩:=aK (n/65536%256)
 obtain⟨b2,e2⟩:=aK (n/256%256)
 obtain⟨b3,e3⟩:=aK (n%256)
 rw[<-e0,<-e1,<-e2,<-e3]at HV
 rw[<-e0]at c0
 rw[<-e1]at c1
 rw[<-e2]at c2
 rw[<-e3]at c3
 have iL:b0<256:=ag
 have aQ:b1<256:=ag
 have aC:b2<256:=ag
 have aL:b3<256:=ag
 simp only[Nat.add_zero]at c0
 have i0:(0:Int)<(k:Int):=ag
 have i1:(1:Int)<(k:Int):=ag
 have i2:(2:Int)<(k:Int):=ag
 have i3:(3:Int)<(k:Int):=ag
 have j0:0<k:=ag
 have j1:1<k:=ag
 have j2:2<k:=ag
 have j3:3<k:=ag
 clear hx hc hl hk hb e0 e1 e2 e3 hn
 go_enter Tryz.func55,Tryz.ntmps55
 go_wp2_with fail
 refine bP 23 ?_
 refine tP [0,1,2,3,4,5,6,7,8,9,10,11,12,13,14,15,16,17,18,19,20,21,22] ?_
 iterate 23 refine tO ?_
 refine ah 0 rfl ?_
 refine dP ?_
 go_simp
 go_wp2_with fail
 go_ret
 refine⟨?_,rfl,(Below.refl _ w).drew⟩
 have hw:∀b:Nat,b<256->IntKind.u32.wrap (b:Int)=(b:Int):= λ b hb=>by rw[IntKind.wrap_u32];omega
 show Ending.returned (.int .u32 (bits .or .u32 (bits .or .u32 (bits .or .u32 (IntKind.u32.wrap (IntKind.u32.wrap (b0:Int)*16777216)) (IntKind.u32.wrap (IntKind.u32.wrap (b1:Int)*65536))) (IntKind.u32.wrap (IntKind.u32.wrap (b2:Int)*256))) (IntKind.u32.wrap (b3:Int))))=_
 rw[hw b0 iL,hw b1 aQ,hw b2 aC,hw b3 aL,HV.O]
def oy(g m s:Nat)(del:Bool)(at_:Nat):Array Value:=(qW g m s del at_)
structure rJ(g m s:Nat)(del:Bool)(at_:Nat):Prop where
 g1:1<=g
 g2:g<4294967296
 m2:m<4294967296
 s1:1<=s
 s2:s<=1099511627776
 d:del=true->at_=0
 a:del=false->1<=at_/\at_<524288
def b5(g m s:Nat)(del:Bool)(at_:Nat):List Nat:=dL 4 g++(dL 4 m++(dL 4 (s/4294967296)++(dL 4 (s%4294967296)++((if del then 1 else 0)::dL 4 at_))))
theorem Oy(h:rJ g m s del at_)(w:World):
 Calls Tryz.prog 75 #[.agg (oy g m s del at_)] w λ e w'=>e= .returned (.bool true)/\Below w w w':=by
 have e1:((g:Int)==0)=false:=by have:=h.g1;simp;omega
 have e2:decide ((s:Int)<1)=false:=by have:=h.s1;simp;omega
 have e3:decide ((1099511627776:Int)<(s:Int))=false:=by have:=h.s2;simp;omega
 have hd:=h.d
 have ha:=h.a
 unfold oy
 have HB:Hid (Below w w (w.alloc (.cells (qW g m s del at_) 104))):=af (by go_grown)
 clear h
 cases del with
 |true=>
  have:=hd rfl
  subst this
  clear hd ha
  go_enter Tryz.func75,Tryz.ntmps75
  go_wp2_with fail
  go_ret
  exact⟨rfl,HB.O⟩
 |false=>
  obtain⟨a1,a2⟩:=ha rfl
  have e4:decide ((1:Int)<=(at_:Int))=true:=bV
  have e5:decide ((at_:Int)<524288)=true:=bV
  clear hd ha a1 a2
  go_enter Tryz.func75,Tryz.ntmps75
  go_wp2_with fail
  go_ret
  exact⟨rfl,HB.O⟩
theorem A8{cc:Nat}{ys:List Nat}(hb:Boxed W R t (.slice a k c))(zQ:t≠5)(ax:W.ownsRow n₀ 5 1 (.slice a k c) k (aB bs))(hs:ai W (some ⟨B,o,none⟩) ys)(hm:ys.length=m)(h1:1<=m)(hk:k+m<1000000)(hn:n₀<=W.heap.size)(hR:n₀<=R)(X:Nat->Prop):
 ∃g' c' w',(Builtin.append_ #[34,34] 34 (jF a k c (some ⟨B,o,none⟩) m cc)).run Tryz.prog W= .ok (.slice (zp g') (k+m) c') w'/\
  w'.cell? (za R 0)=some (.slice a k c)/\w'.frozen? ⟨R,0,none⟩=false/\Boxed (w'.setCell (za R 0) (.slice (zp g') (k+m) c')) R t (.slice (zp g') (k+m) c')/\
  (w'.setCell (za R 0) (.slice (zp g') (k+m) c')).ownsRow n₀ 5 1 (.slice (zp g') (k+m) c') (k+m) (aB (bs++ys))/\
  Lets n₀ X R W (w'.setCell (za R 0) (.slice (zp g') (k+m) c')):=by
 obtain⟨g',c',w',bt,dN,hg⟩:=sx (cc:=cc) ax hs hm h1 hk hn
 have hnr:(Value.slice a k c).ownBlock≠some R:=(Boxed.not_row hb zQ ax).symm
 have Dv:Boxed w' R t (.slice a k c):=(hg.bT R hb.lt hnr).T hb
 have aC:=Dv.set (.slice (zp g') (k+m) c')
 have rX:=ud hb
 have ady:g'≠R:=by
  rcases ay dN with⟨h,_⟩|⟨g,cur,h,_,Se⟩
  ·cases h
  ·cases h;rintro rfl;rw[Dv]at Se;injection Se with h5;injection h5 with _ h6 _;exact zQ h6
 have Jt:=pU (v:=.slice (zp g') (k+m) c') dN Dv zQ
 have aah:g'<w'.heap.size:=by
  rcases ay dN with⟨h,_⟩|⟨g,cur,h,_,Se⟩
  ·cases h
  ·cases h;exact(aX Se).1
 have ot:rowOf R W=some g'\/W.heap.size<=g':=by
  rw[rX]
  rcases hg.at_ with h|⟨g,h,F6⟩
  ·exact .inl h.symm
  ·simp[Value.ownBlock]at h;subst h;exact .inr F6
 refine⟨g',c',w',bt,Dv.cell,Dv.frozen,aC,Jt,⟨hg.below.setCell hR _, λ j cs ty fz hj _ hjR hjr=>?_, λ j hj=>?_, λ hl j hj=>?_⟩⟩
 ·exact(Below.heap_setCell _ _ _ _ hjR).T ((hg.bT j (aX hj).1 (by rw[<-rX];exact hjr)).T hj)
 ·rw[gH aC]at hj;cases hj;exact ot
 ·rw[gH aC]at hj;cases hj;simpa[World.setCell]using aah
theorem Ho(n:Nat):ai (W.alloc (.cells (UL (n/16777216%256) (n/65536%256) (n/256%256) (n%256)) 5)) (zp W) (dL 4 n):=by
 refine⟨oY 4 n,.inr ⟨_,_,rfl, λ j x hj=>?_⟩⟩
 rw[World.cell?_alloc_new]
 simp only[dL,Nat.reducePow,Nat.div_one]at hj
 rcases j with _|_|_|_|j
 ·cases hj;rfl
 ·cases hj;rfl
 ·cases hj;rfl
 ·cases hj;rfl
 ·simp at hj
theorem Oz(n:Nat)(hn:n<4294967296)(hb:Boxed w R 184 (.slice a k c))(ax:w.ownsRow n₀ 5 1 (.slice a k c) k (aB bs))(hk:k<=1000)(h0:n₀<=w.heap.size)(hR:n₀<=R):
 Calls Tryz.prog 76 #[.pointer (zp R),.int .u32 (n:Int)] w λ e w'=>∃v a' c',e= .returned v/\Boxed w' R 184 (.slice a' (k+4) c')/\w'.ownsRow n₀ 5 1 (.slice a' (k+4) c') (k+4) (aB (bs++dL 4 n))/\Lets n₀ (λ _=>False) R w w':=by
 obtain⟨w1,aH⟩:=aK (w.alloc (.cells (UL (n/16777216%256) (n/65536%256) (n/256%256) (n%256)) 5))
 have aQ:Below w w w1:=by rw[aH];exact(Below.refl _ w).alloc (aW) _
 have eZ:ai w1 (zp w) (dL 4 n):=by rw[aH];exact Ho n
 have Ah:Boxed w1 R 184 (.slice a k c):=(aQ.block R hb.lt).T hb
 obtain⟨g',c',w2,bt,f1,f2,aC,mz,oD⟩:=A8 (cc:=4) Ah bd (bO.row aQ ax) eZ (by simp[nE]) (by decide:1<=4) ag (Nat.le_trans h0 aQ.size) hR (λ _=>False)
 have m0:=hb.cell
 have eJ:=cV aC mz ((Lets.aA aQ hb.lt h0).T oD)
 rw[aH]at bt
 rw[show((n/16777216%256:Nat):Int)=(n:Int)/16777216 by omega,show((n/65536%256:Nat):Int)=(n:Int)/65536%256 by omega,show((n/256%256:Nat):Int)=(n:Int)/256%256 by omega,show((n%256:Nat):Int)=(n:Int)%256 by omega]at bt
 have Dy:(k:Int)<=1000:=ag
 clear hb ax aQ eZ Ah aC mz oD aH h0 hR
 go_enter Tryz.func76,Tryz.ntmps76
 go_wp2_with fail
 go_end0
 exact⟨_,_,_,rfl,eJ.O⟩
theorem CD{e sz:Nat}{xs:List Value}(h:W.ownsRow n₀ e sz (.slice a k c) k xs):cx n₀ a:= λ p hp=>by
 rcases ay h with⟨h1,_⟩|⟨g,cur,h1,hb,_⟩
 ·rw[hp]at h1;cases h1
 ·rw[hp]at h1;cases h1;exact hb
theorem vA(h:rJ g m s del at_)(w:World):
 Calls Tryz.prog 56 #[.agg (oy g m s del at_)] w λ e w'=>∃a c,e= .returned (.tuple (BH a 21 c))/\ai w' a (b5 g m s del at_)/\21<=c/\cx w a/\Below w w w':=by
 have HM:=af λ w=>Oy h w
 have aaz:at_<4294967296:=by cases del with
  |true=>rw[h.d rfl];decide
  |false=>have:=(h.a rfl).2;omega
 have hg:=h.g2
 have hm:=h.m2
 have fZ:=h.s2
 have Wo:=aaz
 have Wp:Hid (∀(n:Nat) (W:World) (k:Nat) (bs:List Nat) (a:Option Addr) (c:Nat),n<4294967296->k<=1000->Below w w W->∀R,w.heap.size<R->(Boxed W R 184 (.slice a k c)/\W.ownsRow w 5 1 (.slice a k c) k (aB bs)/\W.heap[w.heap.size]? =some (.cells (oy g m s del at_) 104))->
  Calls Tryz.prog 76 #[.pointer (zp R),.int .u32 (n:Int)] W λ e w'=>∃v a' c',e= .returned v/\Hid (Below w w w'/\Boxed w' R 184 (.slice a' (k+4) c')/\w'.ownsRow w 5 1 (.slice a' (k+4) c') (k+4) (aB (bs++dL 4 n))/\w'.heap[w.heap.size]? =some (.cells (oy g m s del at_) 104))):=af λ n W k bs a c hn hk hb R hR ⟨h1,h2,h3⟩=>by
  refine(Oz n hn h1 h2 hk hb.size (Nat.le_of_lt hR)).mono ?_
  rintro e w' ⟨v,a',c',rfl,h4,h5,h6⟩
  exact⟨v,a',c',rfl,af ⟨hb.T h6.below,h4,h5,h6.bT _ _ _ _ h3 id ag (gI h1 h2 h3 bd)⟩⟩
 have ei:Hid (Below w w (w.alloc (.cells (oy g m s del at_) 104))):=af ((Below.refl _ w).alloc (aW) _)
 unfold oy at*
 obtain⟨hi,Ra⟩:=aK (s/4294967296)
 obtain⟨lo,zS⟩:=aK (s%4294967296)
 have z1:((s:Int)/4294967296)=(hi:Int):=ag
 have z2:IntKind.u32.wrap (hi:Int)=(hi:Int):=by rw[IntKind.wrap_u32];omega
 have z3:IntKind.u32.wrap (s:Int)=(lo:Int):=by rw[IntKind.wrap_u32];omega
 have z3':(s:Int)%4294967296=(lo:Int):=ag
 have acf:hi<4294967296:=ag
 have acg:lo<4294967296:=ag
 have HHI:=cj Ra zS
 clear Ra zS
 have z4:IntKind.u32.wrap (at_:Int)=(at_:Int):=by rw[IntKind.wrap_u32];omega
 obtain⟨fl,qq⟩:∃fl:Nat,fl=if del then 1 else 0:=⟨_,rfl⟩
 have mA:Hid (∀(W:World) (k:Nat) (bs:List Nat) (a:Option Addr) (c R:Nat),k<=1000->Below w w W->w.heap.size<R->(Boxed W R 184 (.slice a k c)/\W.ownsRow w 5 1 (.slice a k c) k (aB bs)/\W.heap[w.heap.size]? =some (.cells (qW g m s del at_) 104))->
  ∃g' c' w',(Builtin.append_ #[34,34] 34 (jF a k c (zp W) 1 1)).run Tryz.prog (W.alloc (.cells (J3 fl) 5))= .ok (.slice (zp g') (k+1) c') w'/\w'.cell? (za R 0)=some (.slice a k c)/\w'.frozen? ⟨R,0,none⟩=false/\
   Hid (Below w w (w'.setCell (za R 0) (.slice (zp g') (k+1) c'))/\Boxed (w'.setCell (za R 0) (.slice (zp g') (k+1) c')) R 184 (.slice (zp g') (k+1) c')/\(w'.setCell (za R 0) (.slice (zp g') (k+1) c')).ownsRow w 5 1 (.slice (zp g') (k+1) c') (k+1) (aB (bs++[fl]))/\(w'.setCell (za R 0) (.slice (zp g') (k+1) c')).heap[w.heap.size]? =some (.cells (qW g m s del at_) 104))):=af λ W k bs a c R hk hb hR ⟨h1,h2,h3⟩=>by
  have aQ:Below W W (W.alloc (.cells (J3 fl) 5)):=(Below.refl _ W).alloc (aW) _
  have eZ:ai (W.alloc (.cells (J3 fl) 5)) (zp W) [fl]:=⟨λ y hy=>by rw[List.mem_singleton]at hy;rw[hy,qq];split<;>decide,.inr ⟨_,_,rfl, λ j x hj=>by
   rcases j with _|j
   ·cases hj;rw[World.cell?_alloc_new];rfl
   ·simp at hj⟩⟩
  obtain⟨g',c',w',bt,f1,f2,ey,ax,gk⟩:=A8 (m:=1) (cc:=1) ((aQ.block R h1.lt).T h1) bd (bO.row aQ h2) eZ rfl (Nat.le_refl 1) ag (Nat.le_trans hb.size aQ.size) (Nat.le_of_lt hR) (λ _=>False)
  have oD:=(Lets.aA (X:= λ _=>False) aQ h1.lt hb.size).T gk
  exact⟨g',c',w',bt,f1,f2,af ⟨hb.T oD.below,ey,ax,oD.bT _ _ _ _ h3 id ag (gI h1 h2 h3 bd)⟩⟩
 have aaA:Hid (b5 g m s del at_=dL 4 g++(dL 4 m++(dL 4 hi++(dL 4 lo++(fl::dL 4 at_))))):=af (by unfold b5;rw[HHI.O.1,HHI.O.2,qq])
 have Ce:Hid (∀y∈b5 g m s del at_,y<256):=af λ y hy=>by
  unfold b5 at hy
  simp only[List.mem_append,List.mem_cons]at hy
  rcases hy with h|h|h|h|rfl|h
  ·exact oY _ _ _ h
  ·exact oY _ _ _ h
  ·exact oY _ _ _ h
  ·exact oY _ _ _ h
  ·cases del<;>decide
  ·exact oY _ _ _ h
 have yp:Hid (∀(W:World) (a:Option Addr) (c:Nat),W.ownsRow w 5 1 (.slice a 21 c) 21 (aB (dL 4 g++(dL 4 m++(dL 4 hi++(dL 4 lo++(fl::dL 4 at_))))))->ai W a (b5 g m s del at_)/\21<=c/\cx w a):=af λ W a c ax=>by
  rw[<-aaA.O]at ax
  have hf:=CD ax
  obtain⟨g1,rfl⟩:∃g,a=some ⟨g,0,none⟩:=by
   rcases ay ax with⟨_,h,_⟩|⟨g,_,h,_⟩
   ·omega
   ·exact⟨g,h⟩
  obtain⟨q1,q2,q3⟩:=cm ax Ce.O
  exact⟨q1,q2,hf⟩
 clear h aaz fZ aaA Ce
 cases del
 all_goals
  simp only[Bool.false_eq_true,if_false,if_true]at qq
  subst qq
  go_enter Tryz.func56,Tryz.ntmps56
  go_wp2_with first
   |((with_reducible refine(HM.O _).mono ?_);rintro e w2 ⟨rfl,aC⟩
     have hx:=(aC.block w aR).T (World.alloc_heap_new w _)
     have aL:Below w2 w2 (w2.alloc (.cells oS 184)):=(Below.refl _ w2).alloc (aW) _
     have bA:=af ((ei.O.T (aC.mono ei.O.size)).T (aL.mono (ei.O.T (aC.mono ei.O.size)).size))
     have jS:=(aL.block w (aX hx).1).T hx
     have Mr:=cV (Boxed.new w2 184 (.slice none 0 0)) (show(w2.alloc (.cells oS 184)).ownsRow w 5 1 (.slice none 0 0) 0 (aB [])from⟨by simp[aB],.inl ⟨rfl,rfl⟩⟩) jS
     have x0:=(aa jS 0).T rfl
     simp only[aD]at x0
     have hR:=af (aX hx).1
     have H1:=af (Wp.O g _ 0 [] none 0 hg ag bA.O w2.heap.size hR.O Mr.O)
     clear aC hx aL jS)
   |((with_reducible refine H1.O.mono ?_);rintro e w4 ⟨v4,a4,c4,rfl,h4⟩
     have x1:=(aa h4.O.2.2.2 1).T rfl
     simp only[aD]at x1
     have H2:=af (Wp.O m w4 4 _ a4 c4 hm ag h4.O.1 w2.heap.size hR.O h4.O.2)
     clear H1 x0)
   |((with_reducible refine H2.O.mono ?_);rintro e w5 ⟨v5,a5,c5,rfl,h5⟩
     have x2:=(aa h5.O.2.2.2 2).T rfl
     simp only[aD]at x2
     have H3:=af (Wp.O hi w5 8 _ a5 c5 ag ag h5.O.1 w2.heap.size hR.O h5.O.2)
     clear H2 x1)
   |((with_reducible refine H3.O.mono ?_);rintro e w6 ⟨v6,a6,c6,rfl,h6⟩
     have x3:=(aa h6.O.2.2.2 2).T rfl
     simp only[aD]at x3
     have H4:=af (Wp.O lo w6 12 _ a6 c6 ag ag h6.O.1 w2.heap.size hR.O h6.O.2)
     clear H3 x2)
   |((with_reducible refine H4.O.mono ?_);rintro e w7 ⟨v7,a7,c7,rfl,h7⟩
     have x4:=(aa h7.O.2.2.2 3).T rfl
     have y0:=h7.O.2.1.cell
     simp only[aD]at x4
     obtain⟨g8,c8,w8,bt,f1,f2,h8⟩:=mA.O w7 16 _ a7 c7 w2.heap.size ag h7.O.1 hR.O h7.O.2
     simp only[Nat.reduceAdd,Int.natCast_zero,Int.natCast_one]at bt h8
     have x5:=(aa h8.O.2.2.2 4).T rfl
     simp only[aD]at x5
     have H5:=af (Wp.O at_ _ 17 _ _ _ ag ag h8.O.1 w2.heap.size hR.O h8.O.2)
     clear H4 x3)
   |((with_reducible refine H5.O.mono ?_);rintro e w9 ⟨v9,a9,c9,rfl,h9⟩
     have y9:=h9.O.2.1.cell
     simp only[Nat.reduceAdd]at y9)
   |fail
  go_ret2
  refine⟨a9,c9,rfl,?_⟩
  obtain⟨e1,e2,e3,e4⟩:=h9.O
  obtain⟨q1,q2,q3⟩:=yp.O w9 a9 c9 (by simpa using e3)
  exact⟨q1,q2,q3,e1⟩
theorem Sf(s:Nat)(hs:s<=1099511627776):bits .or .u64 (IntKind.u64.wrap (((s/4294967296:Nat):Int)*4294967296)) ((s%4294967296:Nat):Int)=(s:Int):=by
 have w1:IntKind.u64.wrap (((s/4294967296:Nat):Int)*4294967296)=((s/4294967296*4294967296:Nat):Int):=by rw[IntKind.wrap_u64];omega
 rw[w1,u64_or_nat _ _ ag ag,CC _ _ 32 4294967296 ag bd]
 omega
theorem gF{a b c d e:Value}{fz:Nat×Nat}(h:W.heap[B]? =some (.cells #[a,b,c,d,e] t fz)):W.cell? (za B 0)=some a/\W.cell? (za B 1)=some b/\W.cell? (za B 2)=some c/\W.cell? (za B 3)=some d/\W.cell? (za B 4)=some e:=⟨(aa h 0).T rfl,(aa h 1).T rfl,(aa h 2).T rfl,(aa h 3).T rfl,(aa h 4).T rfl⟩
theorem vB(h:rJ g m s del at_)(hb:ai w (some ⟨B,o,none⟩) (b5 g m s del at_))(hc:21<=c):
 Calls Tryz.prog 43 (jE (some ⟨B,o,none⟩) 21 c) w λ e w'=>e= .returned (.tuple (np (.agg (oy g m s del at_))))/\Below w w w':=by
 obtain⟨w1,aH⟩:=aK (w.alloc (.cells oU 104))
 have aQ:Below w w w1:=by rw[aH];exact(Below.refl _ w).alloc (aW) _
 have cZ:=af aQ
 have Wo:at_<4294967296:=by cases del with
  |true=>rw[h.d rfl];decide
  |false=>have:=(h.a rfl).2;omega
 have hl:(b5 g m s del at_).length=21:=by simp[b5,nE]
 have VJ:=af hl
 have vC:∀(i:Nat),ai w (some ⟨B,o+i,none⟩) ((b5 g m s del at_).drop i):= λ i=>hb.drop i
 have X5:Hid (∀(i k n c2:Nat) (r:List Nat),n<4294967296->(b5 g m s del at_).drop i=dL 4 n++r->k+i=21->∀W,Below w w W->Calls Tryz.prog 55 (jE (some ⟨B,o+i,none⟩) k c2) W λ e w'=>e= .returned (.int .u32 (n:Int))/\w'.heap=W.heap/\Below W W w'):=af λ i k n c2 r hn he hk W hW=>Hl n hn he ((vC i).below hW) (by rw[List.length_drop,hl];omega)
 have HN1:=af (X5.O 0 21 g c _ h.g2 (by unfold b5;rfl) rfl)
 have HN4:=af (X5.O 4 17 m (c - 4) (dL 4 (s/4294967296)++(dL 4 (s%4294967296)++((if del then 1 else 0)::dL 4 at_))) h.m2 (by simp[b5,dL]) rfl)
 have JY:=af (X5.O 8 13 (s/4294967296) (c - 8) (dL 4 (s%4294967296)++((if del then 1 else 0)::dL 4 at_)) (aM h.s2) (by simp[b5,dL]) rfl)
 have Le:=af (X5.O 12 9 (s%4294967296) (c - 12) ((if del then 1 else 0)::dL 4 at_) ag (by simp[b5,dL]) rfl)
 have Lf:=af (X5.O 17 4 at_ (c - 17) [] Wo (by simp[b5,dL]) rfl)
 have qq:w.cell? (za B (o+16))=some (.int .u8 ((if del then 1 else 0:Nat):Int)):=by
  rcases hb.2 with h0|⟨B',o',e,kL⟩
  ·rw[h0]at hl;simp at hl
  ·cases e
   exact kL 16 _ (by simp[b5,dL])
 have Kz:=af λ W=>vA h W
 have VG:=af (Sf s h.s2)
 have Qj:=af λ (W:World) (hW:Below w w W)=>cy (c:=c) (hb.below hW) hl
 have fZ:=h.s2
 simp only[Nat.add_zero]at HN1
 have d4:¬ c=4:=ag
 have d8:¬ c=8:=ag
 have d12:¬ c=12:=ag
 have d17:¬ c=17:=ag
 have adz:(21:Int)<=(c:Int):=ag
 have bB:w1.heap[w.heap.size]? =some (.cells oU 104):=jJ aH
 have AM:=af bB
 have X6:w1.heap.size=w.heap.size+1:=by rw[aH];simp
 obtain⟨fl,Sg⟩:∃fl:Nat,fl=if del then 1 else 0:=⟨_,rfl⟩
 rw[<-Sg]at qq
 have adA:((fl:Int)==1)=del:=by rw[Sg];cases del<;>rfl
 have mA:=af (λ (W:World) (hW:Below w1 w1 W)=>carry (w:=w) (aQ.T (hW.mono aQ.size)) qq)
 have X7:=af (Below.refl w1 w1)
 have fl_:=mA.O _ X7.O
 have sz_:=X6
 unfold oy at*
 obtain⟨hi,Ra⟩:=aK (s/4294967296)
 obtain⟨lo,zS⟩:=aK (s%4294967296)
 rw[<-Ra]at JY VG
 rw[<-zS]at Le VG
 have acf:hi<4294967296:=ag
 have acg:lo<4294967296:=ag
 have hab:(at_:Int)<=4294967295:=ag
 have Sh:(16:Int)<21:=by decide
 have whi:IntKind.u64.wrap (hi:Int)=(hi:Int):=by rw[IntKind.wrap_u64];omega
 have wlo:IntKind.u64.wrap (lo:Int)=(lo:Int):=by rw[IntKind.wrap_u64];omega
 have wat:IntKind.i64.wrap (at_:Int)=(at_:Int):=by rw[IntKind.wrap_i64];omega
 have hsv:=VG.O
 have adB:fl<=1:=by rw[Sg];split<;>decide
 clear h hb hc hl vC X5 qq aQ bB Sg fZ Ra zS Wo
 go_enter Tryz.func43,Tryz.ntmps43
 go_wp2_with fail
 rw[<-aH]
 clear aH
 refine bP 27 ?_
 refine tP [0,2,3,6,7,11,12,16,17,18,19,20,21] ?_
 iterate 13 refine tO ?_
 refine ah 14 rfl ?_
 refine Gr 1 25 [0] [] (λ K hK=>?_) λ K hK=>?_
 go_simp
 (with_reducible refine(HN1.O _ (cZ.O.T (X7.O.mono cZ.O.size)).drew).mono ?_);rintro e w_1 ⟨rfl,aaB,aaC⟩
 have Lg:=af (X7.O.drew.T (aaC.mono X7.O.size))
 have aaD:=mA.O _ Lg.O
 have aaE:w_1.heap.size=w.heap.size+1:=by rw[aaB];exact sz_
 clear fl_ aaB aaC
 refine nP hK ?_
 clear hK K
 refine Gr 4 25 [0,1,2,3] [0] (λ K hK=>?_) λ K hK=>?_
 go_simp
 (with_reducible refine(HN4.O _ (cZ.O.T (Lg.O.mono cZ.O.size))).mono ?_);rintro e TT ⟨rfl,OA,OB⟩
 have uz:=af (Lg.O.T (OB.mono Lg.O.size))
 have OC:=mA.O _ uz.O
 have OD:TT.heap.size=w.heap.size+1:=by rw[OA];exact aaE
 clear aaD OA OB
 refine nP hK ?_
 clear hK K
 refine tP [5] ?_
 refine tO ?_
 refine ah 11 rfl ?_
 refine Gr 8 25 [0,1,2,3,4,6,7] [0,1,2,3] (λ K hK=>?_) λ K hK=>?_
 go_simp
 (with_reducible refine(JY.O _ (cZ.O.T (uz.O.mono cZ.O.size))).mono ?_);rintro e Ju ⟨rfl,EK,EL⟩
 have m6:=af (uz.O.T (EL.mono uz.O.size))
 have EM:=mA.O _ m6.O
 have EN:Ju.heap.size=w.heap.size+1:=by rw[EK];exact OD
 clear OC EK EL
 refine nP hK ?_
 clear hK K
 refine tP [9,10] ?_
 iterate 2 refine tO ?_
 refine ah 8 rfl ?_
 refine Gr 13 25 [0,1,2,3,4,6,7,8,11,12] [0,1,2,3,4,6,7] (λ K hK=>?_) λ K hK=>?_
 go_simp
 (with_reducible refine(Le.O _ (cZ.O.T (m6.O.mono cZ.O.size))).mono ?_);rintro e yt ⟨rfl,vD,vE⟩
 have gN:=af (m6.O.T (vE.mono m6.O.size))
 have vF:=mA.O _ gN.O
 have vG:yt.heap.size=w.heap.size+1:=by rw[vD];exact EN
 clear EM vD vE
 refine nP hK ?_
 clear hK K
 refine tP [14,15] ?_
 iterate 2 refine tO ?_
 refine ah 5 rfl ?_
 refine Gr 22 25 [0,1,2,3,4,6,7,8,11,12,13,20,21] [0,1,2,3,4,6,7,8,11,12] (λ K hK=>?_) λ K hK=>?_
 go_simp
 (with_reducible refine(Lf.O _ (cZ.O.T (gN.O.mono cZ.O.size))).mono ?_);rintro e mr ⟨rfl,pt,pv⟩
 have fS:=af (gN.O.T (pv.mono gN.O.size))
 have yu:=mA.O _ fS.O
 have px:mr.heap.size=w.heap.size+1:=by rw[pt];exact vG
 clear vF pt pv
 refine nP hK ?_
 clear hK K
 refine tP [23,24] ?_
 iterate 2 refine tO ?_
 refine ah 2 rfl ?_
 refine sP 25 [0,1,2,3,4,6,7,8,11,12,13,20,21] λ K hK=>?_
 go_simp
 have sR:=af (fS.O.alloc fS.O.size (.cells oU 104))
 have sS:=mA.O _ sR.O
 have sU:=af (World.alloc_heap_new mr (.cells oU 104))
 rw[px]at sU
 clear yu
 refine nP hK ?_
 clear hK K
 refine sP 26 [0,1,2,3,4,5,6,7,8,9,10,11,12,13,14,15,16,17,18,19,20,21,22,23,24,25] λ K hK=>?_
 go_simp
 refine nP hK ?_
 clear hK K
 refine dP ?_
 go_simp
 obtain⟨W,hW⟩:=aK (mr.alloc (.cells (qW g m s del at_) 104))
 have HA:Hid (W.heap[w.heap.size+1]? =some (.cells (qW g m s del at_) 104)):=af (XC hW px)
 have lJ:Hid (Below w1 w1 W):=af (by rw[hW];exact fS.O.alloc fS.O.size _)
 rw[<-hW]
 clear sS hW
 rotate_left
 go_simp
 have gZ:=af (gN.O.alloc gN.O.size (.cells oU 104))
 have yv:=mA.O _ gZ.O
 have kW:=af (World.alloc_heap_new yt (.cells oU 104))
 rw[vG]at kW
 clear vF
 refine nP hK ?_
 clear hK K
 refine sP 22 [0,1,2,3,4,6,7,8,11,12,13,20,21] λ K hK=>?_
 go_simp
 (with_reducible refine(Lf.O _ (cZ.O.T (gZ.O.mono cZ.O.size))).mono ?_);rintro e uA ⟨rfl,sV,hZ⟩
 have lT:=af (gZ.O.T (hZ.mono gZ.O.size))
 have sW:=mA.O _ lT.O
 have ia:=af ((hZ.block _ (aX kW.O).1).T kW.O)
 obtain⟨z0,z1,z2,z3,z4⟩:=gF ia.O
 have zf:=ak ia.O
 clear yv sV hZ
 refine nP hK ?_
 clear hK K
 refine tP [23,24] ?_
 iterate 2 refine tO ?_
 refine ah 1 rfl ?_
 refine sP 26 [0,1,2,3,4,5,6,7,8,9,10,11,12,13,14,15,16,17,18,19,20,21,22,23,24,25] λ K hK=>?_
 go_simp
 refine nP hK ?_
 clear hK K
 refine dP ?_
 go_simp
 have HA:=af (zZ (v0:=.int .u32 (g:Int)) (v1:=.int .u32 (m:Int)) (v2:=.int .u64 (s:Int)) (v3:=.bool del) (v4:=.int .i64 (at_:Int)) ia.O)
 have lJ:=af (lT.O.T (eM (v0:=.int .u32 (g:Int)) (v1:=.int .u32 (m:Int)) (v2:=.int .u64 (s:Int)) (v3:=.bool del) (v4:=.int .i64 (at_:Int)) (Nat.le_of_eq X6)))
 obtain⟨W,hW⟩:=aK ((((((uA.setCell (za (w.heap.size+1) 0) (.int .u32 (g:Int))).setCell (za (w.heap.size+1) 1) (.int .u32 (m:Int))).setCell (za (w.heap.size+1) 2) (.int .u64 (s:Int))).setCell (za (w.heap.size+1) 3) (.bool del)).setCell (za (w.heap.size+1) 4) (.int .i64 (at_:Int))))
 rw[<-hW]at HA lJ
 rw[<-hW]
 clear sW z0 z1 z2 z3 z4 zf hW
 rotate_left
 go_simp
 have lU:=af (m6.O.alloc m6.O.size (.cells oU 104))
 have EO:=mA.O _ lU.O
 have py:=af (World.alloc_heap_new Ju (.cells oU 104))
 rw[EN]at py
 clear EM
 refine nP hK ?_
 clear hK K
 refine sP 13 [0,1,2,3,4,6,7,8,11,12] λ K hK=>?_
 go_simp
 (with_reducible refine(Le.O _ (cZ.O.T (lU.O.mono cZ.O.size))).mono ?_);rintro e QB ⟨rfl,yw,kX⟩
 have ib:=af (lU.O.T (kX.mono lU.O.size))
 have yx:=mA.O _ ib.O
 have pz:=af ((kX.block _ (aX py.O).1).T py.O)
 clear EO yw kX
 refine nP hK ?_
 clear hK K
 refine tP [14,15] ?_
 iterate 2 refine tO ?_
 refine ah 4 rfl ?_
 refine sP 22 [0,1,2,3,4,6,7,8,11,12,13,20,21] λ K hK=>?_
 go_simp
 (with_reducible refine(Lf.O _ (cZ.O.T (ib.O.mono cZ.O.size))).mono ?_);rintro e uB ⟨rfl,sX,ic⟩
 have lV:=af (ib.O.T (ic.mono ib.O.size))
 have sY:=mA.O _ lV.O
 have ie:=af ((ic.block _ (aX pz.O).1).T pz.O)
 obtain⟨z0,z1,z2,z3,z4⟩:=gF ie.O
 have zf:=ak ie.O
 clear yx sX ic
 refine nP hK ?_
 clear hK K
 refine tP [23,24] ?_
 iterate 2 refine tO ?_
 refine ah 1 rfl ?_
 refine sP 26 [0,1,2,3,4,5,6,7,8,9,10,11,12,13,14,15,16,17,18,19,20,21,22,23,24,25] λ K hK=>?_
 go_simp
 refine nP hK ?_
 clear hK K
 refine dP ?_
 go_simp
 have HA:=af (zZ (v0:=.int .u32 (g:Int)) (v1:=.int .u32 (m:Int)) (v2:=.int .u64 (s:Int)) (v3:=.bool del) (v4:=.int .i64 (at_:Int)) ie.O)
 have lJ:=af (lV.O.T (eM (v0:=.int .u32 (g:Int)) (v1:=.int .u32 (m:Int)) (v2:=.int .u64 (s:Int)) (v3:=.bool del) (v4:=.int .i64 (at_:Int)) (Nat.le_of_eq X6)))
 obtain⟨W,hW⟩:=aK ((((((uB.setCell (za (w.heap.size+1) 0) (.int .u32 (g:Int))).setCell (za (w.heap.size+1) 1) (.int .u32 (m:Int))).setCell (za (w.heap.size+1) 2) (.int .u64 (s:Int))).setCell (za (w.heap.size+1) 3) (.bool del)).setCell (za (w.heap.size+1) 4) (.int .i64 (at_:Int))))
 rw[<-hW]at HA lJ
 rw[<-hW]
 clear sY z0 z1 z2 z3 z4 zf hW
 rotate_left
 go_simp
 have qe:=af (uz.O.alloc uz.O.size (.cells oU 104))
 have Lh:=mA.O _ qe.O
 have uC:=af (World.alloc_heap_new TT (.cells oU 104))
 rw[OD]at uC
 clear OC
 refine nP hK ?_
 clear hK K
 refine sP 8 [0,1,2,3,4,6,7] λ K hK=>?_
 go_simp
 (with_reducible refine(JY.O _ (cZ.O.T (qe.O.mono cZ.O.size))).mono ?_);rintro e Wq ⟨rfl,EP,pA⟩
 have lW:=af (qe.O.T (pA.mono qe.O.size))
 have ER:=mA.O _ lW.O
 have vH:=af ((pA.block _ (aX uC.O).1).T uC.O)
 clear Lh EP pA
 refine nP hK ?_
 clear hK K
 refine tP [9,10] ?_
 iterate 2 refine tO ?_
 refine ah 7 rfl ?_
 refine sP 13 [0,1,2,3,4,6,7,8,11,12] λ K hK=>?_
 go_simp
 (with_reducible refine(Le.O _ (cZ.O.T (lW.O.mono cZ.O.size))).mono ?_);rintro e QC ⟨rfl,yy,kY⟩
 have ig:=af (lW.O.T (kY.mono lW.O.size))
 have yz:=mA.O _ ig.O
 have pB:=af ((kY.block _ (aX vH.O).1).T vH.O)
 clear ER yy kY
 refine nP hK ?_
 clear hK K
 refine tP [14,15] ?_
 iterate 2 refine tO ?_
 refine ah 4 rfl ?_
 refine sP 22 [0,1,2,3,4,6,7,8,11,12,13,20,21] λ K hK=>?_
 go_simp
 (with_reducible refine(Lf.O _ (cZ.O.T (ig.O.mono cZ.O.size))).mono ?_);rintro e uD ⟨rfl,sZ,ij⟩
 have lX:=af (ig.O.T (ij.mono ig.O.size))
 have td:=mA.O _ lX.O
 have ik:=af ((ij.block _ (aX pB.O).1).T pB.O)
 obtain⟨z0,z1,z2,z3,z4⟩:=gF ik.O
 have zf:=ak ik.O
 clear yz sZ ij
 refine nP hK ?_
 clear hK K
 refine tP [23,24] ?_
 iterate 2 refine tO ?_
 refine ah 1 rfl ?_
 refine sP 26 [0,1,2,3,4,5,6,7,8,9,10,11,12,13,14,15,16,17,18,19,20,21,22,23,24,25] λ K hK=>?_
 go_simp
 refine nP hK ?_
 clear hK K
 refine dP ?_
 go_simp
 have HA:=af (zZ (v0:=.int .u32 (g:Int)) (v1:=.int .u32 (m:Int)) (v2:=.int .u64 (s:Int)) (v3:=.bool del) (v4:=.int .i64 (at_:Int)) ik.O)
 have lJ:=af (lX.O.T (eM (v0:=.int .u32 (g:Int)) (v1:=.int .u32 (m:Int)) (v2:=.int .u64 (s:Int)) (v3:=.bool del) (v4:=.int .i64 (at_:Int)) (Nat.le_of_eq X6)))
 obtain⟨W,hW⟩:=aK ((((((uD.setCell (za (w.heap.size+1) 0) (.int .u32 (g:Int))).setCell (za (w.heap.size+1) 1) (.int .u32 (m:Int))).setCell (za (w.heap.size+1) 2) (.int .u64 (s:Int))).setCell (za (w.heap.size+1) 3) (.bool del)).setCell (za (w.heap.size+1) 4) (.int .i64 (at_:Int))))
 rw[<-hW]at HA lJ
 rw[<-hW]
 clear td z0 z1 z2 z3 z4 zf hW
 rotate_left
 go_simp
 have wR:=af (Lg.O.alloc Lg.O.size (.cells oU 104))
 have Si:=mA.O _ wR.O
 have CE:=af (World.alloc_heap_new w_1 (.cells oU 104))
 rw[aaE]at CE
 clear aaD
 refine nP hK ?_
 clear hK K
 refine sP 4 [0,1,2,3] λ K hK=>?_
 go_simp
 (with_reducible refine(HN4.O _ (cZ.O.T (wR.O.mono cZ.O.size))).mono ?_);rintro e aaa ⟨rfl,Li,uE⟩
 have qf:=af (wR.O.T (uE.mono wR.O.size))
 have Lj:=mA.O _ qf.O
 have A9:=af ((uE.block _ (aX CE.O).1).T CE.O)
 clear Si Li uE
 refine nP hK ?_
 clear hK K
 refine tP [5] ?_
 refine tO ?_
 refine ah 10 rfl ?_
 refine sP 8 [0,1,2,3,4,6,7] λ K hK=>?_
 go_simp
 (with_reducible refine(JY.O _ (cZ.O.T (qf.O.mono cZ.O.size))).mono ?_);rintro e Ws ⟨rfl,ES,pC⟩
 have lY:=af (qf.O.T (pC.mono qf.O.size))
 have ET:=mA.O _ lY.O
 have vI:=af ((pC.block _ (aX A9.O).1).T A9.O)
 clear Lj ES pC
 refine nP hK ?_
 clear hK K
 refine tP [9,10] ?_
 iterate 2 refine tO ?_
 refine ah 7 rfl ?_
 refine sP 13 [0,1,2,3,4,6,7,8,11,12] λ K hK=>?_
 go_simp
 (with_reducible refine(Le.O _ (cZ.O.T (lY.O.mono cZ.O.size))).mono ?_);rintro e QD ⟨rfl,yA,kZ⟩
 have il:=af (lY.O.T (kZ.mono lY.O.size))
 have yB:=mA.O _ il.O
 have pD:=af ((kZ.block _ (aX vI.O).1).T vI.O)
 clear ET yA kZ
 refine nP hK ?_
 clear hK K
 refine tP [14,15] ?_
 iterate 2 refine tO ?_
 refine ah 4 rfl ?_
 refine sP 22 [0,1,2,3,4,6,7,8,11,12,13,20,21] λ K hK=>?_
 go_simp
 (with_reducible refine(Lf.O _ (cZ.O.T (il.O.mono cZ.O.size))).mono ?_);rintro e uF ⟨rfl,te,iq⟩
 have lZ:=af (il.O.T (iq.mono il.O.size))
 have tf:=mA.O _ lZ.O
 have ir:=af ((iq.block _ (aX pD.O).1).T pD.O)
 obtain⟨z0,z1,z2,z3,z4⟩:=gF ir.O
 have zf:=ak ir.O
 clear yB te iq
 refine nP hK ?_
 clear hK K
 refine tP [23,24] ?_
 iterate 2 refine tO ?_
 refine ah 1 rfl ?_
 refine sP 26 [0,1,2,3,4,5,6,7,8,9,10,11,12,13,14,15,16,17,18,19,20,21,22,23,24,25] λ K hK=>?_
 go_simp
 refine nP hK ?_
 clear hK K
 refine dP ?_
 go_simp
 have HA:=af (zZ (v0:=.int .u32 (g:Int)) (v1:=.int .u32 (m:Int)) (v2:=.int .u64 (s:Int)) (v3:=.bool del) (v4:=.int .i64 (at_:Int)) ir.O)
 have lJ:=af (lZ.O.T (eM (v0:=.int .u32 (g:Int)) (v1:=.int .u32 (m:Int)) (v2:=.int .u64 (s:Int)) (v3:=.bool del) (v4:=.int .i64 (at_:Int)) (Nat.le_of_eq X6)))
 obtain⟨W,hW⟩:=aK ((((((uF.setCell (za (w.heap.size+1) 0) (.int .u32 (g:Int))).setCell (za (w.heap.size+1) 1) (.int .u32 (m:Int))).setCell (za (w.heap.size+1) 2) (.int .u64 (s:Int))).setCell (za (w.heap.size+1) 3) (.bool del)).setCell (za (w.heap.size+1) 4) (.int .i64 (at_:Int))))
 rw[<-hW]at HA lJ
 rw[<-hW]
 clear tf z0 z1 z2 z3 z4 zf hW
 rotate_left
 go_simp
 have Jv:=af (X7.O.alloc X7.O.size (.cells oU 104))
 have aai:=mA.O _ Jv.O
 have OE:=af (World.alloc_heap_new w1 (.cells oU 104))
 rw[sz_]at OE
 clear fl_
 refine nP hK ?_
 clear hK K
 refine sP 1 [0] λ K hK=>?_
 go_simp
 (with_reducible refine(HN1.O _ (cZ.O.T (Jv.O.mono cZ.O.size)).drew).mono ?_);rintro e abA ⟨rfl,Sj,CF⟩
 have wT:=af (Jv.O.drew.T (CF.mono Jv.O.size))
 have Sk:=mA.O _ wT.O
 have Jw:=af ((CF.block _ (aX OE.O).1).T OE.O)
 clear aai Sj CF
 refine nP hK ?_
 clear hK K
 refine sP 4 [0,1,2,3] λ K hK=>?_
 go_simp
 (with_reducible refine(HN4.O _ (cZ.O.T (wT.O.mono cZ.O.size))).mono ?_);rintro e aab ⟨rfl,Lk,uG⟩
 have qg:=af (wT.O.T (uG.mono wT.O.size))
 have Ll:=mA.O _ qg.O
 have Bc:=af ((uG.block _ (aX Jw.O).1).T Jw.O)
 clear Sk Lk uG
 refine nP hK ?_
 clear hK K
 refine tP [5] ?_
 refine tO ?_
 refine ah 10 rfl ?_
 refine sP 8 [0,1,2,3,4,6,7] λ K hK=>?_
 go_simp
 (with_reducible refine(JY.O _ (cZ.O.T (qg.O.mono cZ.O.size))).mono ?_);rintro e Wt ⟨rfl,EU,pE⟩
 have l7:=af (qg.O.T (pE.mono qg.O.size))
 have EV:=mA.O _ l7.O
 have vJ:=af ((pE.block _ (aX Bc.O).1).T Bc.O)
 clear Ll EU pE
 refine nP hK ?_
 clear hK K
 refine tP [9,10] ?_
 iterate 2 refine tO ?_
 refine ah 7 rfl ?_
 refine sP 13 [0,1,2,3,4,6,7,8,11,12] λ K hK=>?_
 go_simp
 (with_reducible refine(Le.O _ (cZ.O.T (l7.O.mono cZ.O.size))).mono ?_);rintro e QE ⟨rfl,yC,ld⟩
 have iu:=af (l7.O.T (ld.mono l7.O.size))
 have yD:=mA.O _ iu.O
 have pF:=af ((ld.block _ (aX vJ.O).1).T vJ.O)
 clear EV yC ld
 refine nP hK ?_
 clear hK K
 refine tP [14,15] ?_
 iterate 2 refine tO ?_
 refine ah 4 rfl ?_
 refine sP 22 [0,1,2,3,4,6,7,8,11,12,13,20,21] λ K hK=>?_
 go_simp
 (with_reducible refine(Lf.O _ (cZ.O.T (iu.O.mono cZ.O.size))).mono ?_);rintro e uH ⟨rfl,tg,iw⟩
 have l8:=af (iu.O.T (iw.mono iu.O.size))
 have th:=mA.O _ l8.O
 have ix:=af ((iw.block _ (aX pF.O).1).T pF.O)
 obtain⟨z0,z1,z2,z3,z4⟩:=gF ix.O
 have zf:=ak ix.O
 clear yD tg iw
 refine nP hK ?_
 clear hK K
 refine tP [23,24] ?_
 iterate 2 refine tO ?_
 refine ah 1 rfl ?_
 refine sP 26 [0,1,2,3,4,5,6,7,8,9,10,11,12,13,14,15,16,17,18,19,20,21,22,23,24,25] λ K hK=>?_
 go_simp
 refine nP hK ?_
 clear hK K
 refine dP ?_
 go_simp
 have HA:=af (zZ (v0:=.int .u32 (g:Int)) (v1:=.int .u32 (m:Int)) (v2:=.int .u64 (s:Int)) (v3:=.bool del) (v4:=.int .i64 (at_:Int)) ix.O)
 have lJ:=af (l8.O.T (eM (v0:=.int .u32 (g:Int)) (v1:=.int .u32 (m:Int)) (v2:=.int .u64 (s:Int)) (v3:=.bool del) (v4:=.int .i64 (at_:Int)) (Nat.le_of_eq X6)))
 obtain⟨W,hW⟩:=aK ((((((uH.setCell (za (w.heap.size+1) 0) (.int .u32 (g:Int))).setCell (za (w.heap.size+1) 1) (.int .u32 (m:Int))).setCell (za (w.heap.size+1) 2) (.int .u64 (s:Int))).setCell (za (w.heap.size+1) 3) (.bool del)).setCell (za (w.heap.size+1) 4) (.int .i64 (at_:Int))))
 rw[<-hW]at HA lJ
 rw[<-hW]
 clear th z0 z1 z2 z3 z4 zf hW
 rotate_left
 all_goals
  obtain⟨a0,a1,a2,a3,a4⟩:=gF HA.O
  have HEW:=af (Kz.O W)
  clear sz_
  go_wp2_with first
   |((with_reducible refine HEW.O.mono ?_);rintro e w9 ⟨ae,ce,rfl,eZ,EW, -,oQ⟩
     have QF:=af (lJ.O.T (oQ.mono lJ.O.size))
     have ha9:=(oQ.block _ (aX HA.O).1).T HA.O
     clear a0 a1 a2 a3 a4
     obtain⟨a0,a1,a2,a3,a4⟩:=gF ha9
     have Jy:=(QF.O.block _ (aX AM.O).1).T AM.O
     obtain⟨z0,z1,z2,z3,z4⟩:=gF Jy
     have zf:=ak Jy
     have HX9:=af Jy
     have k1:=cy (c:=ce) eZ (VJ.O)
     have k2:=Qj.O w9 (cZ.O.T (QF.O.mono cZ.O.size))
     clear eZ EW oQ ha9 Jy)
   |fail
 all_goals
  refine bodyPost_ret (v:=.tuple (np (.agg (qW g m s del at_)))) ?_ (by rfl) ⟨rfl,(cZ.O.T (QF.O.mono cZ.O.size)).T (eM (aW))⟩
  obtain⟨s0,s1,s2,s3,s4⟩:=gF (zZ (v0:=.int .u32 (g:Int)) (v1:=.int .u32 (m:Int)) (v2:=.int .u64 (s:Int)) (v3:=.bool del) (v4:=.int .i64 (at_:Int)) HX9.O)
  rw[results_cell_tmp rfl]
  go_simp
def mu(x:Nat):Bool:=decide (97<=x)&&decide (x<=122)||decide (48<=x)&&decide (x<=57)||decide (x=45)
theorem Lm(x:Nat)(w:World):Calls Tryz.prog 77 (J3 x) w λ e w'=>e= .returned (.bool (mu x))/\w'=w:=by
 have HP:Hid (mu x=(decide (97<=x)&&decide (x<=122)||decide (48<=x)&&decide (x<=57)||decide (x=45))):=af rfl
 by_cases h1:97<=x
 ·have d1:decide ((97:Int)<=(x:Int))=true:=bV
  have e1:decide (97<=x)=true:=bV
  by_cases h2:x<=122
  ·have d2:decide ((x:Int)<=122)=true:=bV
   have e2:decide (x<=122)=true:=bV
   rw[e1,e2]at HP
   go_enter Tryz.func77,Tryz.ntmps77
   go_wp2_with fail
   go_ret
   exact⟨by rw[HP.O];rfl,rfl⟩
  ·have d2:decide ((x:Int)<=122)=false:=bV
   have d3:decide ((48:Int)<=(x:Int))=true:=bV
   have d4:decide ((x:Int)<=57)=false:=bV
   have d5:((x:Int)==45)=false:=bV
   have HQ:Hid (mu x=false):=af (by unfold mu;simp;omega)
   clear h1 h2 e1 HP
   go_enter Tryz.func77,Tryz.ntmps77
   go_wp2_with fail
   go_ret
   exact⟨by rw[HQ.O];rfl,rfl⟩
 ·have d1:decide ((97:Int)<=(x:Int))=false:=bV
  by_cases h3:48<=x/\x<=57
  ·have d3:decide ((48:Int)<=(x:Int))=true:=bV
   have d4:decide ((x:Int)<=57)=true:=bV
   have HQ:Hid (mu x=true):=af (by unfold mu;simp;omega)
   clear h1 h3 HP
   go_enter Tryz.func77,Tryz.ntmps77
   go_wp2_with fail
   go_ret
   exact⟨by rw[HQ.O];rfl,rfl⟩
  ·obtain⟨p,hp⟩:=aK (((x:Int)==45))
   have HQ:Hid (mu x=p):=af (by
    unfold mu;rw[hp]
    by_cases h5:x=45
    ·subst h5;rfl
    ·have:((x:Int)==45)=false:=bV
     rw[this];simp;omega)
   have d5:((x:Int)==45)=p:=hp.symm
   clear hp HP
   by_cases h4:48<=x
   ·have d3:decide ((48:Int)<=(x:Int))=true:=bV
    have d4:decide ((x:Int)<=57)=false:=bV
    clear h1 h3 h4
    go_enter Tryz.func77,Tryz.ntmps77
    go_wp2_with fail
    go_ret
    exact⟨by rw[HQ.O];rfl,rfl⟩
   ·have d3:decide ((48:Int)<=(x:Int))=false:=bV
    clear h1 h3 h4
    go_enter Tryz.func77,Tryz.ntmps77
    go_wp2_with fail
    go_ret
    exact⟨by rw[HQ.O];rfl,rfl⟩
def OF(s:ByteArray):Bool:=decide (1<=s.size)&&decide (s.size<=24)
def qy(s:ByteArray)(i:Nat):Bool:=OF s&&(List.range i).all λ j=>if h:j<s.size then mu (s[j]'h).toNat else false
def Ht(s:ByteArray):Bool:=qy s s.size
def oR(s:ByteArray):Int:=if Ht s then 0 else 290
theorem yE(s:ByteArray)(hs:s.size<=4611686018427387904)(w:World):Calls Tryz.prog 57 #[.string s] w λ e w'=>e= .returned (.int .i64 (oR s))/\w'=w:=by
 have HPL:=af Lm
 have h62:(s.size:Int)<=4611686018427387904:=ag
 have EX:∀(i:Nat) (h:i<s.size),qy s (i+1)=(qy s i&&mu (s[i]'h).toNat):= λ i h=>by
  unfold qy;rw[List.range_succ,List.all_append];simp[Bool.and_assoc,h]
 have oG:=af EX
 clear EX
 have Hu:Hid (qy s s.size=false->(290:Int)=oR s):=af λ h=>by unfold oR Ht;rw[h];rfl
 have HE1:Hid (qy s s.size=true->(0:Int)=oR s):=af λ h=>by unfold oR Ht;rw[h];rfl
 have hd:(decide ((1:Int)<=(s.size:Int))=true/\decide ((s.size:Int)<=24)=true/\Hid (qy s 0=true))\/(decide ((1:Int)<=(s.size:Int))=true/\decide ((s.size:Int)<=24)=false/\Hid (qy s 0=false))\/(decide ((1:Int)<=(s.size:Int))=false/\Hid (qy s 0=false)):=by
  by_cases h1:1<=s.size
  ·by_cases h2:s.size<=24
   ·exact .inl ⟨by simp;omega,by simp;omega,af (by simp[qy,OF,h1,h2])⟩
   ·exact .inr (.inl ⟨by simp;omega,by simp;omega,af (by simp[qy,OF,h2])⟩)
  ·exact .inr (.inr ⟨by simp;omega,af (by simp[qy,OF,h1])⟩)
 rcases hd with⟨d1,d2,H0⟩|⟨d1,d2,H0⟩|⟨d1,H0⟩
 all_goals
  go_enter Tryz.func57,Tryz.ntmps57
  go_wp2_with fail
  go_loopw [4,16] (λ ov iv wr=>∃i:Nat,i<=s.size/\iv= .int .i64 (i:Int)/\ov= .bool (qy s i)/\Hid (wr=w)) (λ _ iv _=>s.size - (intOf iv).toNat)
  case atStart=>exact⟨0,Nat.zero_le _,rfl,by rw[H0.O],af rfl⟩
  case round=>
   obtain⟨i,hi,rfl,rfl,hw⟩:=hrel
   by_cases bg:i<s.size
   ·have DE:((i:Int)<(s.size:Int)):=ag
    have adC:(i:Int)<4611686018427387904:=ag
    have dm:=oG.O i bg
    have Ty:=af dm
    clear dm
    cases gW:qy s i with
    |false=>
     go_wp2_with fail
     exact⟨⟨i+1,ag,by simp,by rw[Ty.O,gW];rfl,hw⟩,by simp[intOf];omega⟩
    |true=>
     have HPI:=af (HPL.O (s[i]'bg).toNat wr)
     go_wp2_with first
      |((with_reducible refine HPI.O.mono ?_);rintro e w3 ⟨rfl,cL⟩;rw[cL];clear cL w3)
      |fail
     exact⟨⟨i+1,ag,by simp,by rw[Ty.O,gW];simp,hw⟩,by simp[intOf];omega⟩
   ·have hie:i=s.size:=ag
    subst hie
    have F6:¬ ((s.size:Int)<(s.size:Int)):=ag
    generalize qy s s.size=bo at Hu HE1⊢
    cases bo with
    |false=>
     go_wp2_with fail
     go_ret
     exact⟨congrArg (λ c=>Ending.returned (.int .i64 c)) (Hu.O (by first|trivial|rfl)),hw.O⟩
    |true=>
     go_wp2_with fail
     go_ret
     exact⟨congrArg (λ c=>Ending.returned (.int .i64 c)) (HE1.O (by first|trivial|rfl)),hw.O⟩
end
section
attribute [local go_sem] Oper.semAt_some
attribute [-go_sem] Builtin.append_
abbrev Ln(id:ByteArray)(g m s:Nat)(del:Bool)(at_:Nat)(k v:Int):Array Value:=(vR id g m s del at_ k v)
theorem eE.below(h:eE W B b k c a1 d1 c1 a2 d2 c2 q)(hb:Below W W W'):eE W' B b k c a1 d1 c1 a2 d2 c2 q:=(hb.block B (aX h).1).T h
def kindOf(del:Bool):Int:=if del then 0 else 3
def gG(del:Bool)(n:Int):Int:=if del then 0 else n
theorem Bd(hS:eE w B b ps.length cf a1 d1 c1 a2 d2 c2 q)(hF:au w b cf ps)(hm:Marks (al ps)){C kc:Nat}{n:Int}(hk:ai w ka key)(YV:key.length<=1000)(hid:oR (aU key)=0)(h:rJ g m s del at_)(hv:ai w (some ⟨C,o,none⟩) (b5 g m s del at_))(uI:21<=vc)(hn:del=false-> -9223372036854775808<=n/\n<9223372036854775808/\dO (al ps) at_ (cR n)):
 Calls Tryz.prog 54 (tQ (zp B) (.agg (dv ka key.length kc (some ⟨C,o,none⟩) 21 vc))) w λ e w'=>e= .returned (.tuple (lD (.agg (Ln (aU key) g m s del at_ (kindOf del) (gG del n)))))/\Below w w w':=by
 obtain⟨w1,aH⟩:=aK (((w.alloc (.cells (dv ka key.length kc (some ⟨C,o,none⟩) 21 vc) 114)).alloc (.cells kA 106)).alloc (.cells (UM (aU key)) 106))
 have aQ:Below w w w1:=by rw[aH];go_grown
 have jS:=eH (w2:=w1) (by rw[aH];exact dp)
 have dm:w1.heap.size=w.heap.size+1+1+1:=by rw[aH];simp
 have Qj:= λ (o1 o2:Obj)=>cy (c:=kc) (hk.below (((Below.refl _ w).alloc (aW) o1).alloc aR o2)) rfl
 have Eg:=af (vB h (hv.below aQ) uI)
 have TU:=af (λ V=>yE (aU key) (by have:(aU key).size=key.length:=(by simp[aU,ByteArray.size]);omega) V)
 rw[hid]at TU
 rw[aH]at Eg
 have H1:=jo aQ dm jS aH
 have C9:=af (λ (V:World) (hV:Below w w V) (hd:del=false)=>Ld (eE.below hS hV) (hF.below hV) hm at_ n (hn hd).1 (hn hd).2.1 (hn hd).2.2)
 unfold oy at Eg
 clear hk h hv uI hid YV aH aQ jS dm hS hF hm hn
 cases del with
 |true=>
  clear C9
  show Calls _ _ _ _ λ e w'=>e= .returned (.tuple (lD (.agg (UN (aU key) g m s at_))))/\Below w w w'
  go_enter Tryz.func54,Tryz.ntmps54
  go_wp2_with first
   |(refine bh 104 ?_)
   |(refine bh 106 ?_)
   |(refine et 106 ?_)
   |(refine et 104 ?_)
   |((with_reducible refine Eg.O.mono ?_);rintro e w2 ⟨rfl,aC⟩
     rw[<-H1.O.2.2.2]at aC
     obtain⟨w3,cL⟩:=aK (w2.alloc (.cells (UO g m s at_) 104))
     have aL:Below w1 w1 w3:=by rw[cL];exact aC.alloc aC.size _
     have QG:w3.heap[w2.heap.size]? =some (.cells (UO g m s at_) 104):=jJ cL
     have hx:=(aL.block _ (by rw[H1.O.2.1];omega)).T H1.O.2.2.1.1
     have hd:=(aL.block _ (by rw[H1.O.2.1];omega)).T H1.O.2.2.1.2.2
     have i2:=(aa hx 2).T rfl
     have b0:=(aa hd 0).T rfl
     simp only[aF,bD,aD]at i2 b0
     have uJ:=aj QG
     have bA:=BM aL QG hx hd (show w.heap.size+1+1<w2.heap.size by have:=aC.size;have:=H1.O.2.1;omega)
     rw[cL]at i2 b0 uJ
     have mL:=af cL
     clear aC cL aL QG hx hd)
   |((with_reducible refine(TU.O _).mono ?_);rintro e w4 ⟨rfl,gA⟩;rw[gA];clear gA w4)
   |(refine aP 104 rfl _ _ rfl (w.heap.size+1+1) 1 (UM (aU key)) (UO g m s at_) 106 rfl rfl (by rw[<-mL.O];exact bA.O.2.2.2.1) aR aO (by simp[Value.oneCell']) (λ w5 h1 h2 h3=>?_)
     rw[<-mL.O]at h2 h3
     simp only[aF,bD,aD]at h1
     have Sl:=(h2 w2.heap.size (aM bA.O.2.2.2.2)).T bA.O.2.1
     have d3:=(aa Sl 3).T rfl
     have d4:=(aa Sl 4).T rfl
     simp only[aF,bD,aD]at d3 d4
     have Sm:=(h2 (w.heap.size+1) ag).T ((bA.O.1.block _ (by rw[H1.O.2.1];omega)).T H1.O.2.2.1.2.1)
     have aaF:=aj h1
     have bJ:Below w w w5:=h3 w w ag (H1.O.1.T (bA.O.1.mono H1.O.1.size))
     have eN:=cV h1 Sm bJ
     clear h1 h2 h3 Sl Sm bJ)
   |(refine aP 106 rfl _ _ rfl (w.heap.size+1) 0 kA (UN (aU key) g m s at_) 106 rfl rfl eN.O.2.1 aR aO (by simp[Value.oneCell']) (λ w9 h1 h2 h3=>?_)
     simp only[aF,bD,aD]at h1
     have x0:=(aa h1 0).T rfl
     have x1:=(aa h1 1).T rfl
     have x2:=(aa h1 2).T rfl
     have x3:=(aa h1 3).T rfl
     have x4:=(aa h1 4).T rfl
     have x5:=(aa h1 5).T rfl
     have x6:=(aa h1 6).T rfl
     have x7:=(aa h1 7).T rfl
     have x8:=(aa h1 8).T rfl
     have x9:=(aa h1 9).T rfl
     have Hv:=(aa h1 10).T rfl
     simp only[aF,bD,aD]at x0 x1 x2 x3 x4 x5 x6 x7 x8 x9 Hv
     have HZ:=af (h3 w w ag eN.O.2.2)
     clear h1 h2 h3)
   |fail
  refine bodyPost_ret (v:=.tuple (lD (.agg (UN (aU key) g m s at_)))) (by rw[results_cell_tmp rfl];go_simp) (by rfl) ⟨rfl,HZ.O⟩
 |false=>
  have HBE:=af (λ (V:World) (hV:Below w w V)=>C9.O V hV rfl)
  clear C9
  unfold dy at HBE
  show Calls _ _ _ _ λ e w'=>e= .returned (.tuple (lD (.agg (UP (aU key) g m s at_ n))))/\Below w w w'
  go_enter Tryz.func54,Tryz.ntmps54
  go_wp2_with first
   |(refine bh 104 ?_)
   |(refine bh 106 ?_)
   |(refine et 106 ?_)
   |(refine et 104 ?_)
   |((with_reducible refine Eg.O.mono ?_);rintro e w2 ⟨rfl,aC⟩
     rw[<-H1.O.2.2.2]at aC
     obtain⟨w3,cL⟩:=aK (w2.alloc (.cells (UQ g m s at_) 104))
     have aL:Below w1 w1 w3:=by rw[cL];exact aC.alloc aC.size _
     have QG:w3.heap[w2.heap.size]? =some (.cells (UQ g m s at_) 104):=jJ cL
     have hx:=(aL.block _ (by rw[H1.O.2.1];omega)).T H1.O.2.2.1.1
     have hd:=(aL.block _ (by rw[H1.O.2.1];omega)).T H1.O.2.2.1.2.2
     have i2:=(aa hx 2).T rfl
     have b0:=(aa hd 0).T rfl
     simp only[aF,bD,aD]at i2 b0
     have uJ:=aj QG
     have bA:=BM aL QG hx hd (show w.heap.size+1+1<w2.heap.size by have:=aC.size;have:=H1.O.2.1;omega)
     rw[cL]at i2 b0 uJ
     have mL:=af cL
     clear aC cL aL QG hx hd)
   |((with_reducible refine(TU.O _).mono ?_);rintro e w4 ⟨rfl,gA⟩;rw[gA];clear gA w4)
   |(refine aP 104 rfl _ _ rfl (w.heap.size+1+1) 1 (UM (aU key)) (UQ g m s at_) 106 rfl rfl (by rw[<-mL.O];exact bA.O.2.2.2.1) aR aO (by simp[Value.oneCell']) (λ w5 h1 h2 h3=>?_)
     rw[<-mL.O]at h2 h3
     simp only[aF,bD,aD]at h1
     have Sl:=(h2 w2.heap.size (aM bA.O.2.2.2.2)).T bA.O.2.1
     have d3:=(aa Sl 3).T rfl
     have d4:=(aa Sl 4).T rfl
     simp only[aF,bD,aD]at d3 d4
     have Sm:=(h2 (w.heap.size+1) ag).T ((bA.O.1.block _ (by rw[H1.O.2.1];omega)).T H1.O.2.2.1.2.1)
     have aaF:=aj h1
     have bJ:Below w w w5:=h3 w w ag (H1.O.1.T (bA.O.1.mono H1.O.1.size))
     have eN:=cV h1 Sm bJ
     have HBO:=af (HBE.O _ bJ)
     clear h1 h2 h3 Sl Sm bJ)
   |((with_reducible refine HBO.O.mono ?_);rintro e w6 ⟨rfl,fD⟩
     have hd6:=(fD.block _ (aX eN.O.1).1).T eN.O.1
     have X8:=(fD.block _ (aX eN.O.2.1).1).T eN.O.2.1
     have jY:=cV hd6 X8 (eN.O.2.2.T (fD.mono eN.O.2.2.size))
     clear fD hd6 X8)
   |(refine aP 92 rfl _ _ rfl (w.heap.size+1+1) 6 #[.string (aU key),.int .u32 (g:Int),.int .u32 (m:Int),.int .u64 (s:Int),.bool false,.int .i64 (at_:Int),.int .i64 0,.int .i64 0,.string ⟨#[]⟩,.slice none 0 0,.slice none 0 0] (BL n) 106 rfl rfl jY.O.1 aR aO (by simp[Value.oneCell']) (λ w7 h1 h2 h3=>?_)
     simp only[aF,bD,aD]at h1
     have P8:=(h2 (w.heap.size+1) ag).T jY.O.2.1
     have aaG:=aj h1
     have X9:=cj P8 (h3 w w ag jY.O.2.2)
     clear h1 h2 h3 P8)
   |(refine aP 106 rfl _ _ rfl (w.heap.size+1) 0 kA (UP (aU key) g m s at_ n) 106 rfl rfl X9.O.1 aR aO (by simp[Value.oneCell']) (λ w9 h1 h2 h3=>?_)
     simp only[aF,bD,aD]at h1
     have x0:=(aa h1 0).T rfl
     have x1:=(aa h1 1).T rfl
     have x2:=(aa h1 2).T rfl
     have x3:=(aa h1 3).T rfl
     have x4:=(aa h1 4).T rfl
     have x5:=(aa h1 5).T rfl
     have x6:=(aa h1 6).T rfl
     have x7:=(aa h1 7).T rfl
     have x8:=(aa h1 8).T rfl
     have x9:=(aa h1 9).T rfl
     have Hv:=(aa h1 10).T rfl
     simp only[aF,bD,aD]at x0 x1 x2 x3 x4 x5 x6 x7 x8 x9 Hv
     have HZ:=af (h3 w w ag X9.O.2)
     clear h1 h2 h3)
   |fail
  refine bodyPost_ret (v:=.tuple (lD (.agg (UP (aU key) g m s at_ n)))) (by rw[results_cell_tmp rfl];go_simp) (by rfl) ⟨rfl,HZ.O⟩
theorem _root_.List.Perm.T{α:Type _}{a b c:List α}(h:a.Perm b)(k:b.Perm c):a.Perm c:=h.trans k
structure aG where
 id:List Nat
 g:Nat
 m:Nat
 s:Nat
 del:Bool
 at_:Nat
 n:Int
def e8(q:Nat):List Nat:=(List.range 8).map λ j=>q/2^(56 - 8*j)%256
def aG.enc(x:aG):List Nat:=b5 x.g x.m x.s x.del x.at_
def yF(x:aG):KV:=(x.id,x.enc)
def iP(x:aG):KV:=(e8 x.s,x.id)
structure vK(all:List Nat)(q:Nat)(x:aG):Prop where
 id:oR (aU x.id)=0
 info:rJ x.g x.m x.s x.del x.at_
 le:x.s<=q
 gs:x.g<=x.s
 body:x.del=false-> -9223372036854775808<=x.n/\x.n<9223372036854775808/\dO all x.at_ (cR x.n)
structure cB(all:List Nat)(a1 d1 c1 a2 d2 c2 q:Nat)(es:List aG):Prop where
 ids:∃its:List KV,its.Perm (es.map yF)/\dh all a1 d1 c1 its
 Lo:dh all a2 d2 c2 (es.map iP)
 ok:∀x∈es,vK all q x
 many:es.length<=32
def ee(es:List aG)(x:aG):List aG:=(es.filter λ y=>decide (y.id≠x.id))++[x]
theorem Hy(q:Nat):e8 q=dL 8 q:=by
 simp[e8,dL,List.range_succ]
theorem dC(q:Nat):(e8 q).length=8:=by simp[e8]
theorem pG(q:Nat):∀x∈e8 q,x<256:=by
 intro x hx
 obtain⟨j,_,rfl⟩:=List.mem_map.1 hx
 exact Nat.mod_lt _ bd
theorem Jz:∀(i a b:Nat),a%256^i<b%256^i->fV (dL i a) (dL i b)
 |0,a,b,h=>by simp[Nat.mod_one]at h
 |i+1,a,b,h=>by
  have key:∀x:Nat,x%256^(i+1)=x/256^i%256*256^i+x%256^i:= λ x=>by
   rw[Nat.pow_succ,Nat.mod_mul,Nat.mul_comm,Nat.add_comm]
  rw[key a,key b]at h
  have hp:0<256^i:=Nat.pos_of_ne_zero aR
  have ha:=Nat.mod_lt a hp
  have hb:=Nat.mod_lt b hp
  unfold fV dL
  rw[cmpL]
  rcases Nat.lt_trichotomy (a/256^i%256) (b/256^i%256)with h1|h1|h1
  ·rw[if_pos h1]
  ·rw[if_neg ag,if_neg ag]
   exact Jz i a b (by rw[h1]at h;omega)
  ·exfalso
   have h2:(b/256^i%256+1)*256^i<=a/256^i%256*256^i:=Nat.mul_le_mul_right _ h1
   rw[Nat.add_mul]at h2
   omega
theorem qP{a b:Nat}(h:a<b)(hb:b<18446744073709551616):fV (e8 a) (e8 b):=by
 rw[Hy,Hy]
 refine Jz 8 a b ?_
 rw[Nat.mod_eq_of_lt (show a<256^8 by omega),Nat.mod_eq_of_lt (show b<256^8 by omega)];exact h
theorem H9{a b:Nat}(ha:a<18446744073709551616)(hb:b<18446744073709551616)(h:e8 a=e8 b):a=b:=by
 rcases Nat.lt_trichotomy a b with h1|h1|h1
 ·have:=qP h1 hb;rw[h]at this;exact absurd this (ep _)
 ·exact h1
 ·have:=qP h1 ha;rw[h]at this;exact absurd this (ep _)
theorem aaj{a b:Nat}(ha:a<18446744073709551616)(_:b<18446744073709551616)(h:fV (e8 a) (e8 b)):a<b:=by
 rcases Nat.lt_trichotomy a b with h1|h1|h1
 ·exact h1
 ·rw[h1]at h;exact absurd h (ep _)
 ·exact absurd h (pV (qP h1 ha))
theorem Lp{α β:Type}(f:α->β){l t:List β}(h:l.Perm t):∀es:List α,t=es.map f->∃ds:List α,ds.Perm es/\ds.map f=l:=by
 induction h with
 |nil=>intro es he;exact⟨[],by rw[List.map_eq_nil_iff.1 he.symm],rfl⟩
 |cons x _ ih=>
  intro es he
  obtain⟨y,ys,rfl,rfl,e2⟩:=List.map_eq_cons_iff.1 he.symm
  obtain⟨ds,h1,h2⟩:=ih ys e2.symm
  exact⟨y::ds,h1.cons y,by simp[h2]⟩
 |swap x y l=>
  intro es he
  obtain⟨u,us,rfl,rfl,e2⟩:=List.map_eq_cons_iff.1 he.symm
  obtain⟨v,vs,rfl,rfl,e3⟩:=List.map_eq_cons_iff.1 e2
  exact⟨v::u::vs,List.Perm.swap _ _ _,by simp[e3]⟩
 |trans _ _ ih1 ih2=>
  intro es he
  obtain⟨ds,h1,h2⟩:=ih2 es he
  obtain⟨ds',h3,h4⟩:=ih1 ds h2.symm
  exact⟨ds',h3.T h1,h4⟩
theorem vK.more{all:List Nat}{q:Nat}{x:aG}(h:vK all q x)(m:List Nat){q':Nat}(hq:q<=q'):vK (all++m) q' x:=
 ⟨h.id,h.info,Nat.le_trans h.le hq,h.gs, λ e=>⟨(h.body e).1,(h.body e).2.1,(h.body e).2.2.more m⟩⟩
theorem cB.more{all:List Nat}{a1 d1 c1 a2 d2 c2 q:Nat}{es:List aG}(h:cB all a1 d1 c1 a2 d2 c2 q es)(m:List Nat):cB (all++m) a1 d1 c1 a2 d2 c2 q es:=
 ⟨by obtain⟨its,h1,h2⟩:=h.ids;exact⟨its,h1,h2.more m⟩,h.Lo.more m, λ x hx=>(h.ok x hx).more m (aW),h.many⟩
theorem cB.zero(all:List Nat):cB all 0 0 0 0 0 0 0 []:=by
 have t:dh all 0 0 0 []:=⟨λ _=>⟨rfl,rfl⟩, λ h=>absurd rfl h,rfl, λ j a b ha _=>by simp at ha⟩
 exact⟨⟨[],List.Perm.refl _,t⟩,t,by simp,by simp⟩
section
variable {all : List Nat} {a1 d1 c1 a2 d2 c2 q : Nat} {es : List aG}
theorem cB.wj(h:cB all a1 d1 c1 a2 d2 c2 q es):c1=es.length:=by
 obtain⟨its,h1,h2⟩:=h.ids
 rw[h2.count,h1.length_eq,List.length_map]
theorem cB.aaH(h:cB all a1 d1 c1 a2 d2 c2 q es):∃ds:List aG,ds.Perm es/\dh all a1 d1 c1 (ds.map yF):=by
 obtain⟨its,h1,h2⟩:=h.ids
 obtain⟨ds,h3,rfl⟩:=Lp yF h1 es rfl
 exact⟨ds,h3,h2⟩
theorem vK.Ta{x:aG}(h:vK all q x):x.s<18446744073709551616:=aM h.info.s2
theorem cB.oW(h:cB all a1 d1 c1 a2 d2 c2 q es):es.Pairwise λ x y=>x.s<y.s:=by
 have h1:=qa.1 h.Lo.oW
 rw[PW,List.pairwise_map]at h1
 refine h1.imp_of_mem λ {x y} hx hy hl=>aaj (h.ok x hx).Ta (h.ok y hy).Ta hl
theorem cB.apart(h:cB all a1 d1 c1 a2 d2 c2 q es):es.Pairwise λ x y=>x.id≠y.id:=by
 obtain⟨ds,h1,h2⟩:=h.aaH
 have h3:=qa.1 h2.oW
 rw[PW,List.pairwise_map]at h3
 have h4:ds.Pairwise λ x y=>x.id≠y.id:=h3.imp λ {x y} hl e=>by
  have hl:fV x.id y.id:=hl
  rw[e]at hl;exact ep _ hl
 exact(h1.pairwise_iff (λ {x y} h=> λ e=>h e.symm)).1 h4
theorem yG{α β:Type}{f:α->β}{l:List α}(h:l.Pairwise λ x y=>f x≠f y){x y:α}(hx:x∈l)(hy:y∈l)(e:f x=f y):x=y:=by
 induction l with
 |nil=>cases hx
 |cons z l ih=>
  rw[List.pairwise_cons]at h
  rcases List.mem_cons.1 hx with e1|QH
  ·rcases List.mem_cons.1 hy with e2|tI
   ·rw[e1,e2]
   ·rw[e1]at e;exact absurd e (h.1 y tI)
  ·rcases List.mem_cons.1 hy with e2|tI
   ·rw[e2]at e;exact absurd e.symm (h.1 x QH)
   ·exact ih h.2 QH tI
theorem OG{l:List KV}(h:PW l):l.Nodup:=h.imp λ {a b} hl e=>by rw[e]at hl;exact ep _ hl
theorem EY{its:List KV}(x:aG)(hp:its.Perm (es.map yF))(hr:PW its)(ha:es.Pairwise λ x y=>x.id≠y.id):
 PW (dK its [⟨x.id,true,x.enc⟩])/\(dK its [⟨x.id,true,x.enc⟩]).Perm (((es.filter λ y=>decide (y.id≠x.id))++[x]).map yF):=by
 obtain⟨h1,h2⟩:=sL (l:=[⟨x.id,true,x.enc⟩]) hr aR
 refine⟨h1,(List.perm_ext_iff_of_nodup (OG h1) ?_).2 λ kv=>?_⟩
 ·rw[List.Nodup,List.pairwise_map]
  rw[List.pairwise_append]
  refine⟨(ha.filter _).imp λ {y z} h e=>h (congrArg Prod.fst e),by simp, λ y hy z hz e=>?_⟩
  rw[List.mem_singleton]at hz;subst hz
  have:=(List.mem_filter.1 hy).2
  exact of_decide_eq_true this (congrArg Prod.fst e)
 ·rw[h2 kv]
  simp only[List.mem_singleton,forall_eq,List.map_append,List.mem_append,List.map_cons,List.map_nil,exists_eq_left,true_and]
  rw[hp.mem_iff]
  constructor
  ·rintro(⟨h3,h4⟩|h3)
   ·obtain⟨y,hy,rfl⟩:=List.mem_map.1 h3
    exact .inl (List.mem_map.2 ⟨y,List.mem_filter.2 ⟨hy,decide_eq_true λ e=>h4 e.symm⟩,rfl⟩)
   ·exact .inr h3
  ·rintro(h3|h3)
   ·obtain⟨y,hy,rfl⟩:=List.mem_map.1 h3
    obtain⟨h4,h5⟩:=List.mem_filter.1 hy
    exact .inl ⟨List.mem_map.2 ⟨y,h4,rfl⟩, λ e=>of_decide_eq_true h5 e.symm⟩
   ·exact .inr h3
theorem Lq{l:List Ed}(x:aG)(hr:es.Pairwise λ x y=>x.s<y.s)(bg:∀y∈es,y.s<x.s)(hx:x.s<18446744073709551616)(ha:es.Pairwise λ x y=>x.id≠y.id)
 (hl:((∀y∈es,y.id≠x.id)/\l=[⟨e8 x.s,true,x.id⟩])\/∃w∈es,w.id=x.id/\l=[⟨e8 w.s,false,[]⟩,⟨e8 x.s,true,x.id⟩]):
 dK (es.map iP) l=((es.filter λ y=>decide (y.id≠x.id))++[x]).map iP:=by
 have Kl:∀y∈es,y.s<18446744073709551616:= λ y hy=>Nat.lt_trans (bg y hy) hx
 have hpw:PW (es.map iP):=by
  rw[PW,List.pairwise_map]
  exact hr.imp_of_mem λ {y z} hy hz h=>qP h (Kl z hz)
 have hlp:l.Pairwise (λ a b=>fV a.key b.key):=by
  rcases hl with⟨_,rfl⟩|⟨w,hw,_,rfl⟩
  ·simp
  ·simp[qP (bg w hw) hx]
 obtain⟨h1,h2⟩:=sL hpw hlp
 refine Ob h1 ?_ λ kv=>?_
 ·rw[PW,List.pairwise_map,List.pairwise_append]
  refine⟨(hr.filter _).imp_of_mem λ {y z} hy hz h=>qP h (Kl z (List.mem_filter.1 hz).1),by simp, λ y hy z hz=>?_⟩
  rw[List.mem_singleton]at hz;subst hz
  exact qP (bg y (List.mem_filter.1 hy).1) hx
 ·rw[h2 kv]
  simp only[List.map_append,List.mem_append,List.map_cons,List.map_nil,List.mem_singleton]
  rcases hl with⟨km,rfl⟩|⟨w,hw,hid,rfl⟩
  ·simp only[List.mem_singleton,forall_eq,exists_eq_left,true_and]
   constructor
   ·rintro(⟨h3,h4⟩|h3)
    ·obtain⟨y,hy,rfl⟩:=List.mem_map.1 h3
     exact .inl (List.mem_map.2 ⟨y,List.mem_filter.2 ⟨hy,decide_eq_true (km y hy)⟩,rfl⟩)
    ·exact .inr h3
   ·rintro(h3|h3)
    ·obtain⟨y,hy,rfl⟩:=List.mem_map.1 h3
     obtain⟨h4,_⟩:=List.mem_filter.1 hy
     exact .inl ⟨List.mem_map.2 ⟨y,h4,rfl⟩, λ e=>by
      have:=H9 hx (Kl y h4) e
      have:=bg y h4;omega⟩
    ·exact .inr h3
  ·constructor
   ·rintro(⟨h3,h4⟩|⟨e,he,jw,rfl⟩)
    ·obtain⟨y,hy,rfl⟩:=List.mem_map.1 h3
     refine .inl (List.mem_map.2 ⟨y,List.mem_filter.2 ⟨hy,decide_eq_true λ e=>?_⟩,rfl⟩)
     have:y=w:=yG (f:=aG.id) ha hy hw (e.T hid.symm)
     subst this
     exact h4 _ (List.mem_cons_self ..) rfl
    ·rcases List.mem_cons.1 he with rfl|he
     ·cases jw
     ·rw[List.mem_singleton]at he;subst he;exact .inr rfl
   ·rintro(h3|h3)
    ·obtain⟨y,hy,rfl⟩:=List.mem_map.1 h3
     obtain⟨h4,h5⟩:=List.mem_filter.1 hy
     refine .inl ⟨List.mem_map.2 ⟨y,h4,rfl⟩, λ e he=>?_⟩
     rcases List.mem_cons.1 he with rfl|he
     ·intro e
      have:=H9 (Kl w hw) (Kl y h4) e
      have hs:y=w:=yG (f:=aG.s) (hr.imp λ {a b} h e=>ag) h4 hw this.symm
      subst hs
      exact of_decide_eq_true h5 hid
     ·rw[List.mem_singleton]at he;subst he
      intro e
      have:=H9 hx (Kl y h4) e
      have:=bg y h4;omega
    ·exact .inr ⟨_,List.mem_cons_of_mem _ (List.mem_cons_self ..),rfl,h3⟩
theorem rK(h:oR (aU id)=0):1<=id.length/\id.length<=24:=by
 unfold oR at h
 have h2:(if Ht (aU id)then(0:Int)else 290)=0:=h
 have h3:Ht (aU id)=true:=by
  cases hc:Ht (aU id)with
  |true=>rfl
  |false=>rw[hc]at h2;simp at h2
 unfold Ht qy OF at h3
 simp only[Bool.and_eq_true,decide_eq_true_eq]at h3
 have e:(aU id).size=id.length:=by simp[aU,ByteArray.size]
 have h4:=h3.1
 rw[e]at h4
 exact h4
end
def dk(s:ByteArray):List Nat:=s.data.toList.map UInt8.toNat
theorem lg(s:ByteArray):aU (dk s)=s:=by
 unfold aU dk
 rw[List.map_map]
 have:(UInt8.ofNat∘UInt8.toNat)=id:=by funext x;exact UInt8.ofNat_toNat
 rw[this,List.map_id]
theorem dI(s:ByteArray):(dk s).length=s.size:=by unfold dk;rw[List.length_map,Array.length_toList];rfl
theorem Ia(s:ByteArray):∀x∈dk s,x<256:=by
 intro x hx
 obtain⟨y,_,rfl⟩:=List.mem_map.1 hx
 exact y.toNat_lt
theorem yH(h:∀x∈xs,x<256):dk (aU xs)=xs:=by
 unfold aU dk
 rw[List.map_map]
 conv=>rhs;rw[<-List.map_id xs]
 refine List.map_congr_left λ x hx=>?_
 simp[Nat.mod_eq_of_lt (h x hx)]
theorem yI(s:ByteArray)(W:World):∃c W',(convert 9 34 (.string s)).run Tryz.prog W= .ok (.slice (zp W) s.size c) W'/\ai W' (zp W) (dk s)/\s.size<=c/\Below W W W'/\W'.heap.size=W.heap.size+1:=by
 refine⟨_,_,Lib.run_convert_string_bytes W _ _ 5 s (u:=.string) aO aO aO,⟨Ia s,.inr ⟨_,_,rfl, λ j x hx=>?_⟩⟩,grownCap_ge _ _ _ _,?_,Lib.bytesWorld_size _ _ _⟩
 ·have hj:j<s.size:=by
   have:=(List.getElem?_eq_some_iff.1 hx).1
   rw[dI]at this;exact this
  rw[Nat.zero_add,Lib.bytesWorld_cell _ _ _ _ hj]
  unfold dk at hx
  rw[List.getElem?_map,Option.map_eq_some_iff]at hx
  obtain⟨y,hy,rfl⟩:=hx
  have tI:s.data[j]? =some y:=by simpa using hy
  simp[List.getD,tI]
 ·unfold Lib.bytesWorld
  exact Lib.below_freeze (((Below.refl W W).drew).alloc (aW) _) (aW) _
theorem gO(s:ByteArray)(W:World):∃c W',(convert 9 34 (.string s)).run Tryz.prog W.drew= .ok (.slice (zp W) s.size c) W'/\ai W' (zp W) (dk s)/\s.size<=c/\Below W W W'/\W'.heap.size=W.heap.size+1:=by
 obtain⟨c,W',h1,h2,h3,h4,h5⟩:=yI s W.drew
 exact⟨c,W',h1,h2,h3,((Below.refl W W).drew).T h4,h5⟩
abbrev Lr(x:aG):Value:=.agg (Ln (aU x.id) x.g x.m x.s x.del x.at_ (kindOf x.del) (gG x.del x.n))
def FD(es:List aG)(id:List Nat)(W:World)(ka:Option Addr)(n:Nat)(va:Option Addr)(vn vc:Nat)(z:Int):Prop:=
 (z=0/\∃x,x∈es/\x.id=id/\n=x.id.length/\vn=21/\21<=vc/\ai W ka x.id/\∃C o,va=some ⟨C,o,none⟩/\ai W (some ⟨C,o,none⟩) x.enc)\/(z=4/\∀x∈es,x.id≠id)
theorem FD.below{es:List aG}{id:List Nat}{W W':World}{ka:Option Addr}{n:Nat}{va:Option Addr}{vn vc:Nat}{z:Int}(h:FD es id W ka n va vn vc z)(hb:Below W W W'):FD es id W' ka n va vn vc z:=
 h.imp (λ h=>⟨h.1,h.2.imp λ x hx=>⟨hx.1,hx.2.1,hx.2.2.1,hx.2.2.2.1,hx.2.2.2.2.1,hx.2.2.2.2.2.1.below hb,hx.2.2.2.2.2.2.imp λ C h=>h.imp λ o h=>⟨h.1,h.2.below hb⟩⟩⟩) (λ h=>h)
theorem FD.AR{es:List aG}{n:Nat}{va:Option Addr}{vn:Nat}{z:Int}(h:FD es id W ka n va vn vc z)(hj:∀j,j≠R->W'.heap[j]? =W.heap[j]?)(hR:W.heap[R]? =some (.cells iT 114)):FD es id W' ka n va vn vc z:=by
 have key:∀(a:Option Addr) (xs:List Nat),ai W a xs->ai W' a xs:= λ a xs h=>dR hj hR (by intro j x;rcases j with _|_|_|_|j<;>simp) h
 exact h.imp (λ h=>⟨h.1,h.2.imp λ x hx=>⟨hx.1,hx.2.1,hx.2.2.1,hx.2.2.2.1,hx.2.2.2.2.1,key _ _ hx.2.2.2.2.2.1,hx.2.2.2.2.2.2.imp λ C h=>h.imp λ o h=>⟨h.1,key _ _ h.2⟩⟩⟩) (λ h=>h)
theorem ti(x:aG):x.enc.length=21:=by simp[aG.enc,b5,nE]
theorem EZ(hF:au w b cf ps)(hm:Marks (al ps)){es:List aG}(hC:cB (al ps) a1 d1 c1 a2 d2 c2 q es)(kc:Nat)(hk:ai w ka key)(zq:1<=key.length)(oN:key.length<=1000)(zt:key.length<=kc):
 Calls Tryz.prog 42 #[aE b ps.length cf,cM a1 d1 c1,.slice ka key.length kc] w λ e w'=>∃(Bf:Option Addr) (n' Ib:Nat) (va:Option Addr) (vn vc:Nat) (z:Int),e= .returned (.tuple (Yx (.agg (dv Bf n' Ib va vn vc)) z))/\Below w w w'/\FD es key w' Bf n' va vn vc z:=by
 obtain⟨its,hp,ht⟩:=hC.ids
 have hl:its.length<=1000:=by rw[hp.length_eq,List.length_map];have:=hC.many;omega
 refine(Oi hF hm ht hl kc hk zq oN zt).mono λ e w' ⟨hb,h⟩=>?_
 rcases h with⟨y,h1,h2,rfl,h3,h4,h5⟩|⟨h1,rfl⟩
 ·obtain⟨x,hx,XH⟩:=List.mem_map.1 (hp.mem_iff.1 h2)
  have e1:y.key=x.id:=(congrArg Prod.fst XH).symm
  have e2:y.val=x.enc:=(congrArg Prod.snd XH).symm
  have e3:y.val.length=21:=by rw[e2,ti]
  obtain⟨C,o,hco⟩:∃C o,y.va=some ⟨C,o,none⟩:=by
   rcases h4.2 with h0|⟨C,o,h0,_⟩
   ·rw[h0]at e3;cases e3
   ·exact⟨C,o,h0⟩
  refine⟨y.ka,y.key.length,y.kc,y.va,y.val.length,y.vc,0,rfl,hb,.inl ⟨rfl,x,hx,by rw[<-e1];exact h1,by rw[e1],e3,ag,by rw[<-e1];exact h3,C,o,hco,?_⟩⟩
  rw[<-e2,<-hco];exact h4
 ·exact⟨none,0,0,none,0,0,4,rfl,hb,.inr ⟨rfl, λ x hx e=>h1 (yF x) (hp.mem_iff.2 (List.mem_map.2 ⟨x,hx,rfl⟩)) e⟩⟩
theorem OH(hS:eE w B b ps.length cf a1 d1 c1 a2 d2 c2 q)(hFl:au w b cf ps)(hm:Marks (al ps)){es:List aG}(hC:cB (al ps) a1 d1 c1 a2 d2 c2 q es)(s:ByteArray)(hid:oR s=0):
 Calls Tryz.prog 58 (BK (zp B) s) w λ e w'=>Below w w w'/\((∃x,x∈es/\x.id=dk s/\e= .returned (.tuple (lD (.agg (vR (aU x.id) x.g x.m x.s x.del x.at_ (kindOf x.del) (gG x.del x.n))))))\/((∀x∈es,x.id≠dk s)/\e= .returned (.tuple (Gj (.agg kA))))):=by
 have su:1<=s.size/\s.size<=24:=by
  have:=rK (id:=dk s) (by rw[lg];exact hid)
  rw[dI]at this;exact this
 obtain⟨w1,aH⟩:=aK (w.alloc (.cells kA 106))
 have aQ:Below w w w1:=by rw[aH];go_grown
 have dD:w1.heap[w.heap.size]? =some (.cells kA 106):=jJ aH
 have dm:w1.heap.size=w.heap.size+1:=by rw[aH];simp
 obtain⟨cA,wA,hcA,Ms,Sn,zC,Nw⟩:=gO s w1
 obtain⟨wI,OI⟩:=aK (w1.alloc (.cells iT 114))
 have Mt:Below w1 w1 wI:=by rw[OI];go_grown
 have hnI:wI.heap[w1.heap.size]? =some (.cells iT 114):=jJ OI
 have Mu:wI.heap.size=w1.heap.size+1:=by rw[OI];simp
 obtain⟨cC,wC,hcC,hkC,hgC,Ya,hsC⟩:=gO s wI
 rw[dm]at hcA Ms hnI Mu
 rw[Mu]at hcC hkC
 have HWI:=af OI
 clear OI
 have VM:=af aQ
 have AO:=af (aQ.T (zC.mono aQ.size))
 have Wu:=af (aQ.T (Mt.mono aQ.size))
 have HBC:=af (Wu.O.T (Ya.mono Wu.O.size))
 have HS:Hid (wA.heap.size=w.heap.size+1+1):=af ag
 have Ri:Hid (wC.heap.size=w.heap.size+1+1+1/\wI.heap.size=w.heap.size+1+1):=af ag
 have HF:Hid (∀W,Below w w W->W.cell? (za B 0)=some (.slice none 0 0)/\W.cell? (za B 1)=some (.slice b ps.length cf)/\W.cell? (za B 2)=some (.int .i64 (-1))/\W.cell? (za B 3)=some (.int .i64 (-1))/\W.cell? (za B 4)=some (.bool false)/\W.cell? (za B 5)=some (.int .i64 (a1:Int))/\W.cell? (za B 6)=some (.int .i64 (d1:Int))/\W.cell? (za B 7)=some (.int .i64 (c1:Int))/\W.cell? (za B 8)=some (.int .i64 0)/\W.cell? (za B 9)=some (.int .i64 0)/\W.cell? (za B 10)=some (.int .u64 0)/\W.cell? (za B 11)=some (.int .i64 0)/\W.cell? (za B 12)=some (.int .i64 0)):=af λ W hb=>by
  have h:=eE.below hS hb
  exact⟨(aa h 0).T rfl,(aa h 1).T rfl,(aa h 2).T rfl,(aa h 3).T rfl,(aa h 4).T rfl,(aa h 5).T rfl,(aa h 6).T rfl,(aa h 7).T rfl,(aa h 8).T rfl,(aa h 9).T rfl,(aa h 10).T rfl,(aa h 11).T rfl,(aa h 12).T rfl⟩
 have HG:Hid (∀(V:World) (ka:Option Addr) (kc:Nat),Below w w V->ai V ka (dk s)->s.size<=kc->Calls Tryz.prog 42 #[aE b ps.length cf,cM a1 d1 c1,.slice ka s.size kc] V λ e w'=>∃(Bf:Option Addr) (n' Ib:Nat) (va:Option Addr) (vn vc:Nat) (z:Int),e= .returned (.tuple (Yx (.agg (dv Bf n' Ib va vn vc)) z))/\Below V V w'/\FD es (dk s) w' Bf n' va vn vc z):=af λ V ka kc hV hk zt=>by
  have:=EZ (hFl.below hV) hm hC kc hk (by rw[dI];exact su.1) (by rw[dI];omega) (by rw[dI];exact zt)
  rw[dI]at this;exact this
 have HR:Hid (∀(V:World) (x:aG),Below w w V->x∈es->∀(C o:Nat) (ka:Option Addr) (kc vc:Nat),ai V ka x.id->ai V (some ⟨C,o,none⟩) x.enc->21<=vc->Calls Tryz.prog 54 (tQ (zp B) (.agg (dv ka x.id.length kc (some ⟨C,o,none⟩) 21 vc))) V λ e w'=>e= .returned (.tuple #[Lr x,.bool true])/\Below V V w'):=af λ V x hV hx C o ka kc vc hk hv uI=>by
  have hd:=hC.ok x hx
  exact Bd (hS.below hV) (hFl.below hV) hm hk (by have:=(rK hd.id).2;omega) hd.id hd.info hv uI hd.body
 unfold aE cM at HG
 clear hS hFl hm hC hid su Nw hsC Mu
 go_enter Tryz.func58,Tryz.ntmps58
 go_wp2_with fail
 rw[<-aH]
 clear aH
 obtain⟨f0,f1,f2,f3,f4,f5,f6,f7,f8,f9,f10,f11,f12⟩:=HF.O _ VM.O
 refine bP 18 ?_
 refine tP [0,1,2,3,4,5,6,7,8,9] ?_
 iterate 10 refine tO ?_
 refine ah 8 rfl ?_
 refine Gr 10 15 [9] [] (λ K hK=>?_) λ K hK=>?_
 go_simp
 clear f0 f1 f2 f3 f4 f5 f6 f7 f8 f9 f10 f11 f12
 obtain⟨f0,f1,f2,f3,f4,f5,f6,f7,f8,f9,f10,f11,f12⟩:=HF.O _ AO.O
 refine nP hK ?_
 clear hK K
 refine Gr 11 15 [0,1,2,3,4,5,6,7,8,9,10] [9] (λ K hK=>?_) λ K hK=>?_
 go_simp
 have eP:=af (AO.O)
 (with_reducible refine(HG.O _ _ _ eP.O (Ms) (Sn)).mono ?_);rintro e w3 ⟨Bf,n',Ib,va,vn,vc,z,rfl,aL,hz⟩
 have bA:=cj (eP.O.T (aL.mono eP.O.size)) aL
 have HZ:=af hz
 clear aL hz
 refine nP hK ?_
 clear hK K
 refine tP [12,13,14] ?_
 iterate 3 refine tO ?_
 refine ah 3 rfl ?_
 refine sP 15 [0,1,2,3,4,5,6,7,8,9,10] λ K hK=>?_
 go_simp
 obtain⟨w5,eT⟩:=aK (w3.alloc (.cells iT 114))
 have bJ:Below w3 w3 w5:=by rw[eT];go_grown
 have HA:Hid (w5.heap[w3.heap.size]? =some (.cells iT 114)/\w5.heap[w.heap.size]? =some (.cells kA 106)/\Below w w w5/\FD es (dk s) w5 Bf n' va vn vc z):=af ⟨by rw[eT];exact World.alloc_heap_new _ _,(bJ.block _ (cG bA.O.2.size HS.O)).T ((bA.O.2.block _ (aM HS.O)).T ((zC.block _ ag).T dD)),bA.O.1.T (bJ.mono bA.O.1.size),HZ.O.below bJ⟩
 rw[<-eT]
 have HL:Hid (w.heap.size<w3.heap.size):=af (cG bA.O.2.size HS.O)
 clear eT bJ
 refine nP hK ?_
 clear hK K
 refine sP 16 [0,1,2,3,4,5,6,7,8,9,10,11,12,13,15] λ K hK=>?_
 refine lB ?_
 refine bI 114 _ _ rfl _ 0 iT (dv Bf n' Ib va vn vc) 114 rfl rfl HA.O.1 aR aO (by simp[Value.oneCell']) (λ w7 g1 g2 g3=>?_)
 simp only[aF,bD,aD]at g1
 have eX:Hid (_/\_/\_/\FD es (dk s) w7 Bf n' va vn vc z):=jo g1 ((g2 w.heap.size (aM HL.O)).T HA.O.2.1) (g3 w w (aM HL.O) HA.O.2.2.1) (HA.O.2.2.2.AR (λ j hj=>g2 j hj) HA.O.1)
 clear g1 g2 g3
 refine nP hK ?_
 clear hK K
 refine tP [17] ?_
 refine tO ?_
 refine ah 0 rfl ?_
 refine dP ?_
 go_simp
 have wP:=aj eX.O.1
 rcases eX.O.2.2.2 with⟨rfl,x,hx,vm,rfl,rfl,uI,Mv,C,o,rfl,TV⟩|⟨rfl,km⟩
 ·have Al:=af (HR.O w7 x eX.O.2.2.1 hx C o _ Ib _ Mv TV uI)
  have HX:=cj (anI hx vm) eX.O.2
  clear hx vm uI Mv TV eX
  unfold Lr Ln at Al
  go_wp2_with first
   |(refine bh 114 ?_)
   |((with_reducible refine Al.O.mono ?_);rintro e w8 ⟨rfl,qt⟩
     have F8:=cj ((qt.block _ (aX HX.O.2.1).1).T HX.O.2.1) (HX.O.2.2.1.T (qt.mono HX.O.2.2.1.size))
     clear qt)
   |(refine aP 106 rfl _ _ rfl (w.heap.size) 0 kA (vR (aU x.id) x.g x.m x.s x.del x.at_ (kindOf x.del) (gG x.del x.n)) 106 rfl rfl F8.O.1 aR aO (by simp[Value.oneCell']) (λ w9 h1 h2 h3=>?_)
     simp only[aF,bD,aD]at h1
     have x0:=(aa h1 0).T rfl
     have x1:=(aa h1 1).T rfl
     have x2:=(aa h1 2).T rfl
     have x3:=(aa h1 3).T rfl
     have x4:=(aa h1 4).T rfl
     have x5:=(aa h1 5).T rfl
     have x6:=(aa h1 6).T rfl
     have x7:=(aa h1 7).T rfl
     have x8:=(aa h1 8).T rfl
     have x9:=(aa h1 9).T rfl
     have Hv:=(aa h1 10).T rfl
     simp only[aF,bD,aD]at x0 x1 x2 x3 x4 x5 x6 x7 x8 x9 Hv
     have HE:=af (h3 w w ag F8.O.2)
     clear h1 h2 h3)
   |fail
  refine bodyPost_ret (v:=.tuple (lD (.agg (vR (aU x.id) x.g x.m x.s x.del x.at_ (kindOf x.del) (gG x.del x.n))))) (by rw[results_cell_tmp rfl];go_simp) (by rfl) ⟨HE.O,.inl ⟨x,HX.O.1.1,HX.O.1.2,rfl⟩⟩
 ·have HX:=cj km eX.O.2
  clear km eX
  go_wp2_with first
   |(refine aP 106 rfl _ _ rfl (w.heap.size) 0 kA kA 106 rfl rfl HX.O.2.1 aR aO (by simp[Value.oneCell']) (λ w9 h1 h2 h3=>?_)
     simp only[aF,bD,aD]at h1
     have x0:=(aa h1 0).T rfl
     have x1:=(aa h1 1).T rfl
     have x2:=(aa h1 2).T rfl
     have x3:=(aa h1 3).T rfl
     have x4:=(aa h1 4).T rfl
     have x5:=(aa h1 5).T rfl
     have x6:=(aa h1 6).T rfl
     have x7:=(aa h1 7).T rfl
     have x8:=(aa h1 8).T rfl
     have x9:=(aa h1 9).T rfl
     have Hv:=(aa h1 10).T rfl
     simp only[aF,bD,aD]at x0 x1 x2 x3 x4 x5 x6 x7 x8 x9 Hv
     have HE:=af (h3 w w ag HX.O.2.2.1)
     clear h1 h2 h3)
   |fail
  refine bodyPost_ret (v:=.tuple (Gj (.agg kA))) (by rw[results_cell_tmp rfl];go_simp) (by rfl) ⟨HE.O,.inr ⟨HX.O.1,rfl⟩⟩
 go_simp
 obtain⟨wJ,OJ⟩:=aK (wA.alloc (.cells iT 114))
 have TW:Hid (Below wA wA wJ):=af (by rw[OJ];go_grown)
 have HNJ:Hid (wJ.heap[wA.heap.size]? =some (.cells iT 114)):=af (jJ OJ)
 have TX:Hid (wJ.heap.size=wA.heap.size+1):=af (by rw[OJ];simp)
 rw[<-OJ]
 clear OJ
 clear f0 f1 f2 f3 f4 f5 f6 f7 f8 f9 f10 f11 f12
 obtain⟨f0,f1,f2,f3,f4,f5,f6,f7,f8,f9,f10,f11,f12⟩:=HF.O _ (AO.O.T (TW.O.mono AO.O.size))
 refine nP hK ?_
 clear hK K
 refine sP 11 [0,1,2,3,4,5,6,7,8,9,10] λ K hK=>?_
 go_simp
 have eP:=af (AO.O.T (TW.O.mono AO.O.size))
 (with_reducible refine(HG.O _ _ _ eP.O (Ms.below TW.O) (Sn)).mono ?_);rintro e w3 ⟨Bf,n',Ib,va,vn,vc,z,rfl,aL,hz⟩
 have bA:=cj (eP.O.T (aL.mono eP.O.size)) aL
 have HZ:=af hz
 clear aL hz
 have HA:Hid (w3.heap[wA.heap.size]? =some (.cells iT 114)/\w3.heap[w.heap.size]? =some (.cells kA 106)/\Below w w w3/\FD es (dk s) w3 Bf n' va vn vc z):=af ⟨(bA.O.2.block _ (aM TX.O)).T HNJ.O,(bA.O.2.block _ (cG TX.O HS.O)).T ((TW.O.block _ (aM HS.O)).T ((zC.block _ ag).T dD)),bA.O.1,HZ.O⟩
 refine nP hK ?_
 clear hK K
 refine tP [12,13,14] ?_
 iterate 3 refine tO ?_
 refine ah 2 rfl ?_
 refine sP 16 [0,1,2,3,4,5,6,7,8,9,10,11,12,13,15] λ K hK=>?_
 refine lB ?_
 refine bI 114 _ _ rfl _ 0 iT (dv Bf n' Ib va vn vc) 114 rfl rfl HA.O.1 aR aO (by simp[Value.oneCell']) (λ w7 g1 g2 g3=>?_)
 simp only[aF,bD,aD]at g1
 have eX:Hid (_/\_/\_/\FD es (dk s) w7 Bf n' va vn vc z):=jo g1 ((g2 w.heap.size (aM HS.O)).T HA.O.2.1) (g3 w w (aM HS.O) HA.O.2.2.1) (HA.O.2.2.2.AR (λ j hj=>g2 j hj) HA.O.1)
 clear g1 g2 g3
 refine nP hK ?_
 clear hK K
 refine tP [17] ?_
 refine tO ?_
 refine ah 0 rfl ?_
 refine dP ?_
 go_simp
 have wP:=aj eX.O.1
 rcases eX.O.2.2.2 with⟨rfl,x,hx,vm,rfl,rfl,uI,Mv,C,o,rfl,TV⟩|⟨rfl,km⟩
 ·have Al:=af (HR.O w7 x eX.O.2.2.1 hx C o _ Ib _ Mv TV uI)
  have HX:=cj (anI hx vm) eX.O.2
  clear hx vm uI Mv TV eX
  unfold Lr Ln at Al
  go_wp2_with first
   |(refine bh 114 ?_)
   |((with_reducible refine Al.O.mono ?_);rintro e w8 ⟨rfl,qt⟩
     have F8:=cj ((qt.block _ (aX HX.O.2.1).1).T HX.O.2.1) (HX.O.2.2.1.T (qt.mono HX.O.2.2.1.size))
     clear qt)
   |(refine aP 106 rfl _ _ rfl (w.heap.size) 0 kA (vR (aU x.id) x.g x.m x.s x.del x.at_ (kindOf x.del) (gG x.del x.n)) 106 rfl rfl F8.O.1 aR aO (by simp[Value.oneCell']) (λ w9 h1 h2 h3=>?_)
     simp only[aF,bD,aD]at h1
     have x0:=(aa h1 0).T rfl
     have x1:=(aa h1 1).T rfl
     have x2:=(aa h1 2).T rfl
     have x3:=(aa h1 3).T rfl
     have x4:=(aa h1 4).T rfl
     have x5:=(aa h1 5).T rfl
     have x6:=(aa h1 6).T rfl
     have x7:=(aa h1 7).T rfl
     have x8:=(aa h1 8).T rfl
     have x9:=(aa h1 9).T rfl
     have Hv:=(aa h1 10).T rfl
     simp only[aF,bD,aD]at x0 x1 x2 x3 x4 x5 x6 x7 x8 x9 Hv
     have HE:=af (h3 w w ag F8.O.2)
     clear h1 h2 h3)
   |fail
  refine bodyPost_ret (v:=.tuple (lD (.agg (vR (aU x.id) x.g x.m x.s x.del x.at_ (kindOf x.del) (gG x.del x.n))))) (by rw[results_cell_tmp rfl];go_simp) (by rfl) ⟨HE.O,.inl ⟨x,HX.O.1.1,HX.O.1.2,rfl⟩⟩
 ·have HX:=cj km eX.O.2
  clear km eX
  go_wp2_with first
   |(refine aP 106 rfl _ _ rfl (w.heap.size) 0 kA kA 106 rfl rfl HX.O.2.1 aR aO (by simp[Value.oneCell']) (λ w9 h1 h2 h3=>?_)
     simp only[aF,bD,aD]at h1
     have x0:=(aa h1 0).T rfl
     have x1:=(aa h1 1).T rfl
     have x2:=(aa h1 2).T rfl
     have x3:=(aa h1 3).T rfl
     have x4:=(aa h1 4).T rfl
     have x5:=(aa h1 5).T rfl
     have x6:=(aa h1 6).T rfl
     have x7:=(aa h1 7).T rfl
     have x8:=(aa h1 8).T rfl
     have x9:=(aa h1 9).T rfl
     have Hv:=(aa h1 10).T rfl
     simp only[aF,bD,aD]at x0 x1 x2 x3 x4 x5 x6 x7 x8 x9 Hv
     have HE:=af (h3 w w ag HX.O.2.2.1)
     clear h1 h2 h3)
   |fail
  refine bodyPost_ret (v:=.tuple (Gj (.agg kA))) (by rw[results_cell_tmp rfl];go_simp) (by rfl) ⟨HE.O,.inr ⟨HX.O.1,rfl⟩⟩
 go_simp
 rw[<-HWI.O]
 clear f0 f1 f2 f3 f4 f5 f6 f7 f8 f9 f10 f11 f12
 obtain⟨f0,f1,f2,f3,f4,f5,f6,f7,f8,f9,f10,f11,f12⟩:=HF.O _ Wu.O
 refine nP hK ?_
 clear hK K
 refine sP 10 [9] λ K hK=>?_
 go_simp
 clear f0 f1 f2 f3 f4 f5 f6 f7 f8 f9 f10 f11 f12
 obtain⟨f0,f1,f2,f3,f4,f5,f6,f7,f8,f9,f10,f11,f12⟩:=HF.O _ HBC.O
 refine nP hK ?_
 clear hK K
 refine sP 11 [0,1,2,3,4,5,6,7,8,9,10] λ K hK=>?_
 go_simp
 have eP:=af (HBC.O)
 (with_reducible refine(HG.O _ _ _ eP.O (hkC) (hgC)).mono ?_);rintro e w3 ⟨Bf,n',Ib,va,vn,vc,z,rfl,aL,hz⟩
 have bA:=cj (eP.O.T (aL.mono eP.O.size)) aL
 have HZ:=af hz
 clear aL hz
 have HA:Hid (w3.heap[w.heap.size+1]? =some (.cells iT 114)/\w3.heap[w.heap.size]? =some (.cells kA 106)/\Below w w w3/\FD es (dk s) w3 Bf n' va vn vc z):=af ⟨(bA.O.2.block _ (aM Ri.O)).T ((Ya.block _ (aM Ri.O)).T hnI),(bA.O.2.block _ (aM Ri.O)).T ((Ya.block _ (aM Ri.O)).T ((Mt.block _ ag).T dD)),bA.O.1,HZ.O⟩
 refine nP hK ?_
 clear hK K
 refine tP [12,13,14] ?_
 iterate 3 refine tO ?_
 refine ah 2 rfl ?_
 refine sP 16 [0,1,2,3,4,5,6,7,8,9,10,11,12,13,15] λ K hK=>?_
 refine lB ?_
 refine bI 114 _ _ rfl _ 0 iT (dv Bf n' Ib va vn vc) 114 rfl rfl HA.O.1 aR aO (by simp[Value.oneCell']) (λ w7 g1 g2 g3=>?_)
 simp only[aF,bD,aD]at g1
 have eX:Hid (_/\_/\_/\FD es (dk s) w7 Bf n' va vn vc z):=jo g1 ((g2 w.heap.size ag).T HA.O.2.1) (g3 w w ag HA.O.2.2.1) (HA.O.2.2.2.AR (λ j hj=>g2 j hj) HA.O.1)
 clear g1 g2 g3
 refine nP hK ?_
 clear hK K
 refine tP [17] ?_
 refine tO ?_
 refine ah 0 rfl ?_
 refine dP ?_
 go_simp
 have wP:=aj eX.O.1
 rcases eX.O.2.2.2 with⟨rfl,x,hx,vm,rfl,rfl,uI,Mv,C,o,rfl,TV⟩|⟨rfl,km⟩
 ·have Al:=af (HR.O w7 x eX.O.2.2.1 hx C o _ Ib _ Mv TV uI)
  have HX:=cj (anI hx vm) eX.O.2
  clear hx vm uI Mv TV eX
  unfold Lr Ln at Al
  go_wp2_with first
   |(refine bh 114 ?_)
   |((with_reducible refine Al.O.mono ?_);rintro e w8 ⟨rfl,qt⟩
     have F8:=cj ((qt.block _ (aX HX.O.2.1).1).T HX.O.2.1) (HX.O.2.2.1.T (qt.mono HX.O.2.2.1.size))
     clear qt)
   |(refine aP 106 rfl _ _ rfl (w.heap.size) 0 kA (vR (aU x.id) x.g x.m x.s x.del x.at_ (kindOf x.del) (gG x.del x.n)) 106 rfl rfl F8.O.1 aR aO (by simp[Value.oneCell']) (λ w9 h1 h2 h3=>?_)
     simp only[aF,bD,aD]at h1
     have x0:=(aa h1 0).T rfl
     have x1:=(aa h1 1).T rfl
     have x2:=(aa h1 2).T rfl
     have x3:=(aa h1 3).T rfl
     have x4:=(aa h1 4).T rfl
     have x5:=(aa h1 5).T rfl
     have x6:=(aa h1 6).T rfl
     have x7:=(aa h1 7).T rfl
     have x8:=(aa h1 8).T rfl
     have x9:=(aa h1 9).T rfl
     have Hv:=(aa h1 10).T rfl
     simp only[aF,bD,aD]at x0 x1 x2 x3 x4 x5 x6 x7 x8 x9 Hv
     have HE:=af (h3 w w ag F8.O.2)
     clear h1 h2 h3)
   |fail
  refine bodyPost_ret (v:=.tuple (lD (.agg (vR (aU x.id) x.g x.m x.s x.del x.at_ (kindOf x.del) (gG x.del x.n))))) (by rw[results_cell_tmp rfl];go_simp) (by rfl) ⟨HE.O,.inl ⟨x,HX.O.1.1,HX.O.1.2,rfl⟩⟩
 ·have HX:=cj km eX.O.2
  clear km eX
  go_wp2_with first
   |(refine aP 106 rfl _ _ rfl (w.heap.size) 0 kA kA 106 rfl rfl HX.O.2.1 aR aO (by simp[Value.oneCell']) (λ w9 h1 h2 h3=>?_)
     simp only[aF,bD,aD]at h1
     have x0:=(aa h1 0).T rfl
     have x1:=(aa h1 1).T rfl
     have x2:=(aa h1 2).T rfl
     have x3:=(aa h1 3).T rfl
     have x4:=(aa h1 4).T rfl
     have x5:=(aa h1 5).T rfl
     have x6:=(aa h1 6).T rfl
     have x7:=(aa h1 7).T rfl
     have x8:=(aa h1 8).T rfl
     have x9:=(aa h1 9).T rfl
     have Hv:=(aa h1 10).T rfl
     simp only[aF,bD,aD]at x0 x1 x2 x3 x4 x5 x6 x7 x8 x9 Hv
     have HE:=af (h3 w w ag HX.O.2.2.1)
     clear h1 h2 h3)
   |fail
  refine bodyPost_ret (v:=.tuple (Gj (.agg kA))) (by rw[results_cell_tmp rfl];go_simp) (by rfl) ⟨HE.O,.inr ⟨HX.O.1,rfl⟩⟩
section
variable {F : Fence} {n : Nat} {P : Program} {ops : Array Oper} {rest : List Oper} {op : Oper} {a : Act} {W : World} {Q : Exit -> Act -> World -> Prop}
theorem fE(MA:op.guard=none)(ty:TypeId)(x:Operand)(ho:op.op= .load ty x)
 (b o:Nat)(hx:a.eval x= .pointer (some ⟨b,o,none⟩))(cs:List Value)(d:TypeDesc)(hc:W.rangeAt b o cs)
 (hu:P.underlying ty=some d)(hd:d.isRow=true)(hi:(P.info? ty).map (·.size)=some cs.length)
 (h:wpListIn F n P ops Q rest (a.put op.dst (.agg cs.toArray)) W):wpListIn F n P ops Q (op::rest) a W:=by
 refine wpListIn_plain MA λ K' hK'=>?_
 unfold Oper.wpIn
 refine⟨by simp[Oper.about,ho],?_⟩
 rw[Oper.semAt_plain F _ _ (by rw[ho];intro c hc';cases hc')]
 have K1:=run_loadAt_mid W b o ty cs d hc hu hd hi
 simp[execOp,ho,hx,K1,Result.andThen]
 exact hK' _ _ h
theorem iy(ty:TypeId)(MA:op.guard=none)(x y:Operand)(ho:op.op= .store ty x y)
 (B:Nat)(zs cells:Array Value)(hx:a.eval x= .pointer (zp B))(hB:B=W.heap.size)(hy:a.eval y= .agg cells)(hz:zs.size=cells.size)(hi:(P.info? ty).map (·.size)=some cells.size)(h1:cells.all (·.oneCell')=true)
 (h:wpListIn F n P ops Q rest (a.put op.dst undef) (W.alloc (.cells cells ty))):wpListIn F n P ops Q (op::rest) a (W.alloc (.cells zs ty)):=by
 subst hB
 refine wpListIn_plain MA λ K' hK'=>?_
 unfold Oper.wpIn
 refine⟨by simp[Oper.about,ho],?_⟩
 rw[Oper.semAt_plain F _ _ (by rw[ho];intro c hc';cases hc')]
 have hn:=World.alloc_heap_new W (.cells zs ty)
 have K1:=run_storeAt_mid (P:=P) (W.alloc (.cells zs ty)) W.heap.size 0 ty cells (λ j hj=>by
  refine⟨?_,ak hn _⟩
  rw[aa hn,Nat.zero_add,Array.getElem?_eq_getElem ag];rfl) hi h1
 rw[rz W ty zs cells hz]at K1
 simp[execOp,ho,hx,hy,K1,Result.andThen]
 exact hK' _ _ h
end
end
end Go.Proofs.YtkgapncajjafoaaGreatDoor

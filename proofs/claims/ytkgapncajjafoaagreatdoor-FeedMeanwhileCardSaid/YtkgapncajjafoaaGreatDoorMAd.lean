/- The store, part 4. -/
import Derived.Test.YtkgapncajjafoaaGreatDoorMAa
import Derived.Test.YtkgapncajjafoaaGreatDoorMAc
import Derived.RangeFuncBox
import Derived.Laws.BitsAllLaws
import Derived.Laws.Bits64
import Derived.RangeFuncNested
set_option maxRecDepth 100000
set_option maxHeartbeats 16000000
namespace Go.Proofs.YtkgapncajjafoaaGreatDoor
open Go.RowKit Go.Shelf
variable{W w w' w0 W':World}{n₀ g k c sz cc B o R K:Nat}{e t:TypeId}{a:Option Addr}{xs:List an}{v v' x v0:Value}{bs ys vs cs:List Nat}
theorem fh{vs:List Value}(h:W.ownsRow n₀ e 1 (.slice (zp g) k c) k vs)(j:Nat)(v:Value)(hj:vs[j]? =some v):W.cell? ⟨g,j,none⟩=some v:=by
 rcases h.2 with⟨h2,_⟩|⟨g',cap,cur,h2,hb,hg,_,_,_,ht⟩
 ·cases h2
 ·cases h2
  rw[<-ht,List.getElem?_take]at hj
  split at hj
  ·simp only[World.cell?,hg];simpa using hj
  ·cases hj
def bb(ks:List (List Nat)):Prop:=∀j a b,ks[j]? =some a->ks[j+1]? =some b->fV a b
structure jb(xs:List an):Prop where
 DQ:1<=xs.length
 kT:xs.length<=6
 key:∀x∈xs,1<=x.key.length/\x.key.length<=120/\x.val.length<=100
 oW:bb (xs.map an.key)
structure dt(xs:List aw):Prop where
 DR:2<=xs.length
 kT:xs.length<=6
 key:∀x∈xs,1<=x.key.length/\x.key.length<=120/\1<=x.at_/\x.at_<524288/\1<=x.count/\x.count<=100000
 oW:bb (xs.map aw.key)
def Ab(xs:List an):Nat:=xs.length
def sq(xs:List aw):Nat:=(xs.map aw.count).sum
theorem Kt(xs:List an)(j:Nat)(x:an)(h:xs[j]? =some x):Ab (xs.take (j+1))=Ab (xs.take j)+1:=by
 rw[List.take_add_one,h];simp[Ab]
theorem Ku(xs:List aw)(j:Nat)(x:aw)(h:xs[j]? =some x):sq (xs.take (j+1))=sq (xs.take j)+x.count:=by
 rw[List.take_add_one,h];simp[sq]
theorem Ca:∀(xs:List aw),(∀x∈xs,x.count<=100000)->sq xs<=xs.length*100000
 |[],_=>by simp[sq]
 |x::xs,h=>by
  have h1:=Ca xs (λ y hy=>h y (by simp[hy]))
  have h2:=h x aR
  simp only[sq,List.map_cons,List.sum_cons,List.length_cons]at*
  omega
theorem ri(c:Nat)(h:dQ w a xs)(ho:jb xs)(b:Option Addr)(d:Nat):
 Calls Tryz.prog 126 #[.agg #[.bool true,.slice a xs.length c,.slice b 0 d]] w λ e w'=>e= .returned (.int .i64 0)/\Below w w w':=by
 have hlen:=ho.kT
 have xA:=ho.DQ
 have hP:= λ (w2:World) (hb:Below w w w2)=>nD c (h.below hb) ag b 0 d
 have hC:∀(j:Nat) (x y:an),xs[j]? =some x->xs[j+1]? =some y->∀w2,Below w w w2->Calls Tryz.prog 97 (jF x.ka x.key.length x.kc y.ka y.key.length y.kc) w2 λ e w'=>e= .returned (.int .i64 (-1))/\w2=w':= λ j x y hx hy w2 hb=>by
  have e1:=(h.below hb).2 x (List.mem_of_getElem? hx)
  have e2:=(h.below hb).2 y (List.mem_of_getElem? hy)
  have:=gL (c:=x.kc) (d:=y.kc) e1.1 e2.1 rfl rfl
  rw[show cmpL x.key y.key= -1 from ho.oW j _ _ (by simp[hx]) (by simp[hy])]at this
  refine this.mono ?_
  rintro e w' ⟨rfl,rfl⟩
  exact⟨rfl,rfl⟩
 have HP:=af hP
 have HC:=af hC
 have HO:=af ho
 have ei:Hid (Below w w (w.alloc (.cells #[.bool true,.slice a xs.length c,.slice b 0 d] 169))):=af (by go_grown)
 have g1:decide (((6:Int))<(xs.length:Int))=false:=bV
 have g2:decide ((xs.length:Int)<(1:Int))=false:=bV
 have g3:decide ((xs.length:Int)<(2:Int))=decide ((xs.length:Int)<2):=rfl
 have g4:(0:Int)<(xs.length:Int):=ag
 have hfd:∀(q:Int) (W:World),(Instr.field 39 (fX q) 0).run Tryz.prog W= .ok (.int .i64 q) W:= λ q W=>aO
 clear h hP hC ho
 go_enter Tryz.func126,Tryz.ntmps126
 go_wp2_with first
  |((with_reducible refine(HP.O _ ei.O).mono ?_);rintro e w2 ⟨p,k,rfl,ax,aC⟩)
  |fail
 obtain⟨g,rfl⟩:∃g,p=some ⟨g,0,none⟩:=by
  rcases ay ax with⟨_,h,_⟩|⟨g,_,rfl,_⟩
  ·omega
  ·exact⟨g,rfl⟩
 have HR:=af ax
 have bR:=af (ei.O.T (aC.mono ei.O.size))
 clear ax aC
 go_loopw [5,51] (λ cv iv wr=>∃j:Nat,j<=xs.length/\iv= .int .i64 (j:Int)/\cv= .int .i64 (Ab (xs.take j):Nat)/\Hid (Below w2 w2 wr)) (λ _ iv _=>xs.length - (intOf iv).toNat)
 case atStart=>exact⟨0,Nat.zero_le _,rfl,by simp[Ab],af (dp)⟩
 case round=>
  obtain⟨j,hj,rfl,rfl,hB⟩:=hrel
  by_cases bg:j<xs.length
  ·obtain⟨x,hx⟩:∃x,xs[j]? =some x:=⟨xs[j],by simp[bg]⟩
   have BW:=HO.O.key x (List.mem_of_getElem? hx)
   have bq:wr.cell? ⟨g,j,none⟩=some (jV x):=carry hB.O (fh HR.O j _ (by simp[hx]))
   have qp:=Kt xs j x hx
   have su:Ab (xs.take j)<=700000:=by
    have:(xs.take j).length<=xs.length:=by rw[List.length_take];omega
    show(xs.take j).length<=_
    omega
   have nh:Below w w wr:=bR.O.T (hB.O.mono bR.O.size)
   have k1:decide ((x.key.length:Int)<1)=false:=bV
   have k2:decide ((120:Int)<(x.key.length:Int))=false:=bV
   have fG:Hid (((Ab (xs.take j):Nat):Int)+1=((Ab (xs.take (j+1)):Nat):Int)):=af (by rw[qp];simp)
   have hsi:((Ab (xs.take j):Nat):Int)<=700000:=ag
   obtain⟨S,hS⟩:∃S:Int,S=((Ab (xs.take j):Nat):Int):=⟨_,rfl⟩
   rw[<-hS]at hsi fG⊢
   have hS0:(0:Int)<=S:=ag
   have HX:=af hx
   have Rt:=af BW
   have Gy:=af nh
   have gy:(j:Int)<(xs.length:Int):=ag
   have rj:(j:Int)<=6:=ag
   unfold jV an.v at bq
   have k3:=(1:Nat)
   clear hx BW qp su hS nh
   by_cases Ns:j=0
   ·subst Ns
    go_wp2_with first
     |((with_reducible refine(uh _ _ _ _ _ _ _).mono ?_);rintro e wn ⟨rfl,kt⟩;replace hB:=af (hB.O.T (kt.mono hB.O.size));clear kt)
     |((with_reducible refine(DN _ _ _ _ _ _ Rt.O.2.2 _).mono ?_);rintro e wn ⟨rfl,kt⟩;replace hB:=af (hB.O.T (kt.mono hB.O.size));clear kt)
     |((with_reducible refine(xy _ _ _ _ _ _ _).mono ?_);rintro e wn ⟨rfl,kt⟩;replace hB:=af (hB.O.T (kt.mono hB.O.size));clear kt)
     |fail
    exact⟨⟨1,ag,by simp,fG.O▸rfl,hB⟩,by simp[intOf]<;>omega⟩
   ·obtain⟨i,rfl⟩:∃i,j=i+1:=⟨j - 1,ag⟩
    obtain⟨y,hy⟩:∃y,xs[i]? =some y:=⟨xs[i],by simp⟩
    have gB:wr.cell? ⟨g,i,none⟩=some (jV y):=carry hB.O (fh HR.O i _ (by simp[hy]))
    have I4:=af (HC.O i y x hy HX.O)
    unfold jV an.v at gB
    have ou:(0:Int)<((i:Int)+1):=ag
    have vf:(i:Int)<(xs.length:Int):=ag
    clear hy Ns
    go_wp2_with first
     |((with_reducible refine(uh _ _ _ _ _ _ _).mono ?_);rintro e wn ⟨rfl,kt⟩;replace hB:=af (hB.O.T (kt.mono hB.O.size));replace gB:=carry kt gB;clear kt)
     |((with_reducible refine(DN _ _ _ _ _ _ Rt.O.2.2 _).mono ?_);rintro e wn ⟨rfl,kt⟩;replace hB:=af (hB.O.T (kt.mono hB.O.size));replace gB:=carry kt gB;clear kt)
     |((with_reducible refine(xy _ _ _ _ _ _ _).mono ?_);rintro e wn ⟨rfl,kt⟩;replace hB:=af (hB.O.T (kt.mono hB.O.size));replace gB:=carry kt gB;clear kt)
     |((with_reducible refine(I4.O _ (bR.O.T (hB.O.mono bR.O.size))).mono ?_);rintro e wn ⟨rfl,rfl⟩)
     |fail
    exact⟨⟨i+1+1,ag,by simp,fG.O▸rfl,hB⟩,by simp[intOf]<;>omega⟩
  ·obtain rfl:j=xs.length:=ag
   go_wp2_with fail
   go_ret
   exact⟨rfl,bR.O.T (hB.O.mono bR.O.size)⟩
theorem oX{xs:List aw}(c:Nat)(h:gT w a xs)(ho:dt xs)(b:Option Addr)(d:Nat):
 Calls Tryz.prog 126 (Gi (.agg (qU b 0 d a xs.length c))) w λ e w'=>e= .returned (.int .i64 0)/\Below w w w':=by
 have hlen:=ho.kT
 have xA:=ho.DR
 have hP:= λ (w2:World) (hb:Below w w w2)=>lM c (h.below hb) ag b 0 d
 have hC:∀(j:Nat) (x y:aw),xs[j]? =some x->xs[j+1]? =some y->∀w2,Below w w w2->Calls Tryz.prog 97 (jF x.ka x.key.length x.kc y.ka y.key.length y.kc) w2 λ e w'=>e= .returned (.int .i64 (-1))/\w2=w':= λ j x y hx hy w2 hb=>by
  have e1:=(h.below hb).2 x (List.mem_of_getElem? hx)
  have e2:=(h.below hb).2 y (List.mem_of_getElem? hy)
  have:=gL (c:=x.kc) (d:=y.kc) e1 e2 rfl rfl
  rw[show cmpL x.key y.key= -1 from ho.oW j _ _ (by simp[hx]) (by simp[hy])]at this
  refine this.mono ?_
  rintro e w' ⟨rfl,rfl⟩
  exact⟨rfl,rfl⟩
 have HP:=af hP
 have HC:=af hC
 have HO:=af ho
 have ei:Hid (Below w w (w.alloc (.cells (qU b 0 d a xs.length c) 169))):=af (by go_grown)
 have g1:decide (((6:Int))<(xs.length:Int))=false:=bV
 have g2:decide ((xs.length:Int)<(1:Int))=false:=bV
 have g3:decide ((xs.length:Int)<(2:Int))=false:=bV
 have g4:(0:Int)<(xs.length:Int):=ag
 have hfd:∀(q:Int) (W:World),(Instr.field 39 (fX q) 0).run Tryz.prog W= .ok (.int .i64 q) W:= λ q W=>aO
 clear h hP hC ho
 go_enter Tryz.func126,Tryz.ntmps126
 go_wp2_with first
  |((with_reducible refine(HP.O _ ei.O).mono ?_);rintro e w2 ⟨p,k,rfl,ax,aC⟩)
  |fail
 obtain⟨g,rfl⟩:∃g,p=some ⟨g,0,none⟩:=by
  rcases ay ax with⟨_,h,_⟩|⟨g,_,rfl,_⟩
  ·omega
  ·exact⟨g,rfl⟩
 have HR:=af ax
 have bR:=af (ei.O.T (aC.mono ei.O.size))
 clear ax aC
 go_loopw [5,51] (λ cv iv wr=>∃j:Nat,j<=xs.length/\iv= .int .i64 (j:Int)/\cv= .int .i64 (sq (xs.take j):Nat)/\Hid (Below w2 w2 wr)) (λ _ iv _=>xs.length - (intOf iv).toNat)
 case atStart=>exact⟨0,Nat.zero_le _,rfl,by simp[sq],af (dp)⟩
 case round=>
  obtain⟨j,hj,rfl,rfl,hB⟩:=hrel
  by_cases bg:j<xs.length
  ·obtain⟨x,hx⟩:∃x,xs[j]? =some x:=⟨xs[j],by simp[bg]⟩
   have BW:=HO.O.key x (List.mem_of_getElem? hx)
   have bq:wr.cell? ⟨g,j,none⟩=some (jW x):=carry hB.O (fh HR.O j _ (by simp[hx]))
   have qp:=Ku xs j x hx
   have su:sq (xs.take j)<=700000:=by
    have h1:=Ca (xs.take j) (λ y hy=>by have:=(HO.O.key y (List.mem_of_mem_take hy)).2.2.2.2.2;omega)
    rw[List.length_take]at h1
    omega
   have nh:Below w w wr:=bR.O.T (hB.O.mono bR.O.size)
   have k1:decide ((x.key.length:Int)<1)=false:=bV
   have k2:decide ((120:Int)<(x.key.length:Int))=false:=bV
   have fG:Hid (((sq (xs.take j):Nat):Int)+(x.count:Int)=((sq (xs.take (j+1)):Nat):Int)):=af (by rw[qp];simp)
   have hsi:((sq (xs.take j):Nat):Int)<=700000:=ag
   obtain⟨S,hS⟩:∃S:Int,S=((sq (xs.take j):Nat):Int):=⟨_,rfl⟩
   rw[<-hS]at hsi fG⊢
   have hS0:(0:Int)<=S:=ag
   have HX:=af hx
   have Rt:=af BW
   have Gy:=af nh
   have gy:(j:Int)<(xs.length:Int):=ag
   have rj:(j:Int)<=6:=ag
   unfold jW aw.v at bq
   have k3:(x.count:Int)<=100000:=ag
   clear hx BW qp su hS nh
   by_cases Ns:j=0
   ·subst Ns
    go_wp2_with first
     |((with_reducible refine(ui _ _ _ _ _ _).mono ?_);rintro e wn ⟨rfl,kt⟩;replace hB:=af (hB.O.T (kt.mono hB.O.size));clear kt)
     |((with_reducible refine(DO _ _ _ _ _ Rt.O.2.2.1 Rt.O.2.2.2.1 Rt.O.2.2.2.2.1 ag _).mono ?_);rintro e wn ⟨rfl,kt⟩;replace hB:=af (hB.O.T (kt.mono hB.O.size));clear kt)
     |((with_reducible refine(xz _ _ _ _ _ _).mono ?_);rintro e wn ⟨rfl,kt⟩;replace hB:=af (hB.O.T (kt.mono hB.O.size));clear kt)
     |fail
    exact⟨⟨1,ag,by simp,fG.O▸rfl,hB⟩,by simp[intOf]<;>omega⟩
   ·obtain⟨i,rfl⟩:∃i,j=i+1:=⟨j - 1,ag⟩
    obtain⟨y,hy⟩:∃y,xs[i]? =some y:=⟨xs[i],by simp⟩
    have gB:wr.cell? ⟨g,i,none⟩=some (jW y):=carry hB.O (fh HR.O i _ (by simp[hy]))
    have I4:=af (HC.O i y x hy HX.O)
    unfold jW aw.v at gB
    have ou:(0:Int)<((i:Int)+1):=ag
    have vf:(i:Int)<(xs.length:Int):=ag
    clear hy Ns
    go_wp2_with first
     |((with_reducible refine(ui _ _ _ _ _ _).mono ?_);rintro e wn ⟨rfl,kt⟩;replace hB:=af (hB.O.T (kt.mono hB.O.size));replace gB:=carry kt gB;clear kt)
     |((with_reducible refine(DO _ _ _ _ _ Rt.O.2.2.1 Rt.O.2.2.2.1 Rt.O.2.2.2.2.1 ag _).mono ?_);rintro e wn ⟨rfl,kt⟩;replace hB:=af (hB.O.T (kt.mono hB.O.size));replace gB:=carry kt gB;clear kt)
     |((with_reducible refine(xz _ _ _ _ _ _).mono ?_);rintro e wn ⟨rfl,kt⟩;replace hB:=af (hB.O.T (kt.mono hB.O.size));replace gB:=carry kt gB;clear kt)
     |((with_reducible refine(I4.O _ (bR.O.T (hB.O.mono bR.O.size))).mono ?_);rintro e wn ⟨rfl,rfl⟩)
     |fail
    exact⟨⟨i+1+1,ag,by simp,fG.O▸rfl,hB⟩,by simp[intOf]<;>omega⟩
  ·obtain rfl:j=xs.length:=ag
   go_wp2_with fail
   go_ret
   exact⟨rfl,bR.O.T (hB.O.mono bR.O.size)⟩
section
attribute [-go_sem] Builtin.append_
structure bO(n₀:Nat)(w w':World)(v v':Value):Prop where
 below:Below n₀ w w'
 bT:∀j,j<w.heap.size->v.ownBlock≠some j->w'.heap[j]? =w.heap[j]?
 at_:v'.ownBlock=v.ownBlock\/∃g,v'.ownBlock=some g/\w.heap.size<=g
theorem bO.refl(n₀:Nat)(w:World)(v:Value):bO n₀ w w v v:=⟨dp, λ _ _ _=>rfl,.inl rfl⟩
theorem bO.T{n₀:Nat}{a b c:World}{u v x:Value}(h:bO n₀ a b u v)(k:bO n₀ b c v x):bO n₀ a c u x where
 below:=h.below.T k.below
 bT:= λ j hj hv=>by
  refine(k.bT j (Nat.lt_of_lt_of_le hj h.below.size) λ e=>?_).T (h.bT j hj hv)
  rcases h.at_ with h1|⟨g,h1,h2⟩
  ·exact hv (h1▸e)
  ·rw[h1]at e;cases e;omega
 at_:=by
  rcases k.at_ with k1|⟨g,k1,k2⟩
  ·rw[k1];exact h.at_
  ·exact .inr ⟨g,k1,Nat.le_trans h.below.size k2⟩
theorem bO.aA(h:Below w w w')(hn:n₀<=w.heap.size)(v:Value):bO n₀ w w' v v:=⟨h.mono hn, λ j hj _=>h.block j hj,.inl rfl⟩
theorem bO.row(h:Below w w w'){e:Nat}{xs:List Value}(hr:w.ownsRow n₀ e sz (.slice a k c) k xs):w'.ownsRow n₀ e sz (.slice a k c) k xs:=
 dx hr λ g hg=>by
  rcases ay hr with⟨h1,_⟩|⟨g2,cur,h1,hb,eU⟩
  ·rw[hg]at h1;cases h1
  ·rw[hg]at h1;cases h1
   exact h.block _ (aX eU).1
theorem bO.cell(h:bO n₀ w w' v v'){p:Addr}(hc:w.cell? p=some x)(hv:v.ownBlock≠some p.block):w'.cell? p=some x:=
 (World.cell?_of_block (w:=w) (h.bT p.block (World.block_lt_of_cell? w _ hc) hv)).T hc
theorem cN(x:Nat)(X:Int)(hX:X=(x:Int))(ax:W.ownsRow n₀ 5 1 (.slice a k c) k (aB bs))(hk:k<100000)(hn:n₀<=W.heap.size):
 ∃g' c' w',(Builtin.append_ #[34,34] 34 (jF a k c (zp W) 1 1)).run Tryz.prog (W.alloc (.cells #[.int .u8 X] 5))= .ok (.slice (zp g') (k+1) c') w'/\
  w'.ownsRow n₀ 5 1 (.slice (zp g') (k+1) c') (k+1) (aB (bs++[x]))/\bO n₀ W w' (.slice a k c) (.slice (zp g') (k+1) c'):=by
 subst hX
 obtain⟨g',c',w',bt,dN,hb,hg,XO,ot⟩:=fM (P:=Tryz.prog) 34 5 (.int .u8 0) 1 1 aO Tryz.nu rfl bd (J3 x) rfl (by simp[Value.oneCell']) ax ag ag hn
 exact⟨g',c',w',bt,by simpa[aB]using dN,hb, λ j hj hv=>XO.block j hj (λ e=>hv e.symm),ot.elim (λ h=>.inl h.symm) (λ h=>.inr ⟨g',rfl,h⟩)⟩
theorem sx{m:Nat}(ax:W.ownsRow n₀ 5 1 (.slice a k c) k (aB bs))(hs:ai W (some ⟨B,o,none⟩) ys)(hm:ys.length=m)(h1:1<=m)(hk:k+m<1000000)(hn:n₀<=W.heap.size):
 ∃g' c' w',(Builtin.append_ #[34,34] 34 (jF a k c (some ⟨B,o,none⟩) m cc)).run Tryz.prog W= .ok (.slice (zp g') (k+m) c') w'/\
  w'.ownsRow n₀ 5 1 (.slice (zp g') (k+m) c') (k+m) (aB (bs++ys))/\bO n₀ W w' (.slice a k c) (.slice (zp g') (k+m) c'):=by
 obtain⟨i0,hi,gQ,fq,mx⟩:=info_parts Tryz.nu
 obtain⟨v',w1,bt,cY,eB, -,ot⟩:=run_append_own_at (P:=Tryz.prog) W n₀ 34 34 5 i0 (.int .u8 0) 1 1 aO hi gQ fq mx rfl bd _ _ (aB bs) ax
  ⟨B,o,none⟩ m cc (aB ys) (by simp[aB,hm]) (λ j u hj=>by
    obtain⟨y,hy,rfl⟩:∃y,ys[j]? =some y/\Value.int .u8 (y:Int)=u:=by simpa[aB]using hj
    rw[kP]
    rcases hs.2 with h0|⟨B',o',h3,h4⟩
    ·rw[h0]at hy;cases hy
    ·cases h3;exact h4 j y hy)
  (λ u hu=>by obtain⟨y,_,rfl⟩:=List.mem_map.1 hu;rfl) (by simp[maxLen];omega) ag hn
 obtain⟨q,hq⟩:∃q,k+m=q+1:=⟨k+m - 1,ag⟩
 rw[hq]at cY
 obtain⟨g',k',rfl⟩:=ownsRow_succ cY
 rw[<-hq]at cY bt
 refine⟨g',k',w1,bt,by simpa[aB]using cY,?_, λ j hj hv=>eB.block j hj (λ e=>hv e.symm),?_⟩
 ·refine(Below.refl n₀ W).grown eB hn λ j ej=>?_
  rcases ay ax with⟨rfl,_⟩|⟨g,cur,rfl,hb,_⟩
  ·simp[Value.ownBlock]at ej
  ·obtain rfl:g=j:=by simpa[Value.ownBlock]using ej
   exact hb
 ·rcases ot with h|h
  ·exact .inl h
  ·exact .inr ⟨_,h,aW⟩
theorem DS(ax:w.ownsRow n₀ 5 1 (.slice a k c) k (aB bs))(hs:ai w0 (some ⟨B,o,none⟩) ys)(iL:Below n₀ w0 w)(nh:w0.heap.size=n₀)(h1:1<=ys.length)(h2:ys.length<=255)(hk:k<=50000)(hn:n₀<=w.heap.size):
 Calls Tryz.prog 274 (jF a k c (some ⟨B,o,none⟩) ys.length cc) w λ e w'=>∃g' c',e= .returned (.slice (zp g') (k+1+ys.length) c')/\
  w'.ownsRow n₀ 5 1 (.slice (zp g') (k+1+ys.length) c') (k+1+ys.length) (aB (bs++ys.length::ys))/\bO n₀ w w' (.slice a k c) (.slice (zp g') (k+1+ys.length) c'):=by
 obtain⟨g1,c1,w1,adh,rh,Ac⟩:=cN ys.length ((ys.length:Nat):Int) rfl ax ag hn
 subst nh
 have dm:ai w1 (some ⟨B,o,none⟩) ys:=hs.below (iL.T Ac.below)
 obtain⟨g2,c2,w2,M6,mz,eU⟩:=sx (cc:=cc) rh dm rfl h1 ag (Nat.le_trans hn Ac.below.size)
 have dM:=cj (show w2.ownsRow w0 5 1 (.slice (zp g2) (k+1+ys.length) c2) (k+1+ys.length) (aB (bs++ys.length::ys))by simpa using mz) (Ac.T eU)
 have h3:(ys.length:Int)<=255:=ag
 clear ax hs iL rh Ac dm mz eU h2
 go_enter Tryz.func274,Tryz.ntmps274
 go_wp2_with fail
 go_ret
 exact⟨g2,c2,rfl,dM.O⟩
def dL:Nat->Nat->List Nat
 |0,_=>[]
 |i+1,n=>(n/256^i%256)::dL i n
theorem nE:∀(i n:Nat),(dL i n).length=i
 |0,_=>rfl
 |i+1,n=>by simp[dL,nE i]
def mi(W:World)(R:Nat)(vs:List Nat):Prop:=∀(j v:Nat),vs[j]? =some v->W.cell? ⟨R,j,none⟩=some (.int .u64 (v:Int))
def nj(wd:Nat)(vs:List Nat):List Nat:=vs.flatMap (dL wd)
theorem sC(wd:Nat):∀(vs:List Nat),(nj wd vs).length=wd*vs.length
 |[]=>by simp[nj]
 |v::vs=>by
  have:=sC wd vs
  simp only[nj,List.flatMap_cons,List.length_append,nE,List.length_cons]at*
  rw[this,Nat.mul_succ];omega
theorem Nt(wd:Nat)(vs:List Nat)(j v:Nat)(h:vs[j]? =some v):nj wd (vs.take (j+1))=nj wd (vs.take j)++dL wd v:=by
 rw[List.take_add_one,h];simp[nj]
theorem DT(wd:Nat)(Cb:wd<=8)(ax:w.ownsRow n₀ 5 1 (.slice a k c) k (aB bs))(hv:mi w R vs)(hR:(Value.slice a k c).ownBlock≠some R)(hl:vs.length<=8)(hk:k<=50000)(hn:n₀<=w.heap.size):
 Calls Tryz.prog 275 #[.slice a k c,.int .i64 (wd:Int),.slice (zp R) vs.length cc] w λ e w'=>∃a' c',e= .returned (.slice a' (k+wd*vs.length) c')/\
  w'.ownsRow n₀ 5 1 (.slice a' (k+wd*vs.length) c') (k+wd*vs.length) (aB (bs++nj wd vs))/\bO n₀ w w' (.slice a k c) (.slice a' (k+wd*vs.length) c'):=by
 have HR:=af ax
 have HV:=af hv
 have HN:=af hn
 have HRB:=af hR
 clear ax hv hn hR
 go_enter Tryz.func275,Tryz.ntmps275
 go_wp2_with fail
 go_loopw [0,12] (λ rv iv wr=>∃j:Nat,j<=vs.length/\iv= .int .i64 (j:Int)/\∃a' c',rv= .slice a' (k+wd*j) c'/\Hid (wr.ownsRow n₀ 5 1 (.slice a' (k+wd*j) c') (k+wd*j) (aB (bs++nj wd (vs.take j))))/\Hid (bO n₀ w wr (.slice a k c) (.slice a' (k+wd*j) c'))) (λ _ iv _=>vs.length - (intOf iv).toNat)
 case atStart=>exact⟨0,Nat.zero_le _,rfl,a,c,by simp,af (by simpa[nj]using HR.O),af (by simpa using bO.refl n₀ w (.slice a k c))⟩
 case round=>
  obtain⟨j,hj,rfl,a',c',rfl,hr,hg⟩:=hrel
  by_cases bg:j<vs.length
  ·obtain⟨v,hx⟩:∃v,vs[j]? =some v:=⟨vs[j],by simp[bg]⟩
   have bq:wr.cell? ⟨R,j,none⟩=some (.int .u64 (v:Int)):=hg.O.cell (p:=⟨R,j,none⟩) (HV.O j v hx) HRB.O
   have Zq:=af (Nt wd vs j v hx)
   have gy:(j:Int)<(vs.length:Int):=ag
   have hwi:(wd:Int)<=8:=ag
   have Dy:k+wd*j<=60000:=aM (Nat.mul_le_mul Cb (show j<=8 by omega))
   obtain⟨K,hK⟩:=aK (k+wd*j)
   rw[<-hK]at hr hg Dy⊢
   have HK:=af hK
   clear hx hK
   go_wp2_with fail
   go_loopw [0,9] (λ rv bv Zc=>∃(i:Nat) (pre:List Nat),i<=wd/\bv= .int .i64 (8*(i:Int) - 8)/\Hid (pre++dL i v=dL wd v)/\pre.length+i=wd/\∃a2 c2,rv= .slice a2 (K+pre.length) c2/\Hid (Zc.ownsRow n₀ 5 1 (.slice a2 (K+pre.length) c2) (K+pre.length) (aB (bs++nj wd (vs.take j)++pre)))/\Hid (bO n₀ w Zc (.slice a k c) (.slice a2 (K+pre.length) c2))) (λ _ bv _=>(intOf bv+8).toNat)
   case atStart=>exact⟨wd,[],aW,by congr 1;omega,af rfl,by simp,a',c',by simp,af (by simpa using hr.O),af (by simpa using hg.O)⟩
   case round=>
    obtain⟨i,pre,hi,rfl,gj,wH,a2,c2,rfl,mz,eU⟩:=hrel
    by_cases ou:i=0
    ·subst ou
     have Ad:decide ((0:Int)<=8*((0:Nat):Int) - 8)=false:=by decide
     have cu:=af (show Hid (wr.ownsRow n₀ 5 1 (.slice a2 (k+wd*(j+1)) c2) (k+wd*(j+1)) (aB (bs++nj wd (vs.take (j+1)))))/\Hid (bO n₀ w wr (.slice a k c) (.slice a2 (k+wd*(j+1)) c2))/\K+pre.length=k+wd*(j+1)by
      have e1:pre=dL wd v:=by have:=gj.O;simpa[dL]using this
      have e2:K+pre.length=k+wd*(j+1):=by rw[HK.O,Nat.mul_succ];omega
      rw[<-e2]
      refine⟨af ?_,eU,rfl⟩
      rw[Zq.O,<-e1,<-List.append_assoc]
      exact mz.O)
     go_wp2_with fail
     exact⟨⟨j+1,ag,by simp,a2,c2,by rw[cu.O.2.2],cu.O.1,cu.O.2.1⟩,by simp[intOf];omega⟩
    ·have hi8:i=1\/i=2\/i=3\/i=4\/i=5\/i=6\/i=7\/i=8:=ag
     rcases hi8 with rfl|rfl|rfl|rfl|rfl|rfl|rfl|rfl
     ·obtain⟨g3,c3,w3,bt,kO,oC⟩:=cN (v%256) ((v:Int)%256) ag mz.O ag (Nat.le_trans HN.O eU.O.below.size)
      have dM:=cj (show w3.ownsRow n₀ 5 1 (.slice (zp g3) (K+(pre++[v%256]).length) c3) (K+(pre++[v%256]).length) (aB (bs++nj wd (vs.take j)++(pre++[v%256])))by simpa[Nat.add_assoc]using kO) (show bO n₀ w w3 (.slice a k c) (.slice (zp g3) (K+(pre++[v%256]).length) c3)by simpa[Nat.add_assoc]using eU.O.T oC)
      have rk:=af (show(pre++[v%256])++dL 0 v=dL wd v by rw[<-gj.O];simp[dL])
      clear kO oC
      go_wp2_with fail
      exact⟨⟨0,pre++[v%256],ag,by simp,rk,by simp;omega,_,_,by simp[Nat.add_assoc],af dM.O.1,af dM.O.2⟩,by simp[intOf]⟩
     ·obtain⟨g3,c3,w3,bt,kO,oC⟩:=cN (v/256%256) ((v:Int)/256%256) ag mz.O ag (Nat.le_trans HN.O eU.O.below.size)
      have dM:=cj (show w3.ownsRow n₀ 5 1 (.slice (zp g3) (K+(pre++[v/256%256]).length) c3) (K+(pre++[v/256%256]).length) (aB (bs++nj wd (vs.take j)++(pre++[v/256%256])))by simpa[Nat.add_assoc]using kO) (show bO n₀ w w3 (.slice a k c) (.slice (zp g3) (K+(pre++[v/256%256]).length) c3)by simpa[Nat.add_assoc]using eU.O.T oC)
      have rk:=af (show(pre++[v/256%256])++dL 1 v=dL wd v by rw[<-gj.O];simp[dL])
      clear kO oC
      go_wp2_with fail
      exact⟨⟨1,pre++[v/256%256],ag,by simp,rk,by simp;omega,_,_,by simp[Nat.add_assoc],af dM.O.1,af dM.O.2⟩,by simp[intOf]⟩
     ·obtain⟨g3,c3,w3,bt,kO,oC⟩:=cN (v/65536%256) ((v:Int)/65536%256) ag mz.O ag (Nat.le_trans HN.O eU.O.below.size)
      have dM:=cj (show w3.ownsRow n₀ 5 1 (.slice (zp g3) (K+(pre++[v/65536%256]).length) c3) (K+(pre++[v/65536%256]).length) (aB (bs++nj wd (vs.take j)++(pre++[v/65536%256])))by simpa[Nat.add_assoc]using kO) (show bO n₀ w w3 (.slice a k c) (.slice (zp g3) (K+(pre++[v/65536%256]).length) c3)by simpa[Nat.add_assoc]using eU.O.T oC)
      have rk:=af (show(pre++[v/65536%256])++dL 2 v=dL wd v by rw[<-gj.O];simp[dL])
      clear kO oC
      go_wp2_with fail
      exact⟨⟨2,pre++[v/65536%256],ag,by simp,rk,by simp;omega,_,_,by simp[Nat.add_assoc],af dM.O.1,af dM.O.2⟩,by simp[intOf]⟩
     ·obtain⟨g3,c3,w3,bt,kO,oC⟩:=cN (v/16777216%256) ((v:Int)/16777216%256) ag mz.O ag (Nat.le_trans HN.O eU.O.below.size)
      have dM:=cj (show w3.ownsRow n₀ 5 1 (.slice (zp g3) (K+(pre++[v/16777216%256]).length) c3) (K+(pre++[v/16777216%256]).length) (aB (bs++nj wd (vs.take j)++(pre++[v/16777216%256])))by simpa[Nat.add_assoc]using kO) (show bO n₀ w w3 (.slice a k c) (.slice (zp g3) (K+(pre++[v/16777216%256]).length) c3)by simpa[Nat.add_assoc]using eU.O.T oC)
      have rk:=af (show(pre++[v/16777216%256])++dL 3 v=dL wd v by rw[<-gj.O];simp[dL])
      clear kO oC
      go_wp2_with fail
      exact⟨⟨3,pre++[v/16777216%256],ag,by simp,rk,by simp;omega,_,_,by simp[Nat.add_assoc],af dM.O.1,af dM.O.2⟩,by simp[intOf]⟩
     ·obtain⟨g3,c3,w3,bt,kO,oC⟩:=cN (v/4294967296%256) ((v:Int)/4294967296%256) ag mz.O ag (Nat.le_trans HN.O eU.O.below.size)
      have dM:=cj (show w3.ownsRow n₀ 5 1 (.slice (zp g3) (K+(pre++[v/4294967296%256]).length) c3) (K+(pre++[v/4294967296%256]).length) (aB (bs++nj wd (vs.take j)++(pre++[v/4294967296%256])))by simpa[Nat.add_assoc]using kO) (show bO n₀ w w3 (.slice a k c) (.slice (zp g3) (K+(pre++[v/4294967296%256]).length) c3)by simpa[Nat.add_assoc]using eU.O.T oC)
      have rk:=af (show(pre++[v/4294967296%256])++dL 4 v=dL wd v by rw[<-gj.O];simp[dL])
      clear kO oC
      go_wp2_with fail
      exact⟨⟨4,pre++[v/4294967296%256],ag,by simp,rk,by simp;omega,_,_,by simp[Nat.add_assoc],af dM.O.1,af dM.O.2⟩,by simp[intOf]⟩
     ·obtain⟨g3,c3,w3,bt,kO,oC⟩:=cN (v/1099511627776%256) ((v:Int)/1099511627776%256) ag mz.O ag (Nat.le_trans HN.O eU.O.below.size)
      have dM:=cj (show w3.ownsRow n₀ 5 1 (.slice (zp g3) (K+(pre++[v/1099511627776%256]).length) c3) (K+(pre++[v/1099511627776%256]).length) (aB (bs++nj wd (vs.take j)++(pre++[v/1099511627776%256])))by simpa[Nat.add_assoc]using kO) (show bO n₀ w w3 (.slice a k c) (.slice (zp g3) (K+(pre++[v/1099511627776%256]).length) c3)by simpa[Nat.add_assoc]using eU.O.T oC)
      have rk:=af (show(pre++[v/1099511627776%256])++dL 5 v=dL wd v by rw[<-gj.O];simp[dL])
      clear kO oC
      go_wp2_with fail
      exact⟨⟨5,pre++[v/1099511627776%256],ag,by simp,rk,by simp;omega,_,_,by simp[Nat.add_assoc],af dM.O.1,af dM.O.2⟩,by simp[intOf]⟩
     ·obtain⟨g3,c3,w3,bt,kO,oC⟩:=cN (v/281474976710656%256) ((v:Int)/281474976710656%256) ag mz.O ag (Nat.le_trans HN.O eU.O.below.size)
      have dM:=cj (show w3.ownsRow n₀ 5 1 (.slice (zp g3) (K+(pre++[v/281474976710656%256]).length) c3) (K+(pre++[v/281474976710656%256]).length) (aB (bs++nj wd (vs.take j)++(pre++[v/281474976710656%256])))by simpa[Nat.add_assoc]using kO) (show bO n₀ w w3 (.slice a k c) (.slice (zp g3) (K+(pre++[v/281474976710656%256]).length) c3)by simpa[Nat.add_assoc]using eU.O.T oC)
      have rk:=af (show(pre++[v/281474976710656%256])++dL 6 v=dL wd v by rw[<-gj.O];simp[dL])
      clear kO oC
      go_wp2_with fail
      exact⟨⟨6,pre++[v/281474976710656%256],ag,by simp,rk,by simp;omega,_,_,by simp[Nat.add_assoc],af dM.O.1,af dM.O.2⟩,by simp[intOf]⟩
     ·obtain⟨g3,c3,w3,bt,kO,oC⟩:=cN (v/72057594037927936%256) ((v:Int)/72057594037927936%256) ag mz.O ag (Nat.le_trans HN.O eU.O.below.size)
      have dM:=cj (show w3.ownsRow n₀ 5 1 (.slice (zp g3) (K+(pre++[v/72057594037927936%256]).length) c3) (K+(pre++[v/72057594037927936%256]).length) (aB (bs++nj wd (vs.take j)++(pre++[v/72057594037927936%256])))by simpa[Nat.add_assoc]using kO) (show bO n₀ w w3 (.slice a k c) (.slice (zp g3) (K+(pre++[v/72057594037927936%256]).length) c3)by simpa[Nat.add_assoc]using eU.O.T oC)
      have rk:=af (show(pre++[v/72057594037927936%256])++dL 7 v=dL wd v by rw[<-gj.O];simp[dL])
      clear kO oC
      go_wp2_with fail
      exact⟨⟨7,pre++[v/72057594037927936%256],ag,by simp,rk,by simp;omega,_,_,by simp[Nat.add_assoc],af dM.O.1,af dM.O.2⟩,by simp[intOf]⟩
  ·obtain rfl:j=vs.length:=ag
   rw[List.take_length]at hr
   go_wp2_with fail
   go_ret
   exact⟨a',c',rfl,hr.O,hg.O⟩
theorem gU(W:World)(vs:List Nat):mi (W.alloc (.cells (vs.map λ v:Nat=>Value.int .u64 (v:Int)).toArray 22)) W.heap.size vs:= λ j v h=>by
 rw[World.cell?_alloc_new];simp[h]
theorem xB(h:mi W R vs)(hb:Below W W W'):mi W' R vs:= λ j v hj=>carry hb (h j v hj)
theorem gV{xs:List Value}(h:W.ownsRow n₀ e sz (.slice a k c) k xs)(R:Nat)(hR:W.heap.size<=R):(Value.slice a k c).ownBlock≠some R:=by
 rcases ay h with⟨rfl,_⟩|⟨g,cur,rfl,_,hg⟩
 ·simp[Value.ownBlock]
 ·have:=(aX hg).1
  simp[Value.ownBlock];omega
structure eO(n₀:Nat)(w:World)(v0:Value)(W:World)(a:Option Addr)(k c:Nat)(bs:List Nat):Prop where
 row:W.ownsRow n₀ 5 1 (.slice a k c) k (aB bs)
 mj:bO n₀ w W v0 (.slice a k c)
theorem eO.below(h:eO n₀ w v0 W a k c bs)(hn:n₀<=w.heap.size)(hb:Below W W W'):eO n₀ w v0 W' a k c bs:=
 ⟨bO.row (n₀:=n₀) hb h.row,h.mj.T (bO.aA hb (Nat.le_trans hn h.mj.below.size) _)⟩
theorem eO.cell{n₀:Nat}{w:World}{v0:Value}{W:World}{a:Option Addr}{k c:Nat}{bs:List Nat}(h:eO n₀ w v0 W a k c bs){p:Addr}{x:Value}(hc:w.cell? p=some x)(hv:v0.ownBlock≠some p.block):W.cell? p=some x:=h.mj.cell hc hv
theorem kd(h:eO n₀ w v0 W a k c bs)(hs:ai w0 (some ⟨B,o,none⟩) ys)(iL:Below n₀ w0 w)(nh:w0.heap.size=n₀)(h1:1<=ys.length)(h2:ys.length<=255)(hk:k<=50000)(hn:n₀<=w.heap.size):
 Calls Tryz.prog 274 (jF a k c (some ⟨B,o,none⟩) ys.length cc) W λ e w'=>∃g' c',e= .returned (.slice (zp g') (k+1+ys.length) c')/\eO n₀ w v0 w' (zp g') (k+1+ys.length) c' (bs++ys.length::ys)/\bO n₀ W w' (.slice a k c) (.slice (zp g') (k+1+ys.length) c'):=by
 refine(DS (cc:=cc) h.row hs (iL.T h.mj.below) nh h1 h2 hk (Nat.le_trans hn h.mj.below.size)).mono ?_
 rintro e w' ⟨g',c',rfl,hr,hg⟩
 exact⟨g',c',rfl,⟨hr,h.mj.T hg⟩,hg⟩
theorem dG(wd:Nat)(h:eO n₀ w v0 W a k c bs)(hb:Below W W W')(hv:mi W' R vs)(hR:(Value.slice a k c).ownBlock≠some R)(Cb:wd<=8)(hl:vs.length<=8)(hk:k<=50000)(hn:n₀<=w.heap.size):
 Calls Tryz.prog 275 #[.slice a k c,.int .i64 (wd:Int),.slice (zp R) vs.length cc] W' λ e w'=>∃a' c',e= .returned (.slice a' (k+wd*vs.length) c')/\eO n₀ w v0 w' a' (k+wd*vs.length) c' (bs++nj wd vs)/\bO n₀ W' w' (.slice a k c) (.slice a' (k+wd*vs.length) c'):=by
 have h':=h.below hn hb
 refine(DT (cc:=cc) wd Cb h'.row hv hR hl hk (Nat.le_trans hn h'.mj.below.size)).mono ?_
 rintro e w' ⟨a',c',rfl,hr,hg⟩
 exact⟨a',c',rfl,⟨hr,h'.mj.T hg⟩,hg⟩
theorem AL(W:World)(o:Obj)(vs:List Nat):mi ((W.alloc o).alloc (.cells (vs.map λ v:Nat=>Value.int .u64 (v:Int)).toArray 22)) (W.heap.size+1) vs:=by
 have:=gU (W.alloc o) vs
 rwa [World.size_alloc]at this
theorem uj(h:mi w R vs)(hg:bO n₀ w w' v v')(hv:v.ownBlock≠some R):mi w' R vs:= λ j x hj=>hg.cell (p:=⟨R,j,none⟩) (h j x hj) hv
theorem Cc(hg:bO n₀ w w' v v')(hv:v.ownBlock≠some R)(hR:R<w.heap.size):v'.ownBlock≠some R:=by
 rcases hg.at_ with h|⟨g,h,h2⟩
 ·rw[h];exact hv
 ·rw[h];intro e;cases e;omega
def fi(x:an):List Nat:=(x.key.length::x.key)++(x.val.length::x.val)++nj 1 [0]++nj 8 [0]
theorem Nu(x:an)(ax:w.ownsRow n₀ 5 1 (.slice a k c) k (aB bs))(bB:ai w0 x.ka x.key)(ek:ai w0 x.va x.val)(iL:Below n₀ w0 w)(nh:w0.heap.size=n₀)
 (h1:1<=x.key.length)(h2:x.key.length<=120)(h3:1<=x.val.length)(h4:x.val.length<=100)(hk:k<=20000)(hn:n₀<=w.heap.size):
 Calls Tryz.prog 270 #[x.v,.slice a k c] w λ e w'=>∃a' c',e= .returned (.slice a' (k+(fi x).length) c')/\
  w'.ownsRow n₀ 5 1 (.slice a' (k+(fi x).length) c') (k+(fi x).length) (aB (bs++fi x))/\bO n₀ w w' (.slice a k c) (.slice a' (k+(fi x).length) c'):=by
 obtain⟨B1,o1,e1⟩:∃B o,x.ka=some ⟨B,o,none⟩:=by
  rcases bB.2 with h|⟨B,o,h,_⟩
  ·rw[h]at h1;simp at h1
  ·exact⟨B,o,h⟩
 obtain⟨B2,o2,e2⟩:∃B o,x.va=some ⟨B,o,none⟩:=by
  rcases ek.2 with h|⟨B,o,h,_⟩
  ·rw[h]at h3;simp at h3
  ·exact⟨B,o,h⟩
 obtain⟨ka,key,kc,va,val,vc⟩:=x
 simp only at e1 e2 h1 h2 h3 h4 bB ek
 subst e1 e2
 obtain⟨wA,Ql⟩:=aK (w.alloc (.cells (dv (some ⟨B1,o1,none⟩) key.length kc (some ⟨B2,o2,none⟩) val.length vc) 314))
 have zC:Below w w wA:=by rw[Ql];exact(Below.refl _ w).alloc (aW) _
 have I7:n₀<=wA.heap.size:=Nat.le_trans hn zC.size
 have bS:(Value.slice a k c).ownBlock≠some w.heap.size:=gV ax _ (aW)
 have hz:wA.heap[w.heap.size]? =some (.cells (dv (some ⟨B1,o1,none⟩) key.length kc (some ⟨B2,o2,none⟩) val.length vc) 314):=by rw[Ql];exact World.alloc_heap_new w _
 have c0:wA.cell? (za w 0)=some (.slice (some ⟨B1,o1,none⟩) key.length kc):=by rw[aa hz];rfl
 have c1:wA.cell? (za w 1)=some (.slice (some ⟨B2,o2,none⟩) val.length vc):=by rw[aa hz];rfl
 have c2:wA.cell? (za w 2)=some (.bool false):=by rw[aa hz];rfl
 have c3:wA.cell? (za w 3)=some (.int .i64 0):=by rw[aa hz];rfl
 have hL:eO n₀ wA (.slice a k c) wA a k c bs:=⟨bO.row (n₀:=n₀) zC ax,bO.refl _ _ _⟩
 have HB:Hid (Below n₀ w0 wA):=af (iL.T (zC.mono hn))
 have AM:=af bB
 have Qm:=af ek
 have XV:=af (bO.aA zC hn (.slice a k c))
 clear ax hz bB ek iL
 unfold an.v
 go_enter Tryz.func270,Tryz.ntmps270
 go_wp2_with fail
 rw[<-Ql]
 clear Ql
 refine eL 7 (λ w'=>w'.cell? (za w 0)=some (.slice (some ⟨B1,o1,none⟩) key.length kc)/\w'.cell? (za w 1)=some (.slice (some ⟨B2,o2,none⟩) val.length vc)) aO ⟨c0,c1⟩ (λ hS=>?_)
 refine tT 0 hS ?_
 refine tT 1 hS ?_
 refine tT 2 hS ?_
 refine tT 4 hS ?_
 refine tT 5 hS ?_
 refine sT 3 λ K hK=>?_
 go_simp
 refine(kd (hL.below I7 (dp).drew) AM.O HB.O nh h1 ag ag I7).mono ?_
 rintro e w4 ⟨g1,k1,rfl,sk, -⟩
 simp only[]
 refine bF hK ?_ (λ hS=>?_)
 ·exact⟨sk.cell c0 bS,sk.cell c1 bS⟩
 clear hK K
 refine sT 6 λ K hK=>?_
 go_simp
 refine(kd sk Qm.O HB.O nh h3 ag ag I7).mono ?_
 rintro e w5 ⟨g2,k2,rfl,Qi, -⟩
 simp only[]
 refine bF hK ?_ (λ hS=>?_)
 ·exact⟨Qi.cell c0 bS,Qi.cell c1 bS⟩
 clear hK K
 refine sT 7 λ K hK=>?_
 go_simp
 refine iM hK ?_
 clear hK K
 refine fC aO ?_ _
 have d2:=Qi.cell c2 bS
 have d3:=Qi.cell c3 bS
 go_wp2_with fail
 have zD:=Qi.row
 obtain⟨K2,hK2⟩:=aK (k+1+key.length+1+val.length)
 obtain⟨BS,hBS⟩:=aK (bs++key.length::key++val.length::val)
 have hK3:K2<=40000:=ag
 rw[<-hK2,<-hBS]at Qi
 rw[<-hK2]at zD⊢
 have HKB:=cj hK2 hBS
 clear hK2 hBS
 have nb:∀o,Below w5 w5 (w5.drew.alloc o):= λ o=>(Below.refl _ w5).drew.alloc (aW) o
 have Ru:∀o o',Below w5 w5 ((w5.drew.alloc o).alloc o'):= λ o o'=>((Below.refl _ w5).drew.alloc (aW) o).alloc aR o'
 have N1a:Hid (Calls Tryz.prog 275 (UD (zp g2) K2 k2 (zp w5) 1 1) (w5.drew.alloc (.cells nq 22)) (λ e w'=>∃a' c',e= .returned (.slice a' (K2+1) c')/\eO n₀ wA (.slice a k c) w' a' (K2+1) c' (BS++nj 1 [0])/\bO n₀ (w5.drew.alloc (.cells nq 22)) w' (Value.slice (zp g2) K2 k2) (.slice a' (K2+1) c'))):=af (dG (cc:=1) 1 Qi (nb _) (gU w5.drew [0]) (gV zD _ (aW)) ag aR ag I7)
 have N1c:Hid (Calls Tryz.prog 275 (UD (zp g2) K2 k2 (zp w5) 1 1) ((w5.drew.alloc (.cells nq 22)).alloc (.cells nq 22)) (λ e w'=>∃a' c',e= .returned (.slice a' (K2+1) c')/\eO n₀ wA (.slice a k c) w' a' (K2+1) c' (BS++nj 1 [0])/\bO n₀ ((w5.drew.alloc (.cells nq 22)).alloc (.cells nq 22)) w' (Value.slice (zp g2) K2 k2) (.slice a' (K2+1) c'))):=af (dG (cc:=1) 1 Qi (Ru _ _) (xB (gU w5.drew [0]) ((dp).alloc (aW) _)) (gV zD _ (aW)) ag aR ag I7)
 have N1b:Hid (Calls Tryz.prog 275 (UD (zp g2) K2 k2 (zp (w5.heap.size+1)) 1 1) ((w5.drew.alloc (.cells nq 22)).alloc (.cells nq 22)) (λ e w'=>∃a' c',e= .returned (.slice a' (K2+1) c')/\eO n₀ wA (.slice a k c) w' a' (K2+1) c' (BS++nj 1 [0])/\bO n₀ ((w5.drew.alloc (.cells nq 22)).alloc (.cells nq 22)) w' (Value.slice (zp g2) K2 k2) (.slice a' (K2+1) c'))):=af (dG (cc:=1) 1 Qi (Ru _ _) (AL w5.drew _ [0]) (gV zD _ (Nat.le_succ _)) ag aR ag I7)
 have NE0:Hid (mi ((w5.drew.alloc (.cells nq 22)).alloc (.cells nq 22)) w5.heap.size [0]):=af (xB (gU w5.drew [0]) ((dp).alloc (aW) _))
 have NE1:Hid (mi ((w5.drew.alloc (.cells nq 22)).alloc (.cells nq 22)) (w5.heap.size+1) [0]):=af (AL w5.drew _ [0])
 have NR0:=af (gV zD w5.heap.size (aW))
 have NR1:=af (gV zD (w5.heap.size+1) (Nat.le_succ _))
 have NS:Hid (((w5.drew.alloc (.cells nq 22)).alloc (.cells nq 22)).heap.size=w5.heap.size+1+1):=af aR
 clear zD
 have cu:=af (show k+(fi ⟨some ⟨B1,o1,none⟩,key,kc,some ⟨B2,o2,none⟩,val,vc⟩).length=K2+1+8/\bs++fi ⟨some ⟨B1,o1,none⟩,key,kc,some ⟨B2,o2,none⟩,val,vc⟩=BS++nj 1 [0]++nj 8 [0]from by
  rw[HKB.O.1,HKB.O.2]
  exact⟨by simp[fi,sC];omega,by simp[fi]⟩)
 refine eL 9 (λ w'=>w'.cell? (za w 3)=some (.int .i64 0)) aO d3 (λ hS=>?_)
 refine tT 0 hS ?_
 refine tT 1 hS ?_
 refine tT 4 hS ?_
 refine tT 5 hS ?_
 refine tT 6 hS ?_
 refine Gq 2 7 aO rfl rfl (λ K hK=>?_) (λ K hK=>?_)
 ·skip
  go_simp
  refine bF hK ?_ (λ hS=>?_)
  ·exact carry (w:=w5) (nb _) d3
  clear hK K
  refine Gq 3 7 aO rfl rfl (λ K hK=>?_) (λ K hK=>?_)
  ·skip
   go_simp
   refine N1a.O.mono ?_
   rintro e w6 ⟨a3,k3,rfl,mJ,TG⟩
   have N8:Hid (Calls Tryz.prog 275 #[.slice a3 (K2+1) k3,.int .i64 8,.slice (zp w6) 1 1] (w6.alloc (.cells nq 22)) (λ e w'=>∃a' c',e= .returned (.slice a' (K2+1+8) c')/\eO n₀ wA (.slice a k c) w' a' (K2+1+8) c' (BS++nj 1 [0]++nj 8 [0])/\bO n₀ (w6.alloc (.cells nq 22)) w' (Value.slice a3 (K2+1) k3) (.slice a' (K2+1+8) c'))):=af (dG (cc:=1) 8 mJ ((Below.refl _ w6).alloc (aW) _) (gU w6 [0]) (gV mJ.row _ (aW)) ag aR ag I7)
   simp only[]
   refine bF hK ?_ (λ hS=>?_)
   ·exact mJ.cell c3 bS
   clear hK K
   refine sT 7 λ K hK=>?_
   go_simp
   refine bF hK ?_ (λ hS=>?_)
   ·exact carry (w:=w6) ((Below.refl _ w6).alloc (aW) _) (mJ.cell c3 bS)
   clear hK K
   refine sT 8 λ K hK=>?_
   go_simp
   refine N8.O.mono ?_
   rintro e w7 ⟨a4,k4,rfl,DU,hG4⟩
   simp only[]
   refine bF hK ?_ (λ hS=>?_)
   ·exact DU.cell c3 bS
   clear hK K
   refine sT 9 λ K hK=>?_
   go_simp
   refine iM hK ?_
   clear hK K
   refine fC aO ?_ _
   go_wp2_with fail
   go_ret
   exact⟨a4,k4,by rw[cu.O.1];rfl,by rw[cu.O.1,cu.O.2];exact DU.row,by rw[cu.O.1];exact XV.O.T DU.mj⟩
  ·skip
   go_simp
   refine bF hK ?_ (λ hS=>?_)
   ·exact carry (w:=w5) (Ru _ _) d3
   clear hK K
   refine sT 3 λ K hK=>?_
   go_simp
   refine N1c.O.mono ?_
   rintro e w6 ⟨a3,k3,rfl,mJ,TG⟩
   have N8:Hid (Calls Tryz.prog 275 #[.slice a3 (K2+1) k3,.int .i64 8,.slice (zp (w5.heap.size+1)) 1 1] w6 (λ e w'=>∃a' c',e= .returned (.slice a' (K2+1+8) c')/\eO n₀ wA (.slice a k c) w' a' (K2+1+8) c' (BS++nj 1 [0]++nj 8 [0])/\bO n₀ (w6) w' (Value.slice a3 (K2+1) k3) (.slice a' (K2+1+8) c'))):=af (dG (cc:=1) 8 mJ (Below.refl _ w6) (uj NE1.O TG NR1.O) (Cc TG NR1.O (by rw[NS.O];omega)) ag aR ag I7)
   simp only[]
   refine bF hK ?_ (λ hS=>?_)
   ·exact mJ.cell c3 bS
   clear hK K
   refine sT 8 λ K hK=>?_
   go_simp
   refine N8.O.mono ?_
   rintro e w7 ⟨a4,k4,rfl,DU,hG4⟩
   simp only[]
   refine bF hK ?_ (λ hS=>?_)
   ·exact DU.cell c3 bS
   clear hK K
   refine sT 9 λ K hK=>?_
   go_simp
   refine iM hK ?_
   clear hK K
   refine fC aO ?_ _
   go_wp2_with fail
   go_ret
   exact⟨a4,k4,by rw[cu.O.1];rfl,by rw[cu.O.1,cu.O.2];exact DU.row,by rw[cu.O.1];exact XV.O.T DU.mj⟩
 ·skip
  go_simp
  refine bF hK ?_ (λ hS=>?_)
  ·exact carry (w:=w5) (nb _) d3
  clear hK K
  refine sT 2 λ K hK=>?_
  go_simp
  refine bF hK ?_ (λ hS=>?_)
  ·exact carry (w:=w5) (Ru _ _) d3
  clear hK K
  refine sT 3 λ K hK=>?_
  go_simp
  refine N1b.O.mono ?_
  rintro e w6 ⟨a3,k3,rfl,mJ,TG⟩
  have N8:Hid (Calls Tryz.prog 275 #[.slice a3 (K2+1) k3,.int .i64 8,.slice (zp w5) 1 1] w6 (λ e w'=>∃a' c',e= .returned (.slice a' (K2+1+8) c')/\eO n₀ wA (.slice a k c) w' a' (K2+1+8) c' (BS++nj 1 [0]++nj 8 [0])/\bO n₀ (w6) w' (Value.slice a3 (K2+1) k3) (.slice a' (K2+1+8) c'))):=af (dG (cc:=1) 8 mJ (Below.refl _ w6) (uj NE0.O TG NR0.O) (Cc TG NR0.O (by rw[NS.O];omega)) ag aR ag I7)
  simp only[]
  refine bF hK ?_ (λ hS=>?_)
  ·exact mJ.cell c3 bS
  clear hK K
  refine sT 8 λ K hK=>?_
  go_simp
  refine N8.O.mono ?_
  rintro e w7 ⟨a4,k4,rfl,DU,hG4⟩
  simp only[]
  refine bF hK ?_ (λ hS=>?_)
  ·exact DU.cell c3 bS
  clear hK K
  refine sT 9 λ K hK=>?_
  go_simp
  refine iM hK ?_
  clear hK K
  refine fC aO ?_ _
  go_wp2_with fail
  go_ret
  exact⟨a4,k4,by rw[cu.O.1];rfl,by rw[cu.O.1,cu.O.2];exact DU.row,by rw[cu.O.1];exact XV.O.T DU.mj⟩
def fw(x:aw):List Nat:=(x.key.length::x.key)++nj 4 [x.at_,x.count,0]++nj 8 [0,0,0,0]
theorem Nv(x:aw)(ax:w.ownsRow n₀ 5 1 (.slice a k c) k (aB bs))(bB:ai w0 x.ka x.key)(iL:Below n₀ w0 w)(nh:w0.heap.size=n₀)
 (h1:1<=x.key.length)(h2:x.key.length<=120)(h3:x.at_<524288)(h4:x.count<=1073741824)(hk:k<=20000)(hn:n₀<=w.heap.size):
 Calls Tryz.prog 277 #[x.v,.slice a k c] w λ e w'=>∃a' c',e= .returned (.slice a' (k+(fw x).length) c')/\
  w'.ownsRow n₀ 5 1 (.slice a' (k+(fw x).length) c') (k+(fw x).length) (aB (bs++fw x))/\bO n₀ w w' (.slice a k c) (.slice a' (k+(fw x).length) c'):=by
 obtain⟨B1,o1,e1⟩:∃B o,x.ka=some ⟨B,o,none⟩:=by
  rcases bB.2 with h|⟨B,o,h,_⟩
  ·rw[h]at h1;simp at h1
  ·exact⟨B,o,h⟩
 obtain⟨ka,key,kc,at_,ct⟩:=x
 simp only at e1 h1 h2 h3 h4 bB
 subst e1
 obtain⟨wA,Ql⟩:=aK (w.alloc (.cells (gv (some ⟨B1,o1,none⟩) key.length kc at_ ct) 315))
 obtain⟨wB,Rk⟩:=aK (wA.alloc (.cells (qT ct) 39))
 have Nw:wA.heap.size=w.heap.size+1:=by rw[Ql];simp
 have zC:Below w w wA:=by rw[Ql];exact(Below.refl _ w).alloc (aW) _
 have Zr:Below wA wA wB:=by rw[Rk];exact(Below.refl _ wA).alloc (aW) _
 have hbB:Below w w wB:=zC.T (Zr.mono zC.size)
 have vW:n₀<=wB.heap.size:=Nat.le_trans hn hbB.size
 have bS:(Value.slice a k c).ownBlock≠some w.heap.size:=gV ax _ (aW)
 have oE:(Value.slice a k c).ownBlock≠some (w.heap.size+1):=gV ax _ (Nat.le_succ _)
 have hz:wB.heap[w.heap.size]? =some (.cells (gv (some ⟨B1,o1,none⟩) key.length kc at_ ct) 315):=by rw[Zr.block _ ag,Ql];exact World.alloc_heap_new w _
 have fq:wB.heap[w.heap.size+1]? =some (.cells (qT ct) 39):=by rw[Rk,<-Nw];exact World.alloc_heap_new wA _
 have c0:wB.cell? (za w 0)=some (.slice (some ⟨B1,o1,none⟩) key.length kc):=by rw[aa hz];rfl
 have c1:wB.cell? (za w 1)=some (.int .i64 (at_:Int)):=by rw[aa hz];rfl
 obtain⟨e0,e1,e2,e3,e4,e5⟩:=jO fq
 have hL:eO n₀ wB (.slice a k c) wB a k c bs:=⟨bO.row (n₀:=n₀) hbB ax,bO.refl _ _ _⟩
 have HB:Hid (Below n₀ w0 wB):=af (iL.T (hbB.mono hn))
 have AM:=af bB
 have XV:=af (bO.aA hbB hn (.slice a k c))
 have aH:IntKind.u64.wrap (at_:Int)=(at_:Int):=by rw[IntKind.wrap_u64];omega
 have da:IntKind.u64.wrap (ct:Int)=(ct:Int):=by rw[IntKind.wrap_u64];omega
 have cL:IntKind.u64.wrap 0=0:=by decide
 have cu:=af (show k+(fw ⟨some ⟨B1,o1,none⟩,key,kc,at_,ct⟩).length=k+1+key.length+4*3+8*4/\bs++fw ⟨some ⟨B1,o1,none⟩,key,kc,at_,ct⟩=bs++key.length::key++nj 4 [at_,ct,0]++nj 8 [0,0,0,0]from by
  exact⟨by simp[fw,sC];omega,by simp[fw]⟩)
 clear ax hz fq bB iL
 have HSA:=af Nw
 clear Nw
 unfold aw.v
 go_enter Tryz.func277,Tryz.ntmps277
 go_wp2_with fail
 rw[<-Ql,<-Rk]
 clear Ql Rk
 refine eL 15 (λ w'=>w'.cell? (za w 0)=some (.slice (some ⟨B1,o1,none⟩) key.length kc)/\w'.cell? (za w 1)=some (.int .i64 (at_:Int))/\w'.cell? (za (w.heap.size+1) 0)=some (.int .i64 (ct:Int))/\w'.cell? (za (w.heap.size+1) 1)=some (.int .i64 0)) aO ⟨c0,c1,e0,e1⟩ (λ hS=>?_)
 refine tT 0 hS ?_
 refine tT 1 hS ?_
 refine tT 2 hS ?_
 refine tT 4 hS ?_
 refine tT 5 hS ?_
 refine tT 6 hS ?_
 refine tT 7 hS ?_
 refine tT 8 hS ?_
 refine tT 9 hS ?_
 refine tT 10 hS ?_
 refine tT 11 hS ?_
 refine tT 12 hS ?_
 refine Gq 3 13 aO rfl rfl (λ K hK=>?_) (λ K hK=>?_)
 ·skip
  go_simp
  refine(kd (hL.below vW (dp).drew) AM.O HB.O nh h1 ag ag vW).mono ?_
  rintro e w4 ⟨g1,k1,rfl,sk, -⟩
  have N4:=af (dG (cc:=3) 4 sk (W':=w4.alloc (.cells #[.int .u64 (at_:Int),.int .u64 (ct:Int),.int .u64 0] 22)) ((Below.refl _ w4).alloc (aW) _) (gU w4 [at_,ct,0]) (gV sk.row _ (aW)) ag aR ag vW)
  simp only[]
  refine bF hK ?_ (λ hS=>?_)
  ·exact⟨sk.cell c0 bS,sk.cell c1 bS,sk.cell e0 oE,sk.cell e1 oE⟩
  clear hK K
  refine sT 13 λ K hK=>?_
  go_simp
  refine bF hK ?_ (λ hS=>?_)
  ·exact⟨carry (w:=w4) ((Below.refl _ w4).alloc (aW) _) (sk.cell c0 bS),carry (w:=w4) ((Below.refl _ w4).alloc (aW) _) (sk.cell c1 bS),carry (w:=w4) ((Below.refl _ w4).alloc (aW) _) (sk.cell e0 oE),carry (w:=w4) ((Below.refl _ w4).alloc (aW) _) (sk.cell e1 oE)⟩
  clear hK K
  refine sT 14 λ K hK=>?_
  go_simp
  refine N4.O.mono ?_
  rintro e w6 ⟨a3,k3,rfl,mJ,TG⟩
  simp only[]
  refine bF hK ?_ (λ hS=>?_)
  ·exact⟨mJ.cell c0 bS,mJ.cell c1 bS,mJ.cell e0 oE,mJ.cell e1 oE⟩
  clear hK K
  refine sT 15 λ K hK=>?_
  go_simp
  refine iM hK ?_
  clear hK K
  refine fC aO ?_ _
  have q2:=mJ.cell e2 oE
  have q3:=mJ.cell e3 oE
  have q4:=mJ.cell e4 oE
  have q5:=mJ.cell e5 oE
  have N8:=af (dG (cc:=4) 8 mJ (W':=w6.alloc (.cells Yu 22)) ((Below.refl _ w6).alloc (aW) _) (gU w6 [0,0,0,0]) (gV mJ.row _ (aW)) ag aR bV vW)
  go_wp2_with fail
  refine N8.O.mono ?_
  rintro e w7 ⟨a4,k4,rfl,DU,hG4⟩
  go_wp2_with fail
  go_ret
  exact⟨a4,k4,by rw[cu.O.1];rfl,by rw[cu.O.1,cu.O.2];exact DU.row,by rw[cu.O.1];exact XV.O.T DU.mj⟩
 ·skip
  go_simp
  refine bF hK ?_ (λ hS=>?_)
  ·exact⟨carry (w:=wB) ((Below.refl _ wB).drew.alloc (aW) _) c0,carry (w:=wB) ((Below.refl _ wB).drew.alloc (aW) _) c1,carry (w:=wB) ((Below.refl _ wB).drew.alloc (aW) _) e0,carry (w:=wB) ((Below.refl _ wB).drew.alloc (aW) _) e1⟩
  clear hK K
  refine sT 3 λ K hK=>?_
  go_simp
  refine(kd (hL.below vW ((dp).drew.alloc (aW) _)) AM.O HB.O nh h1 ag ag vW).mono ?_
  rintro e w4 ⟨g1,k1,rfl,sk,hG1⟩
  have N4:=af (dG (cc:=3) 4 sk (W':=w4) (Below.refl _ w4) (uj (gU wB.drew [at_,ct,0]) hG1 (gV hL.row _ (aW))) (Cc hG1 (gV hL.row _ (aW)) aR) ag aR ag vW)
  simp only[]
  refine bF hK ?_ (λ hS=>?_)
  ·exact⟨sk.cell c0 bS,sk.cell c1 bS,sk.cell e0 oE,sk.cell e1 oE⟩
  clear hK K
  refine sT 14 λ K hK=>?_
  go_simp
  refine N4.O.mono ?_
  rintro e w6 ⟨a3,k3,rfl,mJ,TG⟩
  simp only[]
  refine bF hK ?_ (λ hS=>?_)
  ·exact⟨mJ.cell c0 bS,mJ.cell c1 bS,mJ.cell e0 oE,mJ.cell e1 oE⟩
  clear hK K
  refine sT 15 λ K hK=>?_
  go_simp
  refine iM hK ?_
  clear hK K
  refine fC aO ?_ _
  have q2:=mJ.cell e2 oE
  have q3:=mJ.cell e3 oE
  have q4:=mJ.cell e4 oE
  have q5:=mJ.cell e5 oE
  have N8:=af (dG (cc:=4) 8 mJ (W':=w6.alloc (.cells Yu 22)) ((Below.refl _ w6).alloc (aW) _) (gU w6 [0,0,0,0]) (gV mJ.row _ (aW)) ag aR bV vW)
  go_wp2_with fail
  refine N8.O.mono ?_
  rintro e w7 ⟨a4,k4,rfl,DU,hG4⟩
  go_wp2_with fail
  go_ret
  exact⟨a4,k4,by rw[cu.O.1];rfl,by rw[cu.O.1,cu.O.2];exact DU.row,by rw[cu.O.1];exact XV.O.T DU.mj⟩
def bG(xs:List an):List Nat:=1::xs.length::xs.flatMap fi
def bf(xs:List aw):List Nat:=2::xs.length::xs.flatMap fw
theorem oY:∀(i n:Nat),∀y∈dL i n,y<256
 |0,_,_,h=>by simp[dL]at h
 |i+1,n,y,h=>by
  rcases List.mem_cons.1 h with rfl|h
  ·omega
  ·exact oY i n y h
theorem Cd(wd:Nat)(vs:List Nat):∀y∈nj wd vs,y<256:= λ y h=>by
 obtain⟨v,_,h⟩:=List.mem_flatMap.1 h
 exact oY _ _ y h
theorem I8(x:an)(h1:x.key.length<=120)(h2:x.val.length<=100)(h3:∀y∈x.key,y<256)(h4:∀y∈x.val,y<256):∀y∈fi x,y<256:= λ y h=>by
 simp only[fi,List.mem_append,List.mem_cons]at h
 rcases h with(((rfl|h)|(rfl|h))|h)|h
 ·omega
 ·exact h3 y h
 ·omega
 ·exact h4 y h
 ·exact Cd _ _ y h
 ·exact Cd _ _ y h
theorem I9(x:aw)(h1:x.key.length<=120)(h3:∀y∈x.key,y<256):∀y∈fw x,y<256:= λ y h=>by
 simp only[fw,List.mem_append,List.mem_cons]at h
 rcases h with((rfl|h)|h)|h
 ·omega
 ·exact h3 y h
 ·exact Cd _ _ y h
 ·exact Cd _ _ y h
theorem xC(x:an):(fi x).length=x.key.length+x.val.length+11:=by simp[fi,sC]<;>omega
theorem xD(x:aw):(fw x).length=x.key.length+45:=by simp[fw,sC]<;>omega
theorem kU{α:Type}(f:α->List Nat)(m:Nat):∀(xs:List α),(∀x∈xs,(f x).length<=m)->(xs.flatMap f).length<=m*xs.length
 |[],_=>by simp
 |x::xs,h=>by
  have h1:=kU f m xs (λ y hy=>h y (by simp[hy]))
  have h2:=h x aR
  simp only[List.flatMap_cons,List.length_append,List.length_cons]
  rw[Nat.mul_succ];omega
theorem AN{α:Type}(f:α->List Nat)(xs:List α)(j:Nat)(x:α)(h:xs[j]? =some x):(xs.take (j+1)).flatMap f=(xs.take j).flatMap f++f x:=by
 rw[List.take_add_one,h];simp
theorem sD{w2:World}{y z:Value}(h:Below (w.alloc (.cells #[x,y,z] t)).heap.size (w.alloc (.cells #[x,y,z] t)) w2):w2.cell? (za w 0)=some x/\w2.cell? (za w 1)=some y/\w2.cell? (za w 2)=some z:=
 ⟨fJ h 0 _ rfl,fJ h 1 _ rfl,fJ h 2 _ rfl⟩
theorem vg(c:Nat)(h:dQ w a xs)(ho:jb xs)(xi:∀x∈xs,1<=x.val.length)(b:Option Addr)(d:Nat):
 Calls Tryz.prog 167 #[.agg #[.bool true,.slice a xs.length c,.slice b 0 d]] w λ e w'=>∃a' k,e= .returned (.tuple (BH a' (bG xs).length k))/\(bG xs).length<=k/\cx w a'/\ai w' a' (bG xs)/\Below w w w':=by
 have hlen:=ho.kT
 have xA:=ho.DQ
 have hB:= λ x hx=>(h.2 x hx)
 have DV:= λ (w2:World) (hb:Below w w w2)=>ri c (h.below hb) ho b d
 have hP:= λ (w2:World) (hb:Below w w w2)=>nD c (h.below hb) ag b 0 d
 have bg:∀y∈bG xs,y<256:= λ y hy=>by
  simp only[bG,List.mem_cons]at hy
  rcases hy with rfl|rfl|hy
  ·omega
  ·omega
  ·obtain⟨x,hx,hy⟩:=List.mem_flatMap.1 hy
   exact I8 x (ho.key x hx).2.1 (ho.key x hx).2.2 (h.2 x hx).1.1 (h.2 x hx).2.1 y hy
 have HC:=af DV
 have HP:=af hP
 have HO:=af ho
 have HX:=af h.2
 have Ce:=af bg
 have HV:=af xi
 clear xi
 have ei:Hid (Below w w (w.alloc (.cells #[.bool true,.slice a xs.length c,.slice b 0 d] 169))):=af (by go_grown)
 clear h DV hP ho bg hB
 have hlu:(xs.length:Int)<=6:=ag
 go_enter Tryz.func167,Tryz.ntmps167
 go_wp2_with first
  |((with_reducible refine(HC.O _ ei.O).mono ?_);rintro e w2 ⟨rfl,aC⟩;have bR:=af (ei.O.T (aC.mono ei.O.size));obtain⟨n0,n1,n2⟩:=sD aC;clear aC)
  |((with_reducible refine(HP.O _ bR.O).mono ?_);rintro e w3 ⟨p,k,rfl,ax,aL⟩;replace n0:=carry aL n0;replace n1:=carry aL n1;replace n2:=carry aL n2;have m0:∀o,(w3.alloc o).cell? (za w 0)=_:= λ o=>carry ((Below.refl _ w3).alloc (aW) o) n0;have bA:=af (bR.O.T (aL.mono bR.O.size));have HR:=af ax;clear aL ax)
  |fail
 obtain⟨g,rfl⟩:∃g,p=some ⟨g,0,none⟩:=by
  rcases ay HR.O with⟨_,h,_⟩|⟨g,_,rfl,_⟩
  ·omega
  ·exact⟨g,rfl⟩
 have Rp:g<w3.heap.size:=by
  rcases ay HR.O with⟨h,_⟩|⟨g2,_,h,_,hg⟩
  ·cases h
  ·cases h;exact(aX hg).1
 obtain⟨wS,Ja⟩:=aK (w3.alloc (.cells #[.int .u8 1,.int .u8 (xs.length:Int)] 5))
 have Cf:Below w3 w3 wS:=by rw[Ja];exact(Below.refl _ w3).alloc (aW) _
 have XW:w.heap.size<=wS.heap.size:=Nat.le_trans bA.O.size Cf.size
 have Zs:eO w.heap.size wS (.slice (zp w3) 2 2) wS (zp w3) 2 2 [1,xs.length]:=by
  refine⟨⟨by simp[aB],.inr ⟨w3.heap.size,2,#[.int .u8 1,.int .u8 (xs.length:Int)],rfl,bA.O.size,?_,aW,by simp[maxLen],rfl,rfl⟩⟩,bO.refl _ _ _⟩
  rw[Ja];exact World.alloc_heap_new w3 _
 have Nx:(Value.slice (zp w3) 2 2).ownBlock≠some g:=by simp[Value.ownBlock];omega
 have HL:=af Zs
 have F7:Hid (Below w w wS):=af (bA.O.T (Cf.mono bA.O.size))
 have Zt:=af Cf
 have HVN:=af Nx
 rw[<-Ja]
 clear Ja Cf Zs Nx Rp
 go_loopw [7,30] (λ ov iv wr=>∃j:Nat,j<=xs.length/\iv= .int .i64 (j:Int)/\∃(k':Nat) (a':Option Addr) (c':Nat),ov= .slice a' k' c'/\k'=2+((xs.take j).flatMap fi).length/\Hid (eO w.heap.size wS (.slice (zp w3) 2 2) wr a' k' c' (1::xs.length::(xs.take j).flatMap fi))) (λ _ iv _=>xs.length - (intOf iv).toNat)
 case atStart=>exact⟨0,Nat.zero_le _,rfl,2,_,_,rfl,by simp,af (by simpa using HL.O)⟩
 case round=>
  obtain⟨j,hj,rfl,k',a',c',rfl,Rv,hl⟩:=hrel
  by_cases bg:j<xs.length
  ·obtain⟨x,hx⟩:∃x,xs[j]? =some x:=⟨xs[j],by simp[bg]⟩
   have BW:=HO.O.key x (List.mem_of_getElem? hx)
   have bq:wr.cell? ⟨g,j,none⟩=some (jV x):=hl.O.cell (p:=⟨g,j,none⟩) (carry Zt.O (fh HR.O j _ (by simp[hx]))) HVN.O
   have qq:=kU fi 231 (xs.take j) (λ y hy=>by have:=HO.O.key y (List.mem_of_mem_take hy);rw[xC];omega)
   rw[List.length_take]at qq
   have oN:k'<=20000:=ag
   have Kv:=af (Nu x hl.O.row (HX.O x (List.mem_of_getElem? hx)).1 (HX.O x (List.mem_of_getElem? hx)).2 (F7.O.T hl.O.mj.below) rfl BW.1 BW.2.1 (HV.O x (List.mem_of_getElem? hx)) BW.2.2 oN (Nat.le_trans XW hl.O.mj.below.size))
   have Zu:=af (AN fi xs j x hx)
   have gy:(j:Int)<(xs.length:Int):=ag
   unfold jV an.v at bq
   unfold an.v at Kv
   have Dy:=af Rv
   clear hx BW qq Rv
   go_wp2_with first
    |((with_reducible refine Kv.O.mono ?_);rintro e w5 ⟨a5,c5,rfl,zD,ni⟩)
    |fail
   exact⟨⟨j+1,ag,by simp,k'+(fi x).length,a5,c5,rfl,by rw[Zu.O,List.length_append,Dy.O];omega,af ⟨by rw[Zu.O];simpa using zD,hl.O.mj.T ni⟩⟩,by simp[intOf];omega⟩
  ·obtain rfl:j=xs.length:=ag
   rw[List.take_length]at Rv hl
   have my:=cm (xs:=bG xs) (n₀:=w.heap.size) (W:=wr) (k:=k') (c:=c') (g:=(match a' with|some p=>p.block|none=>0)) (by
    rcases ay hl.O.row with⟨h,h2,_⟩|⟨g2,_,h,_⟩
    ·omega
    ·subst h;exact hl.O.row) Ce.O
   obtain⟨g2,rfl⟩:∃g2,a'=some ⟨g2,0,none⟩:=by
    rcases ay hl.O.row with⟨h,h2,_⟩|⟨g2,_,h,_⟩
    ·omega
    ·exact⟨g2,h⟩
   have dM:=af (show k'=(bG xs).length/\(bG xs).length<=c'/\cx w (zp g2)/\ai wr (zp g2) (bG xs)/\Below w w wr from⟨my.2.2,by have:=my.2.1;have:=my.2.2;omega,cx.of (tY hl.O.row),my.1,F7.O.T hl.O.mj.below⟩)
   clear my hl Rv
   go_wp2_with fail
   go_ret2
   exact⟨_,c',by rw[<-dM.O.1];rfl,dM.O.2⟩
theorem sE{xs:List aw}(c:Nat)(h:gT w a xs)(ho:dt xs)(b:Option Addr)(d:Nat):
 Calls Tryz.prog 167 (Gi (.agg (qU b 0 d a xs.length c))) w λ e w'=>∃a' k,e= .returned (.tuple (BH a' (bf xs).length k))/\(bf xs).length<=k/\cx w a'/\ai w' a' (bf xs)/\Below w w w':=by
 have hlen:=ho.kT
 have xA:=ho.DR
 have hB:= λ x hx=>(h.2 x hx)
 have DV:= λ (w2:World) (hb:Below w w w2)=>oX c (h.below hb) ho b d
 have hP:= λ (w2:World) (hb:Below w w w2)=>lM c (h.below hb) ag b 0 d
 have bg:∀y∈bf xs,y<256:= λ y hy=>by
  simp only[bf,List.mem_cons]at hy
  rcases hy with rfl|rfl|hy
  ·omega
  ·omega
  ·obtain⟨x,hx,hy⟩:=List.mem_flatMap.1 hy
   exact I9 x (ho.key x hx).2.1 (h.2 x hx).1 y hy
 have HC:=af DV
 have HP:=af hP
 have HO:=af ho
 have HX:=af h.2
 have Ce:=af bg
 skip
 have ei:Hid (Below w w (w.alloc (.cells (qU b 0 d a xs.length c) 169))):=af (by go_grown)
 clear h DV hP ho bg hB
 have hlu:(xs.length:Int)<=6:=ag
 go_enter Tryz.func167,Tryz.ntmps167
 go_wp2_with first
  |((with_reducible refine(HC.O _ ei.O).mono ?_);rintro e w2 ⟨rfl,aC⟩;have bR:=af (ei.O.T (aC.mono ei.O.size));obtain⟨n0,n1,n2⟩:=sD aC;clear aC)
  |((with_reducible refine(HP.O _ bR.O).mono ?_);rintro e w3 ⟨p,k,rfl,ax,aL⟩;replace n0:=carry aL n0;replace n1:=carry aL n1;replace n2:=carry aL n2;have m0:∀o,(w3.alloc o).cell? (za w 0)=_:= λ o=>carry ((Below.refl _ w3).alloc (aW) o) n0;have bA:=af (bR.O.T (aL.mono bR.O.size));have HR:=af ax;clear aL ax)
  |fail
 obtain⟨g,rfl⟩:∃g,p=some ⟨g,0,none⟩:=by
  rcases ay HR.O with⟨_,h,_⟩|⟨g,_,rfl,_⟩
  ·omega
  ·exact⟨g,rfl⟩
 have Rp:g<w3.heap.size:=by
  rcases ay HR.O with⟨h,_⟩|⟨g2,_,h,_,hg⟩
  ·cases h
  ·cases h;exact(aX hg).1
 obtain⟨wS,Ja⟩:=aK (w3.alloc (.cells #[.int .u8 2,.int .u8 (xs.length:Int)] 5))
 have Cf:Below w3 w3 wS:=by rw[Ja];exact(Below.refl _ w3).alloc (aW) _
 have XW:w.heap.size<=wS.heap.size:=Nat.le_trans bA.O.size Cf.size
 have Zs:eO w.heap.size wS (.slice (zp w3) 2 2) wS (zp w3) 2 2 [2,xs.length]:=by
  refine⟨⟨by simp[aB],.inr ⟨w3.heap.size,2,#[.int .u8 2,.int .u8 (xs.length:Int)],rfl,bA.O.size,?_,aW,by simp[maxLen],rfl,rfl⟩⟩,bO.refl _ _ _⟩
  rw[Ja];exact World.alloc_heap_new w3 _
 have Nx:(Value.slice (zp w3) 2 2).ownBlock≠some g:=by simp[Value.ownBlock];omega
 have HL:=af Zs
 have F7:Hid (Below w w wS):=af (bA.O.T (Cf.mono bA.O.size))
 have Zt:=af Cf
 have HVN:=af Nx
 rw[<-Ja]
 clear Ja Cf Zs Nx Rp
 go_loopw [7,30] (λ ov iv wr=>∃j:Nat,j<=xs.length/\iv= .int .i64 (j:Int)/\∃(k':Nat) (a':Option Addr) (c':Nat),ov= .slice a' k' c'/\k'=2+((xs.take j).flatMap fw).length/\Hid (eO w.heap.size wS (.slice (zp w3) 2 2) wr a' k' c' (2::xs.length::(xs.take j).flatMap fw))) (λ _ iv _=>xs.length - (intOf iv).toNat)
 case atStart=>exact⟨0,Nat.zero_le _,rfl,2,_,_,rfl,by simp,af (by simpa using HL.O)⟩
 case round=>
  obtain⟨j,hj,rfl,k',a',c',rfl,Rv,hl⟩:=hrel
  by_cases bg:j<xs.length
  ·obtain⟨x,hx⟩:∃x,xs[j]? =some x:=⟨xs[j],by simp[bg]⟩
   have BW:=HO.O.key x (List.mem_of_getElem? hx)
   have bq:wr.cell? ⟨g,j,none⟩=some (jW x):=hl.O.cell (p:=⟨g,j,none⟩) (carry Zt.O (fh HR.O j _ (by simp[hx]))) HVN.O
   have qq:=kU fw 165 (xs.take j) (λ y hy=>by have:=HO.O.key y (List.mem_of_mem_take hy);rw[xD];omega)
   rw[List.length_take]at qq
   have oN:k'<=20000:=ag
   have Kv:=af (Nv x hl.O.row (HX.O x (List.mem_of_getElem? hx)) (F7.O.T hl.O.mj.below) rfl BW.1 BW.2.1 BW.2.2.2.1 ag oN (Nat.le_trans XW hl.O.mj.below.size))
   have Zu:=af (AN fw xs j x hx)
   have gy:(j:Int)<(xs.length:Int):=ag
   unfold jW aw.v at bq
   unfold aw.v at Kv
   have Dy:=af Rv
   clear hx BW qq Rv
   go_wp2_with first
    |((with_reducible refine Kv.O.mono ?_);rintro e w5 ⟨a5,c5,rfl,zD,ni⟩)
    |fail
   exact⟨⟨j+1,ag,by simp,k'+(fw x).length,a5,c5,rfl,by rw[Zu.O,List.length_append,Dy.O];omega,af ⟨by rw[Zu.O];simpa using zD,hl.O.mj.T ni⟩⟩,by simp[intOf];omega⟩
  ·obtain rfl:j=xs.length:=ag
   rw[List.take_length]at Rv hl
   have my:=cm (xs:=bf xs) (n₀:=w.heap.size) (W:=wr) (k:=k') (c:=c') (g:=(match a' with|some p=>p.block|none=>0)) (by
    rcases ay hl.O.row with⟨h,h2,_⟩|⟨g2,_,h,_⟩
    ·omega
    ·subst h;exact hl.O.row) Ce.O
   obtain⟨g2,rfl⟩:∃g2,a'=some ⟨g2,0,none⟩:=by
    rcases ay hl.O.row with⟨h,h2,_⟩|⟨g2,_,h,_⟩
    ·omega
    ·exact⟨g2,h⟩
   have dM:=af (show k'=(bf xs).length/\(bf xs).length<=c'/\cx w (zp g2)/\ai wr (zp g2) (bf xs)/\Below w w wr from⟨my.2.2,by have:=my.2.1;have:=my.2.2;omega,cx.of (tY hl.O.row),my.1,F7.O.T hl.O.mj.below⟩)
   clear my hl Rv
   go_wp2_with fail
   go_ret2
   exact⟨_,c',by rw[<-dM.O.1];rfl,dM.O.2⟩
end
def vX(c:Int):List Value:=(UC c)
def rl(W:World)(a:Option Addr)(cs:List Nat):Prop:=cs=[]\/∃B o,a=some ⟨B,o,none⟩/\∀(j c:Nat),cs[j]? =some c->∀(i:Nat) (v:Value),(vX c)[i]? =some v->W.cell? ⟨B,o+j*6+i,none⟩=some v
theorem rl.below(h:rl W a cs)(hb:Below W W W'):rl W' a cs:=by
 rcases h with h|⟨B,o,e,hc⟩
 ·exact .inl h
 ·exact .inr ⟨B,o,e, λ j c hj i v hi=>carry hb (hc j c hj i v hi)⟩
theorem qI(cs:List Nat)(j c:Nat)(h:cs[j]? =some c):(cs.take (j+1)).sum=(cs.take j).sum+c:=by
 rw[List.take_add_one,h];simp
theorem vh(cs:List Nat)(j:Nat):(cs.take j).sum<=cs.sum:=by
 have:cs.sum=(cs.take j).sum+(cs.drop j).sum:=by rw[<-List.sum_append,List.take_append_drop]
 omega
theorem DW(k:Nat)(h:rl w a cs)(hl:cs.length<=1000)(hs:cs.sum<=1073741824):
 Calls Tryz.prog 128 (jE a cs.length k) w λ e w'=>e= .returned (.tuple #[fX (cs.sum:Nat),.int .i64 0])/\Below w w w':=by
 have H:=af h
 have HS:=af hs
 have H0:Hid (Below w w ((w.alloc (.cells BI 39)).alloc (.cells BI 39))):=af (by go_grown)
 clear h hs
 go_enter Tryz.func128,Tryz.ntmps128
 go_wp2
 go_step3
 obtain⟨w1,aH⟩:=aK ((w.alloc (.cells BI 39)).alloc (.cells BI 39))
 rw[<-aH]at H0
 obtain⟨hz,fq⟩:=aS (Below.refl _ ((w.alloc (.cells BI 39)).alloc (.cells BI 39)))
 rw[<-aH]at hz fq
 have HZ:=cj hz fq
 clear hz fq
 go_wp2_with fail
 rw[<-aH]
 have Zv:w.heap.size+1<w1.heap.size:=by rw[aH];simp
 have Zw:=af Zv
 clear aH Zv
 go_step3
 go_wp2_with fail
 go_loopw [4,13] (λ ev iv wr=>ev= .int .i64 0/\∃j:Nat,j<=cs.length/\iv= .int .i64 (j:Int)/\Hid (Below w1 w1 wr)) (λ _ iv _=>cs.length - (intOf iv).toNat)
 case atStart=>exact⟨rfl,0,Nat.zero_le _,rfl,af (dp)⟩
 case round=>
  obtain⟨rfl,j,hj,rfl,hB⟩:=hrel
  by_cases bg:j<cs.length
  ·obtain⟨c,hc⟩:∃c,cs[j]? =some c:=⟨cs[j],by simp[bg]⟩
   have Ki:c<=1073741824:=by have h1:=qI cs j c hc;have h2:=vh cs (j+1);have:=HS.O;omega
   obtain⟨B,o,rfl,bq⟩:∃B o,a=some ⟨B,o,none⟩/\∀(i:Nat) (v:Value),(vX c)[i]? =some v->wr.cell? ⟨B,o+j*6+i,none⟩=some v:=by
    rcases H.O.below (H0.O.T (hB.O.mono H0.O.size))with h|⟨B,o,e,h⟩
    ·rw[h]at bg;simp at bg
    ·exact⟨B,o,e,h j c hc⟩
   have c0:=bq 0 _ rfl
   have c1:=bq 1 _ rfl
   have c2:=bq 2 _ rfl
   have c3:=bq 3 _ rfl
   have c4:=bq 4 _ rfl
   have c5:=bq 5 _ rfl
   rw[Nat.add_zero]at c0
   have gy:(j:Int)<(cs.length:Int):=ag
   have Vr:(j:Int)<=1000:=ag
   have HM:=af λ w=>xw c Ki w
   clear hc Ki bq
   go_wp2_with first
    |((with_reducible refine(HM.O _).mono ?_);rintro e w4 ⟨rfl,bH⟩;replace hB:=af ((hB.O.alloc hB.O.size _).T (bH.mono (by have:=hB.O.size;simp;omega))))
    |fail
   go_roundw
   case rel=>exact⟨rfl,j+1,ag,by simp,hB⟩
   case measure=>simp[intOf];omega
  ·obtain rfl:j=cs.length:=ag
   go_wp2_with fail
   have hz:=(hB.O.block _ (Nat.lt_of_succ_lt Zw.O)).T HZ.O.1
   have fq:=(hB.O.block _ Zw.O).T HZ.O.2
   have HZ2:=cj hz fq
   have bR:=af (H0.O.T (hB.O.mono H0.O.size))
   clear hz fq HZ
   go_loopw [28] (λ iv wq=>∃j:Nat,j<=cs.length/\iv= .int .i64 (j:Int)/\Hid (Below w w wq)/\Hid (wq.heap[w.heap.size]? =some (.cells BI 39))/\Hid (wq.heap[w.heap.size+1]? =some (.cells (UC ((cs.take j).sum:Nat)) 39))) (λ iv _=>cs.length - (intOf iv).toNat)
   case atStart=>exact⟨0,Nat.zero_le _,rfl,bR,af HZ2.O.1,af (by simpa using HZ2.O.2)⟩
   case round=>
    obtain⟨j,hj,rfl,hB,hz,fq⟩:=hrel
    by_cases bg:j<cs.length
    ·obtain⟨c,hc⟩:∃c,cs[j]? =some c:=⟨cs[j],by simp[bg]⟩
     have qp:=qI cs j c hc
     have Ki:(cs.take j).sum+c<=1073741824:=by have h2:=vh cs (j+1);have:=HS.O;omega
     obtain⟨B,o,rfl,bq⟩:∃B o,a=some ⟨B,o,none⟩/\∀(i:Nat) (v:Value),(vX c)[i]? =some v->wr.cell? ⟨B,o+j*6+i,none⟩=some v:=by
      rcases H.O.below hB.O with h|⟨B,o,e,h⟩
      ·rw[h]at bg;simp at bg
      ·exact⟨B,o,e,h j c hc⟩
     have c0:=bq 0 _ rfl
     have c1:=bq 1 _ rfl
     have c2:=bq 2 _ rfl
     have c3:=bq 3 _ rfl
     have c4:=bq 4 _ rfl
     have c5:=bq 5 _ rfl
     rw[Nat.add_zero]at c0
     have gy:(j:Int)<(cs.length:Int):=ag
     have Vr:(j:Int)<=1000:=ag
     obtain⟨S,hS⟩:=aK ((cs.take j).sum)
     rw[<-hS]at qp Ki fq
     have g1:decide ((1073741824:Int) - (c:Int)<(S:Int))=false:=bV
     have g2:(c:Int)<=1073741824:=ag
     have Ae:=af qp
     have HM:=af λ w=>No S c Ki w
     obtain⟨d0,d1,d2,d3,d4,d5⟩:=jO fq.O
     have sj:=(aX fq.O).1
     have k0:∀o,(wr.alloc o).cell? (za (w.heap.size+1) 0)=_:= λ o=>carry ((Below.refl _ wr).alloc (aW) o) d0
     have k1:∀o,(wr.alloc o).cell? (za (w.heap.size+1) 1)=_:= λ o=>carry ((Below.refl _ wr).alloc (aW) o) d1
     have k2:∀o,(wr.alloc o).cell? (za (w.heap.size+1) 2)=_:= λ o=>carry ((Below.refl _ wr).alloc (aW) o) d2
     have k3:∀o,(wr.alloc o).cell? (za (w.heap.size+1) 3)=_:= λ o=>carry ((Below.refl _ wr).alloc (aW) o) d3
     have k4:∀o,(wr.alloc o).cell? (za (w.heap.size+1) 4)=_:= λ o=>carry ((Below.refl _ wr).alloc (aW) o) d4
     have k5:∀o,(wr.alloc o).cell? (za (w.heap.size+1) 5)=_:= λ o=>carry ((Below.refl _ wr).alloc (aW) o) d5
     have AO:Hid (∀o,Below wr wr (wr.alloc o)):=af λ o=>(Below.refl _ wr).alloc (aW) o
     clear hc Ki bq qp sj hS
     go_wp2_with first
      |((with_reducible refine(HM.O _).mono ?_);rintro e w4 ⟨rfl,bH⟩;have zo:=(AO.O _).T (bH.mono (AO.O _).size);have lA:=(zo.block _ (aX fq.O).1).T fq.O;have hy:=(zo.block _ (aX hz.O).1).T hz.O;obtain⟨x0,x1,x2,x3,x4,x5⟩:=jO lA;obtain⟨f0,f1,f2,f3,f4,f5⟩:=so lA;have HY:=cj hy lA;have Ni:=af zo;clear hy lA zo bH)
      |fail
     exact⟨⟨j+1,ag,by simp,af ((hB.O.T (Ni.O.mono hB.O.size)).T (kS (Nat.le_succ _))),af (by rw[GF _ (Nat.ne_of_lt (Nat.lt_succ_self _))];exact HY.O.1),af (by rw[Ae.O,Nr HY.O.2];simp)⟩,by simp[intOf];omega⟩
    ·obtain rfl:j=cs.length:=ag
     rw[List.take_length]at fq
     obtain⟨d0,d1,d2,d3,d4,d5⟩:=jO fq.O
     obtain⟨x0,x1,x2,x3,x4,x5⟩:=jO hz.O
     obtain⟨f0,f1,f2,f3,f4,f5⟩:=so hz.O
     go_wp2_with fail
     rw[Exit.noGoto_ret]
     refine bodyPost_ret (v:=.tuple #[fX (cs.sum:Nat),.int .i64 0]) ?_ (by rfl) ⟨rfl,hB.O.T (kS (aW))⟩
     obtain⟨s0,s1,s2,s3,s4,s5⟩:=jO (Nr (v0:=.int .i64 (cs.sum:Nat)) (v1:=.int .i64 0) (v2:=.int .i64 0) (v3:=.int .u64 0) (v4:=.int .i64 0) (v5:=.int .i64 0) hz.O)
     rw[results_cell_tmp rfl]
     go_simp
section
attribute [-go_sem] Builtin.append_
theorem Tryz.Jb:(Tryz.prog.info? 39).map (λ i=>(i.zero,i.size,i.bytes))=some (some (fX 0),6,48):=aO
def lN(xs:List an):List Nat:=xs.map λ _=>1
theorem AP:∀(xs:List an),(lN xs).sum=xs.length
 |[]=>rfl
 |x::xs=>by have:=AP xs;simp only[lN,List.map_cons,List.sum_cons,List.length_cons]at*;omega
def fj(cs:List Nat):List Value:=cs.flatMap λ c:Nat=>vX (c:Int)
theorem sF:∀(cs:List Nat) (j c i:Nat) (v:Value),cs[j]? =some c->(vX (c:Int))[i]? =some v->(fj cs)[j*6+i]? =some v
 |[],_,_,_,_,h,_=>by simp at h
 |d::cs,0,c,i,v,h,hi=>by
  simp only[List.getElem?_cons_zero,Option.some.injEq]at h
  subst h
  have hl:i<6:=by have:=(List.getElem?_eq_some_iff.1 hi).1;simpa[vX]using this
  simp only[fj,List.flatMap_cons,Nat.zero_mul,Nat.zero_add]
  rw[List.getElem?_append_left (by simpa[vX]using hl)];exact hi
 |d::cs,j+1,c,i,v,h,hi=>by
  have ih:=sF cs j c i v (by simpa using h) hi
  simp only[fj,List.flatMap_cons]at ih⊢
  rw[List.getElem?_append_right (by simp[vX];omega)]
  rw[show(j+1)*6+i - (vX (d:Int)).length=j*6+i by simp[vX];omega]
  exact ih
theorem vi(h:W.ownsRow n₀ 39 6 (.slice (zp g) k c) k (fj cs)):rl W (zp g) cs:=by
 rcases h.2 with⟨h2,_⟩|⟨g',cap,cur,h2,hb,hg,_,_,_,ht⟩
 ·cases h2
 ·cases h2
  refine .inr ⟨g,0,rfl, λ j x hj i v hi=>?_⟩
  have Cg:=sF cs j x i v hj hi
  rw[<-ht,List.getElem?_take]at Cg
  split at Cg
  ·simp only[World.cell?,hg,Nat.zero_add];simpa using Cg
  ·cases Cg
theorem GG(c:Nat)(h:dQ w a xs)(ho:jb xs)(b:Option Addr)(d:Nat)(x:an)(hx:xs[0]? =some x):
 Calls Tryz.prog 102 #[.agg #[.bool true,.slice a xs.length c,.slice b 0 d]] w λ e w'=>e= .returned (.tuple (BH x.ka x.key.length x.kc))/\Below w w w':=by
 have xA:=ho.DQ
 have hlen:=ho.kT
 have DV:= λ (w2:World) (hb:Below w w w2)=>ri c (h.below hb) ho b d
 have hP:= λ (w2:World) (hb:Below w w w2)=>nD c (h.below hb) ag b 0 d
 have HC:=af DV
 have HP:=af hP
 have HX:=af hx
 have ei:Hid (Below w w (w.alloc (.cells #[.bool true,.slice a xs.length c,.slice b 0 d] 169))):=af (by go_grown)
 have zv:(0:Int)<(xs.length:Int):=ag
 have abS:0<xs.length:=ag
 clear h DV hP ho hx
 go_enter Tryz.func102,Tryz.ntmps102
 go_wp2_with first
  |((with_reducible refine(HC.O _ ei.O).mono ?_);rintro e w2 ⟨rfl,aC⟩;have bR:=af (ei.O.T (aC.mono ei.O.size));obtain⟨n0,n1,n2⟩:=sD aC;clear aC)
  |((with_reducible refine(HP.O _ bR.O).mono ?_);rintro e w3 ⟨p,k,rfl,ax,aL⟩;obtain⟨g,rfl⟩:∃g,p=some ⟨g,0,none⟩:=(by rcases ay ax with⟨_,h,_⟩|⟨g,_,rfl,_⟩<;>first|omega|exact⟨_,rfl⟩);have bq:w3.cell? (za g 0)=some (jV x):=fh ax 0 _ (by simp[HX.O]);have bA:=af (bR.O.T (aL.mono bR.O.size));unfold jV an.v at bq;clear aL ax n0 n1 n2)
  |((with_reducible refine(uh _ _ _ _ _ _ _).mono ?_);rintro e w4 ⟨rfl,bH⟩)
  |fail
 go_ret2
 exact⟨rfl,bA.O.T (bH.mono bA.O.size)⟩
theorem Kw(c:Nat)(h:dQ w a xs)(ho:jb xs)(b:Option Addr)(d:Nat)(qp:(lN xs).sum<=1073741824):
 Calls Tryz.prog 103 #[.agg #[.bool true,.slice a xs.length c,.slice b 0 d]] w λ e w'=>e= .returned (.tuple #[fX ((lN xs).sum:Nat),.int .i64 0])/\Below w w w':=by
 have xA:=ho.DQ
 have hlen:=ho.kT
 have DV:= λ (w2:World) (hb:Below w w w2)=>ri c (h.below hb) ho b d
 have hP:= λ (w2:World) (hb:Below w w w2)=>nD c (h.below hb) ag b 0 d
 have HC:=af DV
 have HP:=af hP
 have Vs:=af qp
 have ei:Hid (Below w w ((w.alloc (.cells #[.bool true,.slice a xs.length c,.slice b 0 d] 169)).alloc (.cells BI 39))):=af (by go_grown)
 clear h DV hP ho qp
 go_enter Tryz.func103,Tryz.ntmps103
 go_wp2_with first
  |((with_reducible refine(HC.O _ ei.O).mono ?_);rintro e w2 ⟨rfl,aC⟩;have bR:=af (ei.O.T (aC.mono ei.O.size));obtain⟨y0,y1⟩:=aS aC;have n0:w2.cell? (za w 0)=_:=aa y0 0;have n1:w2.cell? (za w 1)=_:=aa y0 1;have n2:w2.cell? (za w 2)=_:=aa y0 2;simp only[aD]at n0 n1 n2;have HY:=af y1;clear aC y0 y1)
  |((with_reducible refine(HP.O _ bR.O).mono ?_);rintro e w3 ⟨p,k,rfl,ax,aL⟩;have bA:=af (bR.O.T (aL.mono bR.O.size));have HR:=af ax;have Qn:=af ((aL.block _ (aX HY.O).1).T HY.O);clear aL ax n0 n1 n2)
  |fail
 obtain⟨g,rfl⟩:∃g,p=some ⟨g,0,none⟩:=by
  rcases ay HR.O with⟨_,h,_⟩|⟨g,_,rfl,_⟩
  ·omega
  ·exact⟨g,rfl⟩
 go_loopw [7,23] (λ rv iv wr=>∃j:Nat,j<=xs.length/\iv= .int .i64 (j:Int)/\∃q k',rv= .slice q j k'/\Hid (wr.ownsRow w3 39 6 (.slice q j k') j (fj ((lN xs).take j)))/\Hid (Below w3 w3 wr)) (λ _ iv _=>xs.length - (intOf iv).toNat)
 case atStart=>exact⟨0,Nat.zero_le _,rfl,none,0,rfl,af ⟨by simp[fj],.inl ⟨rfl,rfl⟩⟩,af (dp)⟩
 case round=>
  obtain⟨j,hj,rfl,q,k',rfl,ax,hB⟩:=hrel
  by_cases bg:j<xs.length
  ·obtain⟨x,hx⟩:∃x,xs[j]? =some x:=⟨xs[j],by simp[bg]⟩
   have bq:wr.cell? ⟨g,j,none⟩=some (jV x):=carry hB.O (fh HR.O j _ (by simp[hx]))
   have HSU:Hid ((lN xs).take (j+1)=(lN xs).take j++[1]):=af (by rw[List.take_add_one];simp[lN,hx])
   have gy:(j:Int)<(xs.length:Int):=ag
   have rj:(j:Int)<=6:=ag
   have zB:Hid (∀w4,Below wr wr w4->∃g' c' w5,(Builtin.append_ #[256,256] 256 (jF q j k' (zp w4) 1 1)).run Tryz.prog (w4.alloc (.cells Yv 39))= .ok (.slice (zp g') (j+1) c') w5/\Hid (w5.ownsRow w3 39 6 (.slice (zp g') (j+1) c') (j+1) (fj ((lN xs).take (j+1))))/\Hid (Below w3 w3 w5)):=af λ w4 bH=>by
    obtain⟨g',c',w5,bt,zD,bJ,_,_,_⟩:=fM (P:=Tryz.prog) 256 39 (fX 0) 6 48 aO Tryz.Jb rfl bd (W:=w4) (n₀:=w3.heap.size) Yv rfl (by simp[Value.oneCell']) (bO.row (n₀:=w3.heap.size) bH ax.O) ag ag (Nat.le_trans hB.O.size bH.size)
    refine⟨g',c',w5,bt,af ?_,af ((hB.O.T (bH.mono hB.O.size)).T bJ)⟩
    rw[HSU.O]
    simpa[fj,vX]using zD
   unfold jV an.v at bq
   clear hx
   go_wp2_with first
    |((with_reducible refine(xy _ _ _ _ _ _ _).mono ?_);rintro e w4 ⟨rfl,bH⟩;obtain⟨g',c',w5,bt,zD,bJ⟩:=zB.O w4 bH;clear bH)
    |fail
   exact⟨⟨j+1,ag,by simp,_,_,rfl,zD,bJ⟩,by simp[intOf];omega⟩
  ·obtain rfl:j=xs.length:=ag
   have ng:(lN xs).length=xs.length:=by simp[lN]
   obtain⟨g2,rfl⟩:∃g2,q=some ⟨g2,0,none⟩:=by
    rcases ay ax.O with⟨_,h,_⟩|⟨g2,_,h,_⟩
    ·omega
    ·exact⟨g2,h⟩
   have C6:rl wr (zp g2) (lN xs):=by
    have:=ax.O
    rw[List.take_of_length_le ag]at this
    exact vi this
   have hj:=DW (w:=wr) k' C6 ag Vs.O
   rw[ng]at hj
   have HJ:=af hj
   clear C6 hj ng
   have Zx:=af ((hB.O.block _ (aX Qn.O).1).T Qn.O)
   go_wp2_with first
    |((with_reducible refine HJ.O.mono ?_);rintro e w6 ⟨rfl,fD⟩;have hy:=(fD.block _ (aX Zx.O).1).T Zx.O;obtain⟨x0,x1,x2,x3,x4,x5⟩:=jO hy;obtain⟨f0,f1,f2,f3,f4,f5⟩:=so hy;have HYY:=af hy;clear hy)
    |fail
   refine bodyPost_ret (v:=.tuple #[fX ((lN xs).sum:Nat),.int .i64 0]) ?_ (by rfl) ⟨rfl,((bA.O.T (hB.O.mono bA.O.size)).T (fD.mono (Nat.le_trans bA.O.size hB.O.size))).T (kS (Nat.le_succ _))⟩
   obtain⟨s0,s1,s2,s3,s4,s5⟩:=jO (Nr (v0:=.int .i64 ((lN xs).sum:Nat)) (v1:=.int .i64 0) (v2:=.int .i64 0) (v3:=.int .u64 0) (v4:=.int .i64 0) (v5:=.int .i64 0) HYY.O)
   rw[results_cell_tmp rfl]
   go_simp
theorem DX{xs:List aw}(c:Nat)(h:gT w a xs)(ho:dt xs)(b:Option Addr)(d:Nat)(x:aw)(hx:xs[0]? =some x):
 Calls Tryz.prog 102 (Gi (.agg (qU b 0 d a xs.length c))) w λ e w'=>e= .returned (.tuple (BH x.ka x.key.length x.kc))/\Below w w w':=by
 have xA:=ho.DR
 have hlen:=ho.kT
 have DV:= λ (w2:World) (hb:Below w w w2)=>oX c (h.below hb) ho b d
 have hP:= λ (w2:World) (hb:Below w w w2)=>lM c (h.below hb) ag b 0 d
 have HC:=af DV
 have HP:=af hP
 have HX:=af hx
 have ei:Hid (Below w w (w.alloc (.cells (qU b 0 d a xs.length c) 169))):=af (by go_grown)
 have zv:(0:Int)<(xs.length:Int):=ag
 have abS:0<xs.length:=ag
 clear h DV hP ho hx
 go_enter Tryz.func102,Tryz.ntmps102
 go_wp2_with first
  |((with_reducible refine(HC.O _ ei.O).mono ?_);rintro e w2 ⟨rfl,aC⟩;have bR:=af (ei.O.T (aC.mono ei.O.size));obtain⟨n0,n1,n2⟩:=sD aC;clear aC)
  |((with_reducible refine(HP.O _ bR.O).mono ?_);rintro e w3 ⟨p,k,rfl,ax,aL⟩;obtain⟨g,rfl⟩:∃g,p=some ⟨g,0,none⟩:=(by rcases ay ax with⟨_,h,_⟩|⟨g,_,rfl,_⟩<;>first|omega|exact⟨_,rfl⟩);have bq:w3.cell? (za g 0)=some (jW x):=fh ax 0 _ (by simp[HX.O]);have bA:=af (bR.O.T (aL.mono bR.O.size));unfold jW aw.v at bq;clear aL ax n0 n1 n2)
  |((with_reducible refine(ui _ _ _ _ _ _).mono ?_);rintro e w4 ⟨rfl,bH⟩)
  |fail
 go_ret2
 exact⟨rfl,bA.O.T (bH.mono bA.O.size)⟩
theorem GH{xs:List aw}(c:Nat)(h:gT w a xs)(ho:dt xs)(b:Option Addr)(d:Nat)(qp:(List.map aw.count xs).sum<=1073741824):
 Calls Tryz.prog 103 (Gi (.agg (qU b 0 d a xs.length c))) w λ e w'=>e= .returned (.tuple #[fX ((List.map aw.count xs).sum:Nat),.int .i64 0])/\Below w w w':=by
 have xA:=ho.DR
 have hlen:=ho.kT
 have DV:= λ (w2:World) (hb:Below w w w2)=>oX c (h.below hb) ho b d
 have hP:= λ (w2:World) (hb:Below w w w2)=>lM c (h.below hb) ag b 0 d
 have HC:=af DV
 have HP:=af hP
 have Vs:=af qp
 have ei:Hid (Below w w ((w.alloc (.cells (qU b 0 d a xs.length c) 169)).alloc (.cells BI 39))):=af (by go_grown)
 clear h DV hP ho qp
 go_enter Tryz.func103,Tryz.ntmps103
 go_wp2_with first
  |((with_reducible refine(HC.O _ ei.O).mono ?_);rintro e w2 ⟨rfl,aC⟩;have bR:=af (ei.O.T (aC.mono ei.O.size));obtain⟨y0,y1⟩:=aS aC;have n0:w2.cell? (za w 0)=_:=aa y0 0;have n1:w2.cell? (za w 1)=_:=aa y0 1;have n2:w2.cell? (za w 2)=_:=aa y0 2;simp only[aD]at n0 n1 n2;have HY:=af y1;clear aC y0 y1)
  |((with_reducible refine(HP.O _ bR.O).mono ?_);rintro e w3 ⟨p,k,rfl,ax,aL⟩;have bA:=af (bR.O.T (aL.mono bR.O.size));have HR:=af ax;have Qn:=af ((aL.block _ (aX HY.O).1).T HY.O);clear aL ax n0 n1 n2)
  |fail
 obtain⟨g,rfl⟩:∃g,p=some ⟨g,0,none⟩:=by
  rcases ay HR.O with⟨_,h,_⟩|⟨g,_,rfl,_⟩
  ·omega
  ·exact⟨g,rfl⟩
 go_loopw [7,23] (λ rv iv wr=>∃j:Nat,j<=xs.length/\iv= .int .i64 (j:Int)/\∃q k',rv= .slice q j k'/\Hid (wr.ownsRow w3 39 6 (.slice q j k') j (fj ((List.map aw.count xs).take j)))/\Hid (Below w3 w3 wr)) (λ _ iv _=>xs.length - (intOf iv).toNat)
 case atStart=>exact⟨0,Nat.zero_le _,rfl,none,0,rfl,af ⟨by simp[fj],.inl ⟨rfl,rfl⟩⟩,af (dp)⟩
 case round=>
  obtain⟨j,hj,rfl,q,k',rfl,ax,hB⟩:=hrel
  by_cases bg:j<xs.length
  ·obtain⟨x,hx⟩:∃x,xs[j]? =some x:=⟨xs[j],by simp[bg]⟩
   have bq:wr.cell? ⟨g,j,none⟩=some (jW x):=carry hB.O (fh HR.O j _ (by simp[hx]))
   have HSU:Hid ((List.map aw.count xs).take (j+1)=(List.map aw.count xs).take j++[x.count]):=af (by rw[List.take_add_one];simp[hx])
   have gy:(j:Int)<(xs.length:Int):=ag
   have rj:(j:Int)<=6:=ag
   have zB:Hid (∀w4,Below wr wr w4->∃g' c' w5,(Builtin.append_ #[256,256] 256 (jF q j k' (zp w4) 1 1)).run Tryz.prog (w4.alloc (.cells (qT x.count) 39))= .ok (.slice (zp g') (j+1) c') w5/\Hid (w5.ownsRow w3 39 6 (.slice (zp g') (j+1) c') (j+1) (fj ((List.map aw.count xs).take (j+1))))/\Hid (Below w3 w3 w5)):=af λ w4 bH=>by
    obtain⟨g',c',w5,bt,zD,bJ,_,_,_⟩:=fM (P:=Tryz.prog) 256 39 (fX 0) 6 48 aO Tryz.Jb rfl bd (W:=w4) (n₀:=w3.heap.size) (qT x.count) rfl (by simp[Value.oneCell']) (bO.row (n₀:=w3.heap.size) bH ax.O) ag ag (Nat.le_trans hB.O.size bH.size)
    refine⟨g',c',w5,bt,af ?_,af ((hB.O.T (bH.mono hB.O.size)).T bJ)⟩
    rw[HSU.O]
    simpa[fj,vX]using zD
   unfold jW aw.v at bq
   clear hx
   go_wp2_with first
    |((with_reducible refine(xz _ _ _ _ _ _).mono ?_);rintro e w4 ⟨rfl,bH⟩;obtain⟨g',c',w5,bt,zD,bJ⟩:=zB.O w4 bH;clear bH)
    |fail
   exact⟨⟨j+1,ag,by simp,_,_,rfl,zD,bJ⟩,by simp[intOf];omega⟩
  ·obtain rfl:j=xs.length:=ag
   have ng:(List.map aw.count xs).length=xs.length:=by simp
   obtain⟨g2,rfl⟩:∃g2,q=some ⟨g2,0,none⟩:=by
    rcases ay ax.O with⟨_,h,_⟩|⟨g2,_,h,_⟩
    ·omega
    ·exact⟨g2,h⟩
   have C6:rl wr (zp g2) (List.map aw.count xs):=by
    have:=ax.O
    rw[List.take_of_length_le ag]at this
    exact vi this
   have hj:=DW (w:=wr) k' C6 ag Vs.O
   rw[ng]at hj
   have HJ:=af hj
   clear C6 hj ng
   have Zx:=af ((hB.O.block _ (aX Qn.O).1).T Qn.O)
   go_wp2_with first
    |((with_reducible refine HJ.O.mono ?_);rintro e w6 ⟨rfl,fD⟩;have hy:=(fD.block _ (aX Zx.O).1).T Zx.O;obtain⟨x0,x1,x2,x3,x4,x5⟩:=jO hy;obtain⟨f0,f1,f2,f3,f4,f5⟩:=so hy;have HYY:=af hy;clear hy)
    |fail
   refine bodyPost_ret (v:=.tuple #[fX ((List.map aw.count xs).sum:Nat),.int .i64 0]) ?_ (by rfl) ⟨rfl,((bA.O.T (hB.O.mono bA.O.size)).T (fD.mono (Nat.le_trans bA.O.size hB.O.size))).T (kS (Nat.le_succ _))⟩
   obtain⟨s0,s1,s2,s3,s4,s5⟩:=jO (Nr (v0:=.int .i64 ((List.map aw.count xs).sum:Nat)) (v1:=.int .i64 0) (v2:=.int .i64 0) (v3:=.int .u64 0) (v4:=.int .i64 0) (v5:=.int .i64 0) HYY.O)
   rw[results_cell_tmp rfl]
   go_simp
structure bm(R:Nat)(W W':World):Prop where
 os:W'.os=W.os
 tape:W'.tape=W.tape
 output:W'.output=W.output
 size:W.heap.size<=W'.heap.size
 block:∀k,k<W.heap.size->k≠R->W'.heap[k]? =W.heap[k]?
theorem bm.refl(R:Nat)(W:World):bm R W W:=⟨rfl,rfl,rfl,aW, λ _ _ _=>rfl⟩
theorem bm.T{R:Nat}{U V W:World}(h:bm R U V)(k:bm R V W):bm R U W:=⟨k.os.T h.os,k.tape.T h.tape,k.output.T h.output,Nat.le_trans h.size k.size, λ i hi hr=>(k.block i (Nat.lt_of_lt_of_le hi h.size) hr).T (h.block i hi hr)⟩
theorem bm.set(W:World)(o:Nat)(v:Value):bm R W (W.setCell ⟨R,o,none⟩ v):=⟨rfl,rfl,rfl,by simp[World.setCell], λ k _ hk=>Below.heap_setCell _ _ _ _ hk⟩
theorem bm.aA(h:Below W W W'):bm R W W':=⟨h.os,h.tape,h.output,h.size, λ k hk _=>h.block k hk⟩
theorem bm.below{n:Nat}(h:bm R W W')(hn:n<=R)(hw:n<=W.heap.size):Below n W W':=⟨h.os,h.tape,h.output,h.size, λ k hk=>h.block k ag ag⟩
theorem bm.same(h:Boxed W K t v):bm R W (W.setCell (za K 0) v):=
 ⟨rfl,rfl,rfl,by simp[World.setCell], λ k _ _=>by
  by_cases hk:k=K
  ·subst hk;exact(Boxed.set v h).T h.symm
  ·exact Below.heap_setCell _ _ _ _ hk⟩
theorem bm.boxed(h:bm R W W')(hb:Boxed W B t v)(bS:B≠R):Boxed W' B t v:=(h.block B hb.lt bS).T hb
theorem bm.bytes{xs:List Nat}(h:bm R W W')(hR:Boxed W R t v)(hv:∀x:Nat,v≠.int .u8 (x:Int))(hb:ai W a xs):ai W' a xs:=by
 refine⟨hb.1,?_⟩
 rcases hb.2 with h0|⟨C,o,ha,hc⟩
 ·exact .inl h0
 ·refine .inr ⟨C,o,ha, λ j x hx=>?_⟩
  have bq:=hc j x hx
  have bS:C≠R:=by
   rintro rfl
   rw[World.cell?]at bq
   rw[show W.heap[C]? =_ from hR]at bq
   simp only at bq
   rcases Nat.eq_zero_or_pos (o+j)with h0|h0
   ·rw[h0]at bq;simp at bq;exact hv x bq
   ·obtain⟨m,hm⟩:∃m,o+j=m+1:=⟨o+j - 1,ag⟩
    rw[hm]at bq;simp at bq
  exact(World.cell?_of_block (w:=W) (h.block C (World.block_lt_of_cell? W _ bq) bS)).T bq
structure Vw where
 w:World
 z:Nat
def cE(V:Vw)(a:Option Addr)(xs:List Nat):Prop:=ai V.w a xs/\∀p,a=some p->p.block=V.z
theorem cE.take{V:Vw}{a:Option Addr}{xs:List Nat}(h:cE V a xs)(n:Nat):cE V a (xs.take n):=⟨h.1.take n,h.2⟩
theorem cE.drop{V:Vw}{B o:Nat}{xs:List Nat}(h:cE V (some ⟨B,o,none⟩) xs)(n:Nat):cE V (some ⟨B,o+n,none⟩) (xs.drop n):=⟨h.1.drop n, λ p e=>by cases e;exact h.2 ⟨B,o,none⟩ rfl⟩
theorem cE.nil{V:Vw}{a b:Option Addr}{xs:List Nat}(h:cE V a xs)(hb:b=a):cE V b []:=⟨ai.nil _ _,by subst hb;exact h.2⟩
theorem cE.below{V:Vw}{W:World}{a:Option Addr}{xs:List Nat}(h:cE V a xs)(hb:Below V.w.heap.size V.w W):ai W a xs:=h.1.below hb
def dA(V:Vw)(W:World)(R:Nat)(xs:List Nat):Prop:=∃B o c,Boxed W R 34 (.slice (some ⟨B,o,none⟩) xs.length c)/\xs.length<=c/\ai W (some ⟨B,o,none⟩) xs/\cE V (some ⟨B,o,none⟩) xs
theorem dA.only{Q:Nat}{V:Vw}{xs:List Nat}(hr:dA V W R xs)(h:bm Q W W')(hQ:Boxed W Q t v)(hv:∀x:Nat,v≠.int .u8 (x:Int))(bS:R≠Q):dA V W' R xs:=by
 obtain⟨B,o,c,h1,h2,h3,h4⟩:=hr
 exact⟨B,o,c,h.boxed h1 bS,h2,h.bytes hQ hv h3,h4⟩
theorem dA.below{R:Nat}{V:Vw}{W W':World}{xs:List Nat}(hr:dA V W R xs)(h:Below W W W'):dA V W' R xs:=by
 obtain⟨B,o,c,h1,h2,h3,h4⟩:=hr
 exact⟨B,o,c,(h.block R h1.lt).T h1,h2,h3.below h,h4⟩
theorem DY{V:Vw}{xs:List Nat}(n:Nat)(hr:dA V w R xs)(hk:Boxed w K 4 (.bool true))(hn:n<=xs.length)(_:xs.length<=1000000):
 Calls Tryz.prog 161 (Yw n (zp K) (zp R)) w λ e w'=>∃a,e= .returned (.slice a n n)/\ai w' a (xs.take n)/\cE V a (xs.take n)/\dA V w' R (xs.drop n)/\bm R w w':=by
 obtain⟨B,o,c,ey,hc,eZ,Rw⟩:=hr
 have eP:=af Rw
 have mQ:=af ey
 have HK:=af hk
 have Vt:=af eZ
 have hRK:R≠K:=by rintro rfl;have:=ey.symm.T hk;simp at this
 have e1:=Boxed.cell ey
 have e2:=Boxed.frozen ey
 have e3:=Boxed.cell hk
 have e4:=Boxed.frozen hk
 have GI:Boxed (w.setCell (za K 0) (.bool true)) R 34 (.slice (some ⟨B,o,none⟩) xs.length c):=Boxed.other ey hRK _
 have oN:Boxed (w.setCell (za K 0) (.bool true)) K 4 (.bool true):=Boxed.set _ hk
 have f1:=Boxed.cell GI
 have f2:=Boxed.frozen GI
 have f3:=Boxed.cell oN
 have Qm:=af GI
 clear ey hk GI oN eZ Rw
 go_enter Tryz.func161,Tryz.ntmps161
 go_wp2_with fail
 all_goals have H0:bm K w (w.setCell (za K 0) (.bool true)):=bm.set _ _ _
 all_goals have H0':bm R w (w.setCell (za K 0) (.bool true)):=bm.same HK.O
 case inl=>
  have hd:xs.drop n=[]:=List.drop_eq_nil_of_le ag
  refine bodyPost_ret (v:=.slice (some ⟨B,o,none⟩) n n) (by rw[results_tmp rfl];rfl) (by rfl) ⟨_,rfl,?_,eP.O.take n,⟨B,o,0,?_,by simp;omega,?_,by rw[hd];exact eP.O.nil rfl⟩,?_⟩
  ·exact((bm.set (R:=R) _ _ _).bytes Qm.O aR (H0.bytes HK.O aR Vt.O)).take n
  ·simpa using Boxed.set (.slice (some ⟨B,o,none⟩) (xs.length - n) 0) Qm.O
  ·rw[hd];exact ai.nil _ _
  ·exact H0'.T (bm.set _ _ _)
 case inr=>
  refine bodyPost_ret (v:=.slice (some ⟨B,o,none⟩) n n) (by rw[results_tmp rfl];rfl) (by rfl) ⟨_,rfl,?_,eP.O.take n,⟨B,o+n,c - n,?_,by simp;omega,?_,eP.O.drop n⟩,?_⟩
  ·exact((bm.set (R:=R) _ _ _).bytes Qm.O aR (H0.bytes HK.O aR Vt.O)).take n
  ·simpa using Boxed.set (.slice (some ⟨B,o+n,none⟩) (xs.length - n) (c - n)) Qm.O
  ·exact((bm.set (R:=R) _ _ _).bytes Qm.O aR (H0.bytes HK.O aR Vt.O)).drop n
  ·exact H0'.T (bm.set _ _ _)
def numOf(xs:List Nat):Nat:=xs.foldl (λ x c=>x*256+c) 0
theorem xE(xs:List Nat)(x:Nat):numOf (xs++[x])=numOf xs*256+x:=by simp[numOf]
theorem Ea:∀(k:Nat) (xs:List Nat),(∀x∈xs,x<256)->xs.length<=k->numOf xs<256^k:=by
 suffices h:∀(xs:List Nat),(∀x∈xs,x<256)->∀n m:Nat,n<256^m->xs.foldl (λ x c=>x*256+c) n<256^(m+xs.length)by
  intro k xs hx hl
  have:=h xs hx 0 0 bd
  rw[Nat.zero_add]at this
  exact Nat.lt_of_lt_of_le this (Nat.pow_le_pow_right bd hl)
 intro xs
 induction xs with
 |nil=>intro _ n m h;simpa using h
 |cons x xs ih=>
  intro hx n m h
  have I0:=hx x aR
  have:=ih (λ y hy=>hx y (by simp[hy])) (n*256+x) (m+1) (by rw[Nat.pow_succ];omega)
  rw[List.foldl_cons,List.length_cons,show m+(xs.length+1)=m+1+xs.length by omega]
  exact this
theorem or8(n x:Nat)(hn:n<72057594037927936)(hx:x<256):bits .or .u64 (IntKind.u64.wrap ((n:Int)*256)) (IntKind.u64.wrap (x:Int))=((n*256+x:Nat):Int):=by
 have h1:IntKind.u64.wrap ((n:Int)*256)=((n*256:Nat):Int):=by rw[IntKind.wrap_u64];omega
 have h2:IntKind.u64.wrap (x:Int)=(x:Int):=by rw[IntKind.wrap_u64];omega
 rw[h1,h2,u64_or_nat _ _ ag ag]
 congr 1
 have:=Nat.two_pow_add_eq_or_of_lt (i:=8) (b:=x) ag n
 rw[Nat.mul_comm n 256]
 exact this.symm
theorem Rx{V:Vw}{T:Nat}{xs:List Nat}(n:Nat)(hr:dA V w R xs)(hk:Boxed w K 4 (.bool true))(ht:Boxed w T 241 (.func (.func 161) #[] (iS (zp K) (zp R))))(hn:n<=8)(fu:n<=xs.length)(hl:xs.length<=1000000):
 Calls Tryz.prog 162 #[.int .i64 (n:Int),.pointer (zp T)] w λ e w'=>e= .returned (.int .u64 (numOf (xs.take n):Nat))/\dA V w' R (xs.drop n)/\bm R w w':=by
 have HT:=af (DY n hr hk fu hl)
 have e1:=Boxed.cell ht
 have e2:=Boxed.frozen ht
 clear hr hk ht
 go_enter Tryz.func162,Tryz.ntmps162
 go_wp2_with first
  |((with_reducible refine HT.O.mono ?_);rintro e w1 ⟨a,rfl,hb, -,hr,ho⟩;have HB:=af hb;have HR:=af hr;have HO:=af ho;clear hb hr ho)
  |fail
 have Re:(xs.take n).length=n:=bV
 obtain⟨ys,xF⟩:=aK (xs.take n)
 rw[<-xF]at HB Re
 have qJ:=af xF
 have qt:=HB.O.1
 have F8:=af qt
 clear xF qt
 go_loopw [3,10] (λ rv iv wr=>∃j:Nat,j<=n/\iv= .int .i64 (j:Int)/\rv= .int .u64 (numOf (ys.take j):Nat)/\w1=wr) (λ _ iv _=>n - (intOf iv).toNat)
 case atStart=>exact⟨0,Nat.zero_le _,rfl,rfl,rfl⟩
 case round=>
  obtain⟨j,hj,rfl,rfl,rfl⟩:=hrel
  by_cases bg:j<n
  ·obtain⟨x,hx⟩:∃x,ys[j]? =some x:=⟨ys[j],by simp[Re,bg]⟩
   obtain⟨C,o,rfl,hc⟩:∃C o,a=some ⟨C,o,none⟩/\w1.cell? (za C (o+j))=some (.int .u8 (x:Int)):=by
    rcases HB.O.2 with h0|⟨C,o,e,hc⟩
    ·rw[h0]at Re;simp at Re;omega
    ·exact⟨C,o,e,hc j x hx⟩
   have gy:(j:Int)<(n:Int):=ag
   have hj8:(j:Int)<=8:=ag
   have HX:=af hx
   clear hx
   go_wp2_with fail
   have Zy:=F8.O x (List.mem_of_getElem? HX.O)
   have Vu:numOf (ys.take j)<72057594037927936:=Ea 7 _ (λ y hy=>F8.O y (List.mem_of_mem_take hy)) bV
   exact⟨⟨j+1,ag,by simp,by rw[or8 _ _ Vu Zy,List.take_add_one,HX.O,Option.toList_some,xE],trivial⟩,by simp[intOf];omega⟩
  ·obtain rfl:j=n:=ag
   have adi:ys.take ys.length=ys:=List.take_length
   go_wp2_with fail
   go_ret
   exact⟨by rw[List.take_of_length_le ag,qJ.O];rfl,HR.O,HO.O⟩
end
end Go.Proofs.YtkgapncajjafoaaGreatDoor

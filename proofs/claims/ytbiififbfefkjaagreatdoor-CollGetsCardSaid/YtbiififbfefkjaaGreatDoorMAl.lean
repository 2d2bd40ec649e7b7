/- The store, part 12. -/
import Derived.Test.YtbiififbfefkjaaGreatDoorMAi
import Derived.Test.YtbiififbfefkjaaGreatDoorMAj
set_option linter.unusedSimpArgs false
set_option linter.unusedVariables false
set_option maxRecDepth 100000
set_option maxHeartbeats 16000000
namespace Go.Proofs.YtbiififbfefkjaaGreatDoor
open Go.RowKit Go.Shelf
variable{y:aH}{r:cF}{x:eH}{l:List eH}{i B q cc n₀ e sz k c k' bytes g lo d at_:Nat}{w W A W':World}{xs:List Value}{cs:Array Value}{ys:List a8}{TP TS:TypeId}{P:Program}{z:Value}{a s its sy:List KV}{all:List Nat}{p:Prop}
section
attribute [local go_sem] Oper.semAt_some
attribute [-go_sem] Builtin.append_
def uH(x:eH):aH:=⟨x.ka,x.key,x.kc,x.va,x.val,x.vc⟩
def ltK(y:aH)(x:eH):Bool:=decide (cmpL y.key x.key<0)
def uq(x:eH):List aH->List aH
 |[]=>[]
 |y::r=>if y.key=x.key then r else y::r
def dW:List aH->List eH->List aH
 |its,[]=>its
 |its,x::l=>its.takeWhile (ltK · x)++((if x.put then[uH x]else[])++dW (uq x (its.dropWhile (ltK · x))) l)
theorem WN{r:List aH}(h:ltK y x=true):dW (y::r) (x::l)=y::dW r (x::l):=by simp[dW,h]
theorem Ma{its:List aH}(h:∀y r,its=y::r->ltK y x=false):dW its (x::l)=(if x.put then[uH x]else[])++dW (uq x its) l:=by
 cases its with
 |nil=>simp[dW]
 |cons y r=>simp[dW,h y r rfl]
def afr:Value->Nat
 | .slice _ n _=>n
 |_=>0
theorem ph{β:Type}{xs:List β}{x:β}(h:xs[i]? =some x):xs.drop i=x::xs.drop (i+1):=by rw[bI (aC.1 h).1,(aC.1 h).2]
structure tN(w:World)(p:az)(cc:Nat)(its:List aH):Prop where
 row:cV aH.cells 4 w p its
 bytes:∀y∈its,ay w y.ka y.key/\ay w y.va y.val
 cap:its.length<=cc
 nil:p=none->cc=0
 plain:p=none\/∃B o,p=some ⟨B,o,none⟩
 small:its.length<=1000/\∀y∈its,y.key.length<=1000
theorem tN.next{r:List aH}(h:tN w (some ⟨B,q,none⟩) (cc+1) (y::r)):tN w (some ⟨B,q+4,none⟩) cc r where
 row:=h.row.drop 1
 bytes:= λ z hz=>h.bytes z (bM _ hz)
 cap:=by have:=h.cap;simp at this;exact this
 nil:= λ e=>by cases e
 plain:=.inr ⟨_,_,rfl⟩
 small:=⟨by have:=h.small.1;simp at this;omega, λ z hz=>h.small.2 z (bM _ hz)⟩
theorem tN.abd{r:List aH}(h:tN w (some ⟨B,q,none⟩) (cc+1) (y::r)):tN w (if cc=0 then some ⟨B,q,none⟩else some ⟨B,q+4,none⟩) cc r:=by
 by_cases h0:cc=0
 ·subst h0;have hc:=h.next.cap
  have:r=[]:=cw.1 an;subst this;rw[if_pos rfl];exact⟨.inl rfl, λ y hy=>(by cases hy),cH, λ e=>fS,.inr ⟨_,_,rfl⟩,by simp, λ y hy=>(by cases hy)⟩
 ·rw[if_neg h0];exact h.next
theorem FX{E:Nat}{a:az}{t:TypeId}{fz:Nat×Nat}(h:W.ownsRow n₀ e sz (.slice a k c) k xs)(hE:W.heap[E]? =some (.cells cs t fz))(Iq:t≠e):(Value.slice a k c).ownBlock≠some E:= λ he=>by
 rcases bg h with⟨rfl,_⟩|⟨g,cur,rfl,_,hg⟩
 ·simp[Value.ownBlock]at he
 ·obtain rfl:g=E:=by simpa[Value.ownBlock]using he
  rw[hE]at hg;injection hg with h5;injection h5 with _ h6 _;exact Iq h6
theorem mF:(Tryz.prog.info? 101).map (λ i=>(i.zero,i.size,i.bytes))=some (some (.agg oH),4,64):=bU
structure jf(w W:World)(q:az)(k k':Nat)(ys:List aH):Prop where
 base:Below w w W
 row:W.ownsRow w 101 4 (.slice q k k') k (ys.flatMap aH.cells)
 len:k=ys.length
theorem jf.drew{w W:World}{q:az}{k k':Nat}{ys:List aH}(h:jf w W q k k' ys):jf w W.drew q k k' ys:=⟨h.base.drew,h.row,h.len⟩
theorem FY:∀its:List aH,(its.flatMap aH.cells).length=its.length*4
 |[]=>rfl
 |y::r=>by rw[bf,ar,FY r,aK,jw,jt];rfl
theorem FZ(y:aH):∀u∈y.cells,u.oneCell'=true:=by intro u hu;simp only[aH.cells,aO,dn,or_false]at hu;rcases hu with rfl|rfl|rfl|rfl<;>rfl
theorem jf.put{q:az}{ys:List aH}(h:jf w W q k k' ys)(y:aH)(hk:k<=100000):
 ∃g' c' w',(Builtin.append_ #[91,91] 91 (fP q k k' (zp W) 1 1)).run Tryz.prog (W.alloc (.cells (il y.ka y.key.length y.kc y.va y.val.length y.vc) 101))= .ok (.slice (zp g') (k+1) c') w'/\jf w w' (zp g') (k+1) c' (ys++[y])/\
  ∀(E:Nat) (cs:Array Value) (t:TypeId),W.heap[E]? =some (.cells cs t)->t≠101->w'.heap[E]? =some (.cells cs t):=by
 obtain⟨g',c',w',eh,hr,hg⟩:=gR (P:=Tryz.prog) 91 101 (.agg oH) 4 64 bU mF rfl de y.cells rfl (FZ y) h.row an an h.base.size;refine⟨g',c',w',eh,⟨h.base.T hg.below,by simpa using hr,by rw[h.len];simp⟩, λ E cs t hE ht=>?_⟩;exact(hg.eG E (cS hE).1 (FX h.row hE ht)).T hE
theorem Np{a e:az}{xs:List aH}(ce:Nat)(hx:tN w a c xs)(hrx:cR (xs.map aH.key))(h:je w e l)(ho:∀x∈l,sZ x)(hr:cR (l.map eH.key))(hlen:l.length<=1000):
 Calls Tryz.prog 157 (fP a xs.length c e l.length ce) w λ e' w'=>∃a' c',e'= .returned (.tuple (Lz a' (dW xs l).length c'))/\w'.ownsRow w 101 4 (.slice a' (dW xs l).length c') (dW xs l).length ((dW xs l).flatMap aH.cells)/\Below w w w':=by
 have HC:=ag (Dn ce h ho hr hlen);have HE:=eS h ho hr;have HX:=dO hx hrx;have Ru:(l.length:Int)<=1000:=an;have hxl:=hx.small.1;have ai5:(xs.length:Int)<=1000:=an;clear h ho hr hx hrx;go_enter Tryz.func157,Tryz.ntmps157
 go_wp2_with first
  |((with_reducible refine HC.O.mono ?_);rintro e' w2 ⟨rfl,bG⟩;have eJ:=ag bG;clear bG)
  |fail
 go_loopw [18] (λ iv wr=>∃i:Nat,i<=xs.length/\iv= .int .i64 (i:Int)/\Hid (Below w w wr)) (λ iv _=>xs.length - (intOf iv).toNat)
 case atStart=>exact⟨0,an,rfl,ag eJ.O⟩
 case round=>
  obtain⟨i,hi,rfl,hw⟩:=hrel;by_cases cL:i<xs.length
  ·obtain⟨x,hx⟩:∃x,xs[i]? =some x:=⟨xs[i],by simp[cL]⟩;obtain⟨B,o,rfl⟩:=HX.O.1.row.some_ an;have hgx:wr.cell? ⟨B,o+i*4,none⟩=some (.slice x.ka x.key.length x.kc):=carry hw.O ((HX.O.1.row.get hx) 0 _ rfl);have mn:(i:Int)<(xs.length:Int):=an;have zP:(i:Int)<=1000:=an;by_cases h0:i=0
   ·subst h0;clear hgx hx
    go_wp2_with fail
    refine bP 17 ?_;refine Ra [(0,true),(1,true),(2,true),(3,false),(4,false),(5,false),(6,false),(7,false),(8,false),(9,false),(10,false),(11,false),(12,false),(13,false)] ?_
    iterate 3 refine tO ?_
    iterate 11 refine tF ?_
    refine au 3 rfl ?_;refine sP 14 [0,1,2,3,4,5,6,7,8,9,10,11,12,13] λ K hK=>?_;go_simp;refine nP hK ?_;clear hK K;refine Ra [(15,false),(16,true)] ?_
    iterate 1 refine tF ?_
    refine tO ?_;refine au 0 rfl ?_;refine dP ?_;go_simp
    go_wp2_with fail
    exact⟨⟨1,an,rfl,ag hw.O.drew⟩,by simp[intOf];omega⟩
   ·obtain⟨m,rfl⟩:∃m,i=m+1:=⟨i - 1,an⟩;obtain⟨y,hy⟩:∃y,xs[m]? =some y:=⟨xs[m]'an,by simp<;>omega⟩;have hgy:wr.cell? ⟨B,o+m*4,none⟩=some (.slice y.ka y.key.length y.kc):=carry hw.O ((HX.O.1.row.get hy) 0 _ rfl);have zH:(0:Int)<=(m:Int)+1:=an;have AH:cmpL y.key x.key= -1:=HX.O.2 m _ _ kj jz;have LO:Hid (Calls Tryz.prog 156 (fP y.ka y.key.length y.kc x.ka x.key.length x.kc) wr.drew λ e w'=>e= .returned (.bool true)/\w'=wr.drew):=ag (by
     refine(AX y.kc x.kc ((HX.O.1.bytes y (ak hy)).1.below hw.O.drew) ((HX.O.1.bytes x (ak hx)).1.below hw.O.drew) (cm (HX.O.1.small.2 y (ak hy)))).mono ?_;rintro e w' ⟨rfl,rfl⟩;rw[AH];exact⟨rfl,rfl⟩)
    have Mg:(0:Int)<(m:Int)+1:=an;have SC:IntKind.i64.wrap (m:Int)=(m:Int):=by rw[aI];omega
    have hm3:(m:Int)<(xs.length:Int):=an;clear AH hy hx
    go_wp2_with fail
    refine bP 17 ?_;refine tP [0,1,2,3,4,5,6,7,8,9,10,11,12,13] ?_
    iterate 14 refine tO ?_
    refine au 3 rfl ?_;refine sP 14 [0,1,2,3,4,5,6,7,8,9,10,11,12,13] λ K hK=>?_;go_simp;(with_reducible refine LO.O.mono ?_);rintro e w4 ⟨rfl,kd⟩;rw[kd];clear kd w4;refine nP hK ?_;clear hK K;refine tP [15,16] ?_
    iterate 2 refine tO ?_
    refine au 0 rfl ?_;refine dP ?_;go_simp
    go_wp2_with fail
    exact⟨⟨m+2,an,by simp;omega,ag hw.O.drew⟩,by simp[intOf];omega⟩
  ·obtain rfl:i=xs.length:=an
   go_wp2_with fail
   go_loopw [0,8,41] (λ tv ov iv wr=>∃(j:Nat) (p:az) (m cc:Nat) (its:List aH) (q:az) (k k':Nat) (ys:List aH),j<=l.length/\iv= .int .i64 (j:Int)/\tv= .slice p m cc/\Hid (m=its.length)/\ov= .slice q k k'/\Hid (tN w p cc its)/\Hid (jf w wr q k k' ys)/\Hid (ys++dW its (l.drop j)=dW xs l)/\Hid (k+m<=1000+j)) (λ _ _ iv _=>l.length - (intOf iv).toNat)
   case atStart=>exact⟨0,_,_,_,xs,none,0,0,[],an,rfl,rfl,ag rfl,rfl,ag HX.O.1,ag ⟨hw.O,dA _ _ _ _,rfl⟩,ag rfl,ag an⟩
   case round=>
    obtain⟨j,p,m,cc,its,q,k,k',ys,hj,rfl,rfl,hm,rfl,hF,hD,hE,hk⟩:=hrel;by_cases cL:j<l.length
    ·obtain⟨x,hx⟩:∃x,l[j]? =some x:=⟨l[j],by simp[cL]⟩;obtain⟨B,o,rfl⟩:=HE.O.1.1.some_ an;have hg:wr.rangeAt B (o+j*5) (vq x.ka x.key.length x.kc x.put x.va x.val.length x.vc):=(HE.O.1.below hD.O.base).1.get hx;have mn:(j:Int)<(l.length:Int):=an;have zP:(j:Int)<=1000:=an;have HT:=dO hx (ph hx);have hn:(wr.alloc (.cells (vq x.ka x.key.length x.kc x.put x.va x.val.length x.vc) 174)).heap[wr.heap.size]? =some (.cells (vq x.ka x.key.length x.kc x.put x.va x.val.length x.vc) 174):=ai _ _;have hD1:Hid (jf w (wr.alloc (.cells (vq x.ka x.key.length x.kc x.put x.va x.val.length x.vc) 174)) q k k' ys):=ag ⟨hD.O.base.alloc hD.O.base.size _,hD.O.row.alloc _,hD.O.len⟩;have HN:=ag hn;clear hn hx cL
     go_wp2_with first
     |(refine dG 174 ?_)
     |(refine mf 174 rfl _ _ rfl _ _ _ rfl cP rfl rfl bU bz ?_)
     |fail
     obtain⟨E,hEq⟩:=bL wr.heap.size;rw[<-hEq];rw[<-hEq]at HN;clear hEq
     go_loopw [0,8] (λ tv ov wq=>∃(p:az) (m cc:Nat) (its:List aH) (q:az) (k k':Nat) (ys:List aH),tv= .slice p m cc/\Hid (m=its.length)/\ov= .slice q k k'/\Hid (tN w p cc its)/\Hid (jf w wq q k k' ys)/\Hid (ys++dW its (l.drop j)=dW xs l)/\Hid (k+m<=1000+j)/\Hid (wq.heap[E]? =some (.cells (vq x.ka x.key.length x.kc x.put x.va x.val.length x.vc) 174))) (λ tv _ _=>afr tv)
     case atStart=>exact⟨_,_,_,its,_,_,_,ys,rfl,hm,rfl,hF,hD1,hE,hk,HN⟩
     case round=>
      clear hF hD hD1 hE hk HN hm;obtain⟨p,m,cc,its,q,k,k',ys,rfl,hm,rfl,hF,hD,hE,hk,hN⟩:=hrel;have d0:wr.cell? (za E 0)=some (.slice x.ka x.key.length x.kc):=(af hN.O 0).T rfl;cases its with
      |nil=>
       obtain rfl:m=0:=hm.O;clear d0
       go_wp2_with fail
       refine bP 12 ?_;refine Ra [(0,true),(1,true),(2,true),(3,true),(4,false),(5,false),(6,false),(7,false),(8,false),(9,false)] ?_
       iterate 4 refine tO ?_
       iterate 6 refine tF ?_
       refine au 2 rfl ?_;refine sP 10 [0,1,2,3,4,5,6,7,8,9] λ K hK=>?_;go_simp;refine nP hK ?_;clear hK K;refine tP [11] ?_;refine tO ?_;refine au 0 rfl ?_;refine dP ?_;go_simp
       go_wp2_with fail
       refine bP 12 ?_;refine Ra [(0,true),(1,true),(2,true),(3,true),(4,false),(5,false),(6,false),(7,false),(8,false),(9,false)] ?_
       iterate 4 refine tO ?_
       iterate 6 refine tF ?_
       refine au 2 rfl ?_;refine sP 10 [0,1,2,3,4,5,6,7,8,9] λ K hK=>?_;go_simp;refine nP hK ?_;clear hK K;refine tP [11] ?_;refine tO ?_;refine au 0 rfl ?_;refine dP ?_;go_simp;have vJ:Hid (tN w p cc (([]:List aH))):=ag hF.O;have wP:Hid (0=(([]:List aH)).length):=ag rfl;have Nf:Hid (k+0<=1000+j):=ag zw;have HDE:Hid (ys++((if x.put then[uH x]else[])++dW (([]:List aH)) (l.drop (j+1)))=dW xs l):=ag (by rw[<-hE.O,HT.O.2,Ma (by intro y r e;cases e)];rfl);have s1:wr.cell? (za E 1)=some (.bool x.put):=(af hN.O 1).T rfl;have PM:IntKind.i64.wrap ((j:Int)+1)=(j:Int)+1:=by rw[aI];omega
       rcases pH:x.put with _|_
       ·rw[pH]at s1;have Cy:Hid (ys++dW (([]:List aH)) (l.drop (j+1))=dW xs l):=ag oX;have Ti:=ag ((jf.drew (jf.drew hD.O)));clear pH
        go_wp2_with fail
        refine⟨⟨j+1,_,_,_,([]:List aH),_,_,_,ys,an,by simp,rfl,wP,rfl,vJ,Ti,Cy,ag (cm Nf.O)⟩,by simp[intOf];omega⟩
       ·rw[pH]at s1;have s0:wr.cell? (za E 0)=some (.slice x.ka x.key.length x.kc):=(af hN.O 0).T rfl;have s2:wr.cell? (za E 2)=some (.slice x.va x.val.length x.vc):=(af hN.O 2).T rfl;have s3:wr.cell? (za E 3)=some (.bool false):=(af hN.O 3).T rfl;have s4:wr.cell? (za E 4)=some (.int .i64 0):=(af hN.O 4).T rfl;obtain⟨g',c',w',eh,WO, -⟩:∃g' c' w',(Builtin.append_ #[91,91] 91 (fP q k k' (zp wr) 1 1)).run Tryz.prog (wr.alloc (.cells (il x.ka x.key.length x.kc x.va x.val.length x.vc) 101)).drew.drew= .ok (.slice (zp g') (k+1) c') w'/\jf w w' (zp g') (k+1) c' (ys++[uH x])/\True:=(let⟨a1,a2,a3,a4,a5,_⟩:=jf.put ((jf.drew (jf.drew hD.O))) (uH x) (cm Nf.O);⟨a1,a2,a3,a4,a5,trivial⟩);have Cy:Hid ((ys++[uH x])++dW (([]:List aH)) (l.drop (j+1))=dW xs l):=ag oX;have Ti:=ag WO;clear pH WO
        go_wp2_with fail
        refine⟨⟨j+1,_,_,_,([]:List aH),_,_,_,ys++[uH x],an,by simp,rfl,wP,rfl,vJ,Ti,Cy,ag (cm Nf.O)⟩,by simp[intOf];omega⟩
      |cons y r=>
       obtain⟨m',rfl⟩:∃m',m=m'+1:=⟨r.length,hm.O⟩;obtain⟨cc',rfl⟩:∃cc',cc=cc'+1:=⟨cc - 1,by have:=hF.O.cap;simp at this;omega⟩;obtain⟨B2,o2,rfl⟩:=hF.O.row.some_ cP;have y0:wr.cell? ⟨B2,o2,none⟩=some (.slice y.ka y.key.length y.kc):=by have:=hF.O.row.get (j:=0) rfl 0 _ rfl;simp only[cY,bb]at this;exact carry hD.O.base this
       have y1:wr.cell? (za B2 (o2+1))=some (.slice y.va y.val.length y.vc):=by have:=hF.O.row.get (j:=0) rfl 1 _ rfl;simp only[cY,bb]at this;exact carry hD.O.base this
       have y2:wr.cell? (za B2 (o2+2))=some (.bool false):=by have:=hF.O.row.get (j:=0) rfl 2 _ rfl;simp only[cY,bb]at this;exact carry hD.O.base this
       have y3:wr.cell? (za B2 (o2+3))=some (.int .i64 0):=by have:=hF.O.row.get (j:=0) rfl 3 _ rfl;simp only[cY,bb]at this;exact carry hD.O.base this
       have Wm:=hF.O.small.2 y bD;have LO:Hid (Calls Tryz.prog 156 (fP y.ka y.key.length y.kc x.ka x.key.length x.kc) wr.drew λ e w'=>e= .returned (.bool (ltK y x))/\w'=wr.drew):=ag (AX y.kc x.kc ((hF.O.bytes y bD).1.below hD.O.base.drew) ((HE.O.1.2 x (ak HT.O.1)).1.below hD.O.base.drew) an);have HQS:Hid (Calls Tryz.prog 192 (fP y.ka y.key.length y.kc x.ka x.key.length x.kc) wr.drew.drew λ e w'=>e= .returned (.bool (decide (y.key=x.key)))/\Below wr.drew.drew.heap.size wr.drew.drew w'):=ag (Aa y.kc x.kc ((hF.O.bytes y bD).1.below hD.O.base.drew.drew) ((HE.O.1.2 x (ak HT.O.1)).1.below hD.O.base.drew.drew) an);have hp:(0:Int)<(m':Int)+1:=an;have hp1:(1:Int)<=(m':Int)+1:=an;clear Wm;rcases cL:ltK y x with _|_
       ·rw[cL]at LO
        go_wp2_with fail
        refine bP 12 ?_;refine tP [0,1,2,3,4,5,6,7,8,9] ?_
        iterate 10 refine tO ?_
        refine au 2 rfl ?_;refine sP 10 [0,1,2,3,4,5,6,7,8,9] λ K hK=>?_;go_simp;(with_reducible refine LO.O.mono ?_);rintro e w4 ⟨rfl,kd⟩;rw[kd];clear kd w4;refine nP hK ?_;clear hK K;refine tP [11] ?_;refine tO ?_;refine au 0 rfl ?_;refine dP ?_;go_simp
        go_wp2_with fail
        by_cases gN:y.key=x.key
        ·have hkd:decide (y.key=x.key)=true:=by simp[gN]
         rw[hkd]at HQS;have ae5:=ag gN;clear gN hkd;refine bP 12 ?_;refine tP [0,1,2,3,4,5,6,7,8,9] ?_
         iterate 10 refine tO ?_
         refine au 2 rfl ?_;refine sP 10 [0,1,2,3,4,5,6,7,8,9] λ K hK=>?_;go_simp;(with_reducible refine HQS.O.mono ?_);rintro e V ⟨rfl,pg⟩;have jG:=ag pg;clear pg;refine nP hK ?_;clear hK K;refine tP [11] ?_;refine tO ?_;refine au 0 rfl ?_;refine dP ?_;go_simp;have hDV:jf w V q k k' ys:=⟨(hD.O.base.drew.drew).T (jG.O.mono hD.O.base.size),dC.row (w:=wr.drew.drew) (n₀:=w.heap.size) jG.O hD.O.row,hD.O.len⟩;have WQ:V.heap[E]? =some (.cells (vq x.ka x.key.length x.kc x.put x.va x.val.length x.vc) 174):=(jG.O.block E (cS hN.O).1).T hN.O;have vJ:Hid (tN w (if cc'=0 then some ⟨B2,o2,none⟩else some ⟨B2,o2+4,none⟩) cc' (r)):=ag hF.O.abd;have wP:Hid (m'=(r).length):=ag (by have:=hm.O;simp at this;omega);have Nf:Hid (k+m'<=1000+j):=ag zw;have HDE:Hid (ys++((if x.put then[uH x]else[])++dW (r) (l.drop (j+1)))=dW xs l):=ag EN;have s1:V.cell? (za E 1)=some (.bool x.put):=(af WQ 1).T rfl;have PM:IntKind.i64.wrap ((j:Int)+1)=(j:Int)+1:=by rw[aI];omega
         rcases pH:x.put with _|_
         ·rw[pH]at s1;have Cy:Hid (ys++dW (r) (l.drop (j+1))=dW xs l):=ag oX;have Ti:=ag (hDV);clear pH
          go_wp2_with fail
          refine⟨⟨j+1,_,_,_,r,_,_,_,ys,an,by simp,rfl,wP,rfl,vJ,Ti,Cy,ag (cm Nf.O)⟩,by simp[intOf];omega⟩
         ·rw[pH]at s1;have s0:V.cell? (za E 0)=some (.slice x.ka x.key.length x.kc):=(af WQ 0).T rfl;have s2:V.cell? (za E 2)=some (.slice x.va x.val.length x.vc):=(af WQ 2).T rfl;have s3:V.cell? (za E 3)=some (.bool false):=(af WQ 3).T rfl;have s4:V.cell? (za E 4)=some (.int .i64 0):=(af WQ 4).T rfl;obtain⟨g',c',w',eh,WO, -⟩:∃g' c' w',(Builtin.append_ #[91,91] 91 (fP q k k' (zp V) 1 1)).run Tryz.prog (V.alloc (.cells (il x.ka x.key.length x.kc x.va x.val.length x.vc) 101))= .ok (.slice (zp g') (k+1) c') w'/\jf w w' (zp g') (k+1) c' (ys++[uH x])/\True:=(let⟨a1,a2,a3,a4,a5,_⟩:=jf.put (hDV) (uH x) (cm Nf.O);⟨a1,a2,a3,a4,a5,trivial⟩);have Cy:Hid ((ys++[uH x])++dW (r) (l.drop (j+1))=dW xs l):=ag oX;have Ti:=ag WO;clear pH WO
          go_wp2_with fail
          refine⟨⟨j+1,_,_,_,r,_,_,_,ys++[uH x],an,by simp,rfl,wP,rfl,vJ,Ti,Cy,ag (cm Nf.O)⟩,by simp[intOf];omega⟩
        ·have hkd:decide (y.key=x.key)=false:=by simp[gN]
         rw[hkd]at HQS;have ae5:=ag gN;clear gN hkd;refine bP 12 ?_;refine tP [0,1,2,3,4,5,6,7,8,9] ?_
         iterate 10 refine tO ?_
         refine au 2 rfl ?_;refine sP 10 [0,1,2,3,4,5,6,7,8,9] λ K hK=>?_;go_simp;(with_reducible refine HQS.O.mono ?_);rintro e V ⟨rfl,pg⟩;have jG:=ag pg;clear pg;refine nP hK ?_;clear hK K;refine tP [11] ?_;refine tO ?_;refine au 0 rfl ?_;refine dP ?_;go_simp;have hDV:jf w V q k k' ys:=⟨(hD.O.base.drew.drew).T (jG.O.mono hD.O.base.size),dC.row (w:=wr.drew.drew) (n₀:=w.heap.size) jG.O hD.O.row,hD.O.len⟩;have WQ:V.heap[E]? =some (.cells (vq x.ka x.key.length x.kc x.put x.va x.val.length x.vc) 174):=(jG.O.block E (cS hN.O).1).T hN.O;have vJ:Hid (tN w (some ⟨B2,o2,none⟩) (cc'+1) (y::r)):=ag hF.O;have wP:Hid ((m'+1)=(y::r).length):=ag hm.O;have Nf:Hid (k+(m'+1)<=1000+j):=ag zw;have HDE:Hid (ys++((if x.put then[uH x]else[])++dW (y::r) (l.drop (j+1)))=dW xs l):=ag EN;have s1:V.cell? (za E 1)=some (.bool x.put):=(af WQ 1).T rfl;have PM:IntKind.i64.wrap ((j:Int)+1)=(j:Int)+1:=by rw[aI];omega
         rcases pH:x.put with _|_
         ·rw[pH]at s1;have Cy:Hid (ys++dW (y::r) (l.drop (j+1))=dW xs l):=ag oX;have Ti:=ag (hDV);clear pH
          go_wp2_with fail
          refine⟨⟨j+1,_,_,_,y::r,_,_,_,ys,an,by simp,rfl,wP,rfl,vJ,Ti,Cy,ag (cm Nf.O)⟩,by simp[intOf];omega⟩
         ·rw[pH]at s1;have s0:V.cell? (za E 0)=some (.slice x.ka x.key.length x.kc):=(af WQ 0).T rfl;have s2:V.cell? (za E 2)=some (.slice x.va x.val.length x.vc):=(af WQ 2).T rfl;have s3:V.cell? (za E 3)=some (.bool false):=(af WQ 3).T rfl;have s4:V.cell? (za E 4)=some (.int .i64 0):=(af WQ 4).T rfl;obtain⟨g',c',w',eh,WO, -⟩:∃g' c' w',(Builtin.append_ #[91,91] 91 (fP q k k' (zp V) 1 1)).run Tryz.prog (V.alloc (.cells (il x.ka x.key.length x.kc x.va x.val.length x.vc) 101))= .ok (.slice (zp g') (k+1) c') w'/\jf w w' (zp g') (k+1) c' (ys++[uH x])/\True:=(let⟨a1,a2,a3,a4,a5,_⟩:=jf.put (hDV) (uH x) (cm Nf.O);⟨a1,a2,a3,a4,a5,trivial⟩);have Cy:Hid ((ys++[uH x])++dW (y::r) (l.drop (j+1))=dW xs l):=ag oX;have Ti:=ag WO;clear pH WO
          go_wp2_with fail
          refine⟨⟨j+1,_,_,_,y::r,_,_,_,ys++[uH x],an,by simp,rfl,wP,rfl,vJ,Ti,Cy,ag (cm Nf.O)⟩,by simp[intOf];omega⟩
       ·rw[cL]at LO;obtain⟨g',c',w',eh,WO,hkp⟩:∃g' c' w',(Builtin.append_ #[91,91] 91 (fP q k k' (zp wr) 1 1)).run Tryz.prog (wr.alloc (.cells (il y.ka y.key.length y.kc y.va y.val.length y.vc) 101)).drew.drew= .ok (.slice (zp g') (k+1) c') w'/\jf w w' (zp g') (k+1) c' (ys++[y])/\∀(E:Nat) (cs:Array Value) (t:TypeId),wr.heap[E]? =some (.cells cs t)->t≠101->w'.heap[E]? =some (.cells cs t):=(jf.drew (jf.drew hD.O)).put y (cm hk.O);have Ti:=ag WO;have hNF:Hid (w'.heap[E]? =some (.cells (vq x.ka x.key.length x.kc x.put x.va x.val.length x.vc) 174)):=ag (hkp _ _ _ hN.O de);have Cy:Hid ((ys++[y])++dW r (l.drop j)=dW xs l):=ag (by rw[<-hE.O,HT.O.2,WN cL];simp);clear WO hkp cL
        go_wp2_with fail
        refine bP 12 ?_;refine tP [0,1,2,3,4,5,6,7,8,9] ?_
        iterate 10 refine tO ?_
        refine au 2 rfl ?_;refine sP 10 [0,1,2,3,4,5,6,7,8,9] λ K hK=>?_;go_simp;(with_reducible refine LO.O.mono ?_);rintro e w4 ⟨rfl,kd⟩;rw[kd];clear kd w4;refine nP hK ?_;clear hK K;refine tP [11] ?_;refine tO ?_;refine au 0 rfl ?_;refine dP ?_;go_simp
        go_wp2_with fail
        refine bP 10 ?_;refine tP [0,1,2,3,6,7] ?_
        iterate 6 refine tO ?_
        refine au 4 rfl ?_;refine sP 4 [1,2,3] λ K hK=>?_;go_simp;refine nP hK ?_;clear hK K;refine sP 5 [0,1,2,3,4] λ K hK=>?_;go_simp;refine nP hK ?_;clear hK K;refine tP [8,9] ?_
        iterate 2 refine tO ?_
        refine au 0 rfl ?_;refine dP ?_;go_simp
        go_wp2_with fail
        refine⟨⟨_,m',cc',r,_,_,_,ys++[y],rfl,ag (by have:=hm.O;simp at this;omega),rfl,ag hF.O.abd,Ti,Cy,ag (cm hk.O),hNF⟩,by simp[afr]⟩
    ·obtain rfl:j=l.length:=an;have mV:=hF.O.cap;have jN:=hF.O.small.1;have hE2:=hE.O;rw[dh (cH)]at hE2;have SZ:=hF.O.nil;obtain⟨a',c',w',eh,It,ti⟩:=mg (P:=Tryz.prog) 91 101 (.agg oH) 4 64 bU mF rfl de (W:=wr) (m:=m) (cc:=cc) (src:=p) (news:=its.flatMap aH.cells) (by rw[hm.O];exact FY its) (by rw[hm.O];exact(show cV aH.cells 4 wr p its from(hF.O.row.below hD.O.base)).src hF.O.plain (λ _=>rfl) de) (by intro u hu;obtain⟨y,_,hy⟩:=ck.1 hu;exact FZ y u hy) hD.O.row (cm hk.O) an hD.O.base.size SZ;have HR:Hid ((∃a'' c'',Value.slice a' (k+m) c'= .slice a'' (dW xs l).length c''/\w'.ownsRow w 101 4 (.slice a'' (dW xs l).length c'') (dW xs l).length ((dW xs l).flatMap aH.cells))/\Below w w w'):=ag (by
      have e1:ys++its=dW xs l:=by
       have:dW its []=its:=by cases its<;>rfl
       rw[<-this];exact hE2
      have e2:k+m=(dW xs l).length:=by rw[<-e1,hD.O.len,hm.O,ar]
      rw[<-bV,e1]at It;refine⟨⟨a',c',by rw[e2],?_⟩,hD.O.base.T ti.below⟩;rw[<-e2];exact It)
     clear mV jN hE2 SZ It ti
     go_wp2_with fail
     go_ret2;obtain⟨⟨a'',c'',e1,e2⟩,e3⟩:=HR.O;exact⟨a'',c'',by rw[<-e1]<;>rfl,e2,e3⟩
structure AY(α:Type)where
 f:α->List Value
 sz:Nat
 fsz:∀x,(f x).length=sz
 pos:0<sz
 one:∀x,∀u∈f x,u.oneCell'=true
 oJ:World->α->Prop
 below:∀{W W':World} (x:α),oJ W x->Below W W W'->oJ W' x
theorem aak(y:a8):∀u∈y.cells,u.oneCell'=true:=by intro u hu;simp only[a8.cells,aO,dn,or_false]at hu;rcases hu with rfl|rfl|rfl|rfl|rfl|rfl|rfl|rfl<;>rfl
def r9:AY aH:=⟨aH.cells,4, λ _=>rfl,by decide,FZ, λ W y=>ay W y.ka y.key/\ay W y.va y.val, λ _ h hb=>⟨h.1.below hb,h.2.below hb⟩⟩
def Ay:AY a8:=⟨a8.cells,8, λ _=>rfl,by decide,aak, λ W y=>ay W y.ka y.key, λ _ h hb=>h.below hb⟩
section
variable {α : Type}
def Pc.cells:Pc α->List Value
 | .kept r=>(vM r.k.ka r.k.key.length r.k.kc r.k.at_ r.k.count r.h)
 | .loose a c ys=>(qu a ys.length c)
theorem Pc.len(p:Pc α):p.cells.length=11:=by cases p<;>rfl
theorem Pc.one(p:Pc α):∀u∈p.cells,u.oneCell'=true:=by intro u hu;cases p<;>simp only[Pc.cells,aO,dn,or_false]at hu<;>rcases hu with rfl|rfl|rfl|rfl|rfl|rfl|rfl|rfl|rfl|rfl|rfl<;>rfl
inductive Pv(α:Type)where
 |kept (r:cF)
 |loose (ys:List α)
def Pc.val:Pc α->Pv α
 | .kept r=>.kept r
 | .loose _ _ ys=>.loose ys
structure jg(K:AY α)(W:World)(a:az)(c:Nat)(ys:List α):Prop where
 row:cV K.f K.sz W a ys
 oJ:∀y∈ys,K.oJ W y
 cap:ys.length<=c
 nil:a=none->c=0
 plain:a=none\/∃B o,a=some ⟨B,o,none⟩
theorem jg.below{K:AY α}{W W':World}{a:az}{c:Nat}{ys:List α}(h:jg K W a c ys)(hb:Below W W W'):jg K W' a c ys:=⟨h.row.below hb, λ y hy=>K.below y (h.oJ y hy) hb,h.cap,h.nil,h.plain⟩
theorem jg.PN{K:AY α}{T:TypeId}{a:az}{ys:List α}(h:W.ownsRow n₀ T K.sz (.slice a ys.length c) ys.length (ys.flatMap K.f))(hg:∀y∈ys,K.oJ W y):jg K W a c ys:=by
 refine⟨cV.kM h K.fsz K.pos,hg,lQ h, λ e=>?_,?_⟩
 ·rcases h.2 with⟨h,_⟩|⟨g,cap,cur,h,_⟩
  ·injection h
  ·subst e;cases h
 ·rcases bg h with⟨h,_⟩|⟨g,cur,h,_⟩
  ·exact .inl h
  ·exact .inr ⟨_,_,h⟩
def Ab(K:AY α)(W:World):Pc α->Prop
 | .kept r=>ay W r.k.ka r.k.key
 | .loose a c ys=>jg K W a c ys
theorem Ab.below{K:AY α}{W W':World}{p:Pc α}(h:Ab K W p)(hb:Below W W W'):Ab K W' p:=by
 cases p with
 |kept r=>exact ay.below h hb
 |loose a c ys=>exact jg.below h hb
structure eU(K:AY α)(W:World)(a:az)(c:Nat)(ps:List (Pc α)):Prop where
 row:cV Pc.cells 11 W a ps
 each:∀p∈ps,Ab K W p
 cap:ps.length<=c
 nil:a=none->c=0
 plain:a=none\/∃B o,a=some ⟨B,o,none⟩
theorem eU.below{K:AY α}{W W':World}{a:az}{c:Nat}{ps:List (Pc α)}(h:eU K W a c ps)(hb:Below W W W'):eU K W' a c ps:=⟨h.row.below hb, λ p hp=>(h.each p hp).below hb,h.cap,h.nil,h.plain⟩
def Rv(K:AY α)(T:TypeId)(n₀:Nat)(w W:World):Pc α->Prop
 | .kept r=>ay w r.k.ka r.k.key
 | .loose a c ys=>jg K w a c ys\/(W.ownsRow n₀ T K.sz (.slice a ys.length c) ys.length (ys.flatMap K.f)/\∀y∈ys,K.oJ w y)
theorem Rv.of{K:AY α}{T:TypeId}{p:Pc α}(h:Ab K w p):Rv K T n₀ w W p:=by
 cases p with
 |kept r=>exact h
 |loose a c ys=>exact .inl h
theorem Rv.fin{K:AY α}{T:TypeId}{p:Pc α}(h:Rv K T n₀ w W p)(hb:Below w w W):Ab K W p:=by
 cases p with
 |kept r=>exact ay.below h hb
 |loose a c ys=>
  rcases h with h|⟨h,hg⟩
  ·exact jg.below h hb
  ·exact jg.PN h λ y hy=>K.below y (hg y hy) hb
def jI(TP:TypeId)(W W':World):Prop:=∀(E:Nat) (cs:Array Value) (t:TypeId) (fz:Nat×Nat),W.heap[E]? =some (.cells cs t fz)->t≠TP->W'.heap[E]? =some (.cells cs t fz)
theorem jI.refl(TP:TypeId)(W:World):jI TP W W:= λ _ _ _ _ h _=>h
theorem jI.T{B C:World}(h:jI TP A B)(k:jI TP B C):jI TP A C:= λ E cs t fz hE ht=>k E cs t fz (h E cs t fz hE ht) ht
theorem jI.bH{B:World}(h:Below A A B):jI TP A B:= λ E _ _ _ hE _=>(h.block E (cS hE).1).T hE
theorem jI.Rw{TP:Nat}{a:az}{v':Value}(h:W.ownsRow n₀ TP sz (.slice a k c) k xs)(hg:dC n₀ W W' (.slice a k c) v'):jI TP W W':= λ E _ _ _ hE ht=>
 (hg.eG E (cS hE).1 (FX h hE ht)).T hE
theorem jI.row{T:TypeId}(h:jI TP W W')(hT:T≠TP){a:az}(hr:W.ownsRow n₀ T sz (.slice a k c) k xs):W'.ownsRow n₀ T sz (.slice a k c) k xs:=iF hr λ g hg=>by
 rcases bg hr with⟨h1,_⟩|⟨g2,cur,h1,_,jk⟩
 ·rw[hg]at h1;cases h1
 ·rw[hg]at h1;cases h1;exact(h _ _ _ _ jk hT).T jk.symm
theorem Rv.other{K:AY α}{T:TypeId}{p:Pc α}(h:Rv K T n₀ w W p)(ho:jI TP W W')(hT:T≠TP):Rv K T n₀ w W' p:=by
 cases p with
 |kept r=>exact h
 |loose a c ys=>
  rcases h with h|⟨h,hg⟩
  ·exact .inl h
  ·exact .inr ⟨ho.row hT h,hg⟩
theorem mR(ps:List (Pc α)):(ps.flatMap Pc.cells).length=ps.length*11:=by
 induction ps with
 |nil=>rfl
 |cons p ps ih=>rw[bf,ar,ih,Pc.len,aK];omega
structure td(K:AY α)(T TP:TypeId)(w W:World)(q:az)(k':Nat)(ps:List (Pc α)):Prop where
 base:Below w w W
 row:W.ownsRow w TP 11 (.slice q ps.length k') ps.length (ps.flatMap Pc.cells)
 each:∀p∈ps,Rv K T w w W p
theorem td.fin{K:AY α}{T TP:TypeId}{w W:World}{q:az}{k':Nat}{ps:List (Pc α)}(h:td K T TP w W q k' ps):eU K W q k' ps:=by
 refine⟨cV.kM h.row Pc.len de, λ p hp=>(h.each p hp).fin h.base,lQ h.row, λ e=>?_,?_⟩
 ·rcases h.row.2 with⟨h,_⟩|⟨g,cap,cur,h,_⟩
  ·injection h
  ·subst e;cases h
 ·rcases bg h.row with⟨h,_⟩|⟨g,cur,h,_⟩
  ·exact .inl h
  ·exact .inr ⟨_,_,h⟩
theorem td.other{K:AY α}{T:TypeId}{q:az}{ps:List (Pc α)}(h:td K T TP w W q k' ps)(hb:Below W W W'):td K T TP w W' q k' ps:=
 ⟨h.base.T (hb.mono h.base.size),dC.row (n₀:=w.heap.size) hb h.row, λ p hp=>by
  have:=h.each p hp;cases p with
  |kept r=>exact this
  |loose a c ys=>
   rcases this with h1|⟨h1,hg⟩
   ·exact .inl h1
   ·exact .inr ⟨dC.row (n₀:=w.heap.size) hb h1,hg⟩⟩
theorem td.put{K:AY α}{T:TypeId}(ht:P.underlying TS=some (.slice TP))(vw:(P.info? TP).map (λ i=>(i.zero,i.size,i.bytes))=some (some z,11,bytes))(vT:z.cells.size=11)(iL:bytes<=4096)(hT:T≠TP){q:az}{ps:List (Pc α)}(h:td K T TP w W q k' ps)(p:Pc α)(hp:Rv K T w w W p)(hk:ps.length<=100000):
 ∃g' c' w',(Builtin.append_ #[TS,TS] TS (fP q ps.length k' (zp W) 1 1)).run P (W.alloc (.cells p.cells.toArray TP))= .ok (.slice (zp g') (ps.length+1) c') w'/\td K T TP w w' (zp g') c' (ps++[p]):=by
 obtain⟨g',c',w',eh,hr,hg⟩:=gR (P:=P) TS TP z 11 bytes ht vw vT de p.cells p.len p.one h.row an iL h.base.size;refine⟨g',c',w',eh,⟨h.base.T hg.below,by rw[ar,bV];simpa using hr, λ r hr=>?_⟩⟩;have ho:jI TP W w':=jI.Rw h.row hg;rcases aG.1 hr with e|e
 ·exact(h.each r e).other ho hT
 ·rw[aE]at e;subst e;exact hp.other ho hT
theorem td.WR{K:AY α}{T:TypeId}(ht:P.underlying TS=some (.slice TP))(vw:(P.info? TP).map (λ i=>(i.zero,i.size,i.bytes))=some (some z,11,bytes))(vT:z.cells.size=11)(iL:bytes<=4096)(hT:T≠TP){q:az}{ps:List (Pc α)}(h:td K T TP w W q k' ps){a:az}{rs:List (Pc α)}(hr:eU K w a c rs)(hk:ps.length+rs.length<=1000000):
 ∃a' c' w',(Builtin.append_ #[TS,TS] TS (fP q ps.length k' a rs.length c)).run P W= .ok (.slice a' (ps.length+rs.length) c') w'/\td K T TP w w' a' c' (ps++rs):=by
 obtain⟨a',c',w',eh,It,hg⟩:=mg (P:=P) TS TP z 11 bytes ht vw vT de (W:=W) (src:=a) (m:=rs.length) (cc:=c) (news:=rs.flatMap Pc.cells) (mR rs) ((hr.row.below h.base).src hr.plain Pc.len de) EO h.row an iL h.base.size hr.nil;refine⟨a',c',w',eh,⟨h.base.T hg.below,by rw[ar,bV];exact It, λ r hrm=>?_⟩⟩;have ho:jI TP W w':=jI.Rw h.row hg;rcases aG.1 hrm with e|e
 ·exact(h.each r e).other ho hT
 ·exact Rv.of (hr.each r e)
end
theorem AZ{α:Type}(K:AY α):∀xs:List α,(xs.flatMap K.f).length=xs.length*K.sz
 |[]=>by simp
 |x::xs=>by rw[bf,ar,AZ K xs,K.fsz,aK,jw,jt]
theorem Dp(t e:TypeId)(z:Value)(sz bytes:Nat)(ht:P.underlying t=some (.slice e))(vw:(P.info? e).map (λ i=>(i.zero,i.size,i.bytes))=some (some z,sz,bytes))(vT:z.cells.size=sz){b src:az}{m:Nat}{Co news:List Value}(En:Co.length=k*sz)(hb:FG W b k Co)(hl:news.length=m*sz)(hs:FG W src m news)(hm:0<m)(hk:k+m<=1048576)(iL:bytes<=4096):
 ∃cap w',(Builtin.append_ #[t,t] t (fP b k k src m cc)).run P W= .ok (.slice (zp W) (k+m) cap) w'/\k+m<=cap/\
  w'.ownsRow W e sz (.slice (zp W) (k+m) cap) (k+m) (Co++news)/\Below W W w':=by
 rcases hs with⟨h0,_⟩|⟨B,o,rfl,hs⟩
 ·omega
 ·refine vV t e z sz bytes ht vw vT b k Co En ?_ ⟨B,o,none⟩ m cc news hl (λ j v hj=>by rw[kQ];exact hs j v hj) hm hk iL;rcases hb with⟨h0,h1⟩|⟨B2,o2,rfl,hb⟩
  ·exact .inl ⟨h1,h0⟩
  ·exact .inr ⟨_,rfl, λ j v hj=>by rw[kQ];exact hb j v hj⟩
theorem F0(h:W.ownsRow n₀ e sz (.slice (zp g) k c) k xs)(hi:i<xs.length):W.cell? ⟨g,i,none⟩=some xs[i]/\W.frozen? ⟨g,i,none⟩=false:=by
 rcases h.2 with⟨h,_⟩|⟨g2,cap,cur,h,_,hg,_,_,_,ht⟩
 ·cases h
 ·cases h;refine⟨?_,ax hg i⟩;rw[af hg,<-Array.getElem?_toList];have:(cur.toList.take (k*sz))[i]? =some xs[i]:=by rw[ht];exact aB hi
  rw[bB]at this;split at this
  ·exact this
  ·cases this
theorem aal(h:W.ownsRow n₀ e sz (.slice (zp g) k c) k xs)(v:Value):(W.setCell ⟨g,i,none⟩ v).ownsRow n₀ e sz (.slice (zp g) k c) k (xs.set i v):=by
 refine⟨by rw[List.length_set];exact h.1,?_⟩;rcases h.2 with⟨h,_⟩|⟨g2,cap,cur,h,hn,hg,h2,h3,h4,ht⟩
 ·cases h
 ·cases h;refine .inr ⟨_,_,cur.setIfInBounds i v,rfl,hn,aU v hg,h2,h3,by rw[eN];exact h4,?_⟩;rw[Array.toList_setIfInBounds,List.take_set,ht]
theorem jI.set{TP:Nat}{fz:Nat×Nat}(h:W.heap[g]? =some (.cells cs TP fz))(v:Value):jI TP W (W.setCell ⟨g,i,none⟩ v):= λ E cs' t fz' hE ht=>by
 have dN:E≠g:=by rintro rfl;rw[h]at hE;injection hE with h5;injection h5 with _ h6 _;exact ht h6.symm
 exact(aq W ⟨g,i,none⟩ v E dN).T hE
variable {α : Type}
def dB:List (Pv α)->Pv α->List (Pv α)
 |out,.kept r=>out++[.kept r]
 |out,.loose []=>out
 |out,.loose (y::ys)=>match out.getLast? with
  |some (.loose zs)=>out.dropLast++[.loose (zs++y::ys)]
  |_=>out++[.loose (y::ys)]
def su(l:List (Pv α)):List (Pv α):=l.foldl dB []
theorem iz{out:List (Pv α)}{zs ys:List α}(h:1<=ys.length):dB (out++[.loose zs]) (.loose ys)=out++[.loose (zs++ys)]:=by
 cases ys with
 |nil=>simp at h
 |cons y ys=>simp[dB]
theorem gj{out:List (Pv α)}{ys:List α}(h:1<=ys.length)(hl:out=[]\/∃o r,out=o++[.kept r]):dB out (.loose ys)=out++[.loose ys]:=by
 cases ys with
 |nil=>simp at h
 |cons y ys=>rcases hl with rfl|⟨o,r,rfl⟩<;>simp[dB]
def dQ:List (Pv α)->Nat
 |[]=>0
 | .kept _::l=>dQ l
 | .loose ys::l=>ys.length+dQ l
theorem fR:∀(a b:List (Pv α)),dQ (a++b)=dQ a+dQ b
 |[],_=>by simp[dQ]
 | .kept _::l,b=>by simp[dQ,fR l b]
 | .loose ys::l,b=>by simp[dQ,fR l b];omega
theorem Tj(out:List (Pv α))(p:Pv α):dQ (dB out p)=dQ out+dQ [p]:=by
 cases p with
 |kept r=>simp[dB,fR,dQ]
 |loose ys=>
  cases ys with
  |nil=>simp[dB,dQ]
  |cons y ys=>
   rcases dD out with rfl|⟨o,q,rfl⟩
   ·simp[dB,dQ]
   ·cases q with
    |kept r=>simp[dB,fR,dQ]
    |loose zs=>simp[dB,fR,dQ];omega
theorem Cz:∀(l out:List (Pv α)),dQ (l.foldl dB out)=dQ out+dQ l
 |[],_=>by simp[dQ]
 |p::l,out=>by
  rw[cD,Cz l,Tj,show p::l=[p]++l from rfl,fR [p] l];omega
theorem Nq{l:List (Pv α)}{ys:List α}(h:Pv.loose ys∈l):ys.length<=dQ l:=by obtain⟨a,b,rfl⟩:=List.append_of_mem h;rw[fR,dQ];omega
theorem yx:(Tryz.prog.info? 275).map (λ i=>(i.zero,i.size,i.bytes))=some (some (.agg lG),11,120):=bU
theorem A0:(Tryz.prog.info? 325).map (λ i=>(i.zero,i.size,i.bytes))=some (some (.agg lG),11,120):=bU
theorem KB:(Tryz.prog.info? 144).map (λ i=>(i.zero,i.size,i.bytes))=some (some (.agg qq),8,80):=bU
theorem PO{qs:List (Pc α)}:qs=[]\/(∃o r,qs=o++[Pc.kept r])\/∃o a c zs,qs=o++[Pc.loose a c zs]:=by
 rcases dD qs with h|⟨o,p,h⟩
 ·exact .inl h
 ·cases p with
  |kept r=>exact .inr (.inl ⟨o,r,by rw[h];simp⟩)
  |loose a c zs=>exact .inr (.inr ⟨o,a,c,zs,by rw[h];simp⟩)
abbrev PW(l:List KV):Prop:=l.Pairwise λ a b=>lj a.1 b.1
theorem uI{l:List KV}:cR (l.map Prod.fst)↔PW l:=by
 unfold PW;rw[gU];constructor
 ·intro h i j hi hj hij;exact h.lt hij (by simp[hi]) (by simp[hj])
 ·intro h j a b ha hb;simp only[aW,gh]at ha hb;obtain⟨x,hx,rfl⟩:=ha;obtain⟨y,hy,rfl⟩:=hb;obtain⟨h1,rfl⟩:=aC.1 hx;obtain⟨h2,rfl⟩:=aC.1 hy;exact h j (j+1) h1 h2 an
theorem WS:∀{a b:List KV},PW a->PW b->(∀x,x∈a↔x∈b)->a=b
 |[],[],_,_,_=>rfl
 |[],y::b,_,_,h=>by have:=(h y).2 cP;simp at this
 |x::a,[],_,_,h=>by have:=(h x).1 cP;simp at this
 |x::a,y::b,ha,hb,h=>by
  rw[PW,dH]at ha hb;have UO:x=y:=by
   rcases aO.1 ((h x).1 cP)with e|e
   ·exact e
   ·rcases aO.1 ((h y).2 cP)with f|f
    ·exact f.symm
    ·exact absurd (ha.1 y f) (yq (hb.1 x e))
  subst UO;rw[WS ha.2 hb.2 λ z=>?_];constructor
  ·intro hz;rcases aO.1 ((h z).1 (bM _ hz))with e|e
   ·subst e;exact absurd (ha.1 _ hz) (jF _)
   ·exact e
  ·intro hz;rcases aO.1 ((h z).2 (bM _ hz))with e|e
   ·subst e;exact absurd (hb.1 _ hz) (jF _)
   ·exact e
structure Ed where
 key:List Nat
 put:Bool
 val:List Nat
def Ac(x:eH):Ed:=⟨x.key,x.put,x.val⟩
def DY(y:KV)(e:Ed):Bool:=decide (cmpL y.1 e.key<0)
theorem uJ{y:KV}{e:Ed}:DY y e=true↔lj y.1 e.key:=by unfold DY lj;rw[decide_eq_true_eq];rcases qG y.1 e.key with h|h|h<;>omega
theorem KP{y:KV}{e:Ed}(h:lj e.key y.1):DY y e=false:=by rw[Bool.eq_false_iff];intro h2;exact yq h (uJ.1 h2)
def tQ(e:Ed):List KV->List KV
 |[]=>[]
 |y::r=>if y.1=e.key then r else y::r
def iH:List KV->List Ed->List KV
 |its,[]=>its
 |its,x::l=>its.takeWhile (DY · x)++((if x.put then[(x.key,x.val)]else[])++iH (tQ x (its.dropWhile (DY · x))) l)
theorem Tk(x:eH)(l:List aH):tQ (Ac x) (l.map fF)=(uq x l).map fF:=by
 cases l with
 |nil=>rfl
 |cons y r=>
  by_cases h:y.key=x.key
  ·have h1:uq x (y::r)=r:=if_pos h;have h2:tQ (Ac x) (fF y::r.map fF)=r.map fF:=if_pos h;rw[bF,h1,h2]
  ·have h1:uq x (y::r)=y::r:=if_neg h;have h2:tQ (Ac x) (fF y::r.map fF)=fF y::r.map fF:=if_neg h;rw[bF,h1,h2,bF]
theorem EA:∀(l:List eH) (its:List aH),(dW its l).map fF=iH (its.map fF) (l.map Ac)
 |[],its=>rfl
 |x::l,its=>by
  rw[dW,aJ,aJ,bF,iH,List.takeWhile_map,List.dropWhile_map];congr 1;rw[Tk,<-EA l];congr 1;show List.map fF (if x.put then[uH x]else[])=if x.put then[(x.key,x.val)]else[];cases x.put<;>rfl
theorem Tl(e:Ed)(l:List KV)(x:KV)(h:x∈tQ e l):x∈l:=by
 cases l with
 |nil=>exact h
 |cons y r=>
  by_cases hk:y.1=e.key
  ·have:tQ e (y::r)=r:=if_pos hk;rw[this]at h;exact bM _ h
  ·have:tQ e (y::r)=y::r:=if_neg hk;rw[this]at h;exact h
theorem Rx{e:Ed}{B:List KV}(h:∀b∈B,DY b e=false):∀A:List KV,(A++B).takeWhile (DY · e)=A.takeWhile (DY · e)/\(A++B).dropWhile (DY · e)=A.dropWhile (DY · e)++B
 |[]=>by
  cases B with
  |nil=>exact⟨rfl,rfl⟩
  |cons b B=>have:=h b cP;simp[ic,gY,this]
 |a::A=>by
  obtain⟨h1,h2⟩:=Rx h A;simp only[bS,ic,gY];cases DY a e<;>simp[h1,h2]
theorem F1(B:List KV)(l2:List Ed):∀(l1:List Ed) (A:List KV),(∀e∈l1,∀b∈B,lj e.key b.1)->(∀e∈l2,∀a∈A,lj a.1 e.key)->iH (A++B) (l1++l2)=iH A l1++iH B l2
 |[],A,_,h2=>by
  cases l2 with
  |nil=>rfl
  |cons e l=>
   have h:∀a∈A,DY a e=true:= λ a ha=>uJ.2 (h2 e cP a ha);rw[bn,iH,iH,iH,List.takeWhile_append_of_pos h,List.dropWhile_append_of_pos h,aS]
 |e::l1,A,h1,h2=>by
  obtain⟨t1,t2⟩:=Rx (e:=e) (B:=B) (λ b hb=>KP (h1 e cP b hb)) A;rw[bS,iH,t1,t2,iH];have hd:tQ e (A.dropWhile (DY · e)++B)=tQ e (A.dropWhile (DY · e))++B:=by
   cases A.dropWhile (DY · e)with
   |nil=>
    cases B with
    |nil=>rfl
    |cons b B=>
     have:=h1 e cP b cP;have dN:b.1≠e.key:= λ h=>by rw[h]at this;exact jF _ this
     simp[tQ,dN]
   |cons a A'=>simp only[bS,tQ];split<;>rfl
  rw[hd,F1 B l2 l1 _ (λ e' he=>h1 e' (bM _ he)) λ e' he a ha=>h2 e' he a (List.dropWhile_subset _ (Tl _ _ _ ha))];simp only[aS]
theorem Ry{e:Ed}:∀{its:List KV},PW its->its.takeWhile (DY · e)=its.filter (DY · e)/\tQ e (its.dropWhile (DY · e))=its.filter λ y=> !DY y e&& !decide (y.1=e.key)
 |[],_=>⟨rfl,rfl⟩
 |y::r,h=>by
  rw[PW,dH]at h;cases hy:DY y e with
  |true=>
   obtain⟨h1,h2⟩:=Ry (e:=e) h.2;simp[ic,gY,hy,h1,h2]
  |false=>
   have hr:∀z∈r,lj e.key z.1:= λ z hz=>by
    have h1:=h.1 z hz;rcases Es y.1 e.key with h3|h3|h3
    ·rw[uJ.2 h3]at hy;cases hy
    ·rw[<-h3];exact h1
    ·exact lE _ _ _ h3 h1
   have hf:r.filter (DY · e)=[]:=List.filter_eq_nil_iff.2 λ z hz=>by simp[KP (hr z hz)]
   have hg:r.filter (λ y=> !DY y e&& !decide (y.1=e.key))=r:=List.filter_eq_self.2 λ z hz=>by
    have h1:=hr z hz;have:z.1≠e.key:= λ h=>by rw[h]at h1;exact jF _ h1
    simp[KP h1,this]
   refine⟨by simp[ic,hy,hf],?_⟩;simp only[gY,hy,List.filter_cons,hg,tQ,Bool.not_false,Bool.true_and];by_cases hk:y.1=e.key<;>simp[hk]
theorem A1:∀{l:List Ed} {its:List KV},PW its->l.Pairwise (λ a b=>lj a.key b.key)->PW (iH its l)/\∀kv,kv∈iH its l↔(kv∈its/\∀e∈l,e.key≠kv.1)\/∃e∈l,e.put=true/\kv=(e.key,e.val)
 |[],its,h,_=>⟨h, λ kv=>by simp[iH]⟩
 |e::l,its,h,hl=>by
  rw[dH]at hl;obtain⟨t1,t2⟩:=Ry (e:=e) h;rw[iH,t1,t2];have hG:PW (its.filter λ y=> !DY y e&& !decide (y.1=e.key)):=h.filter _;obtain⟨p1,p2⟩:=A1 hG hl.2;have hgt:∀y,(!DY y e&& !decide (y.1=e.key))=true->lj e.key y.1:= λ y hy=>by
   simp only[bQ,Bool.not_eq_true',decide_eq_false_iff_not]at hy;rcases Es y.1 e.key with h3|h3|h3
   ·rw[uJ.2 h3]at hy;cases hy.1
   ·exact absurd h3 hy.2
   ·exact h3
  have hm:∀kv∈iH (its.filter λ y=> !DY y e&& !decide (y.1=e.key)) l,lj e.key kv.1:= λ kv IL=>by
   rcases(p2 kv).1 IL with⟨h1,_⟩|⟨e',Ea,_,rfl⟩
   ·exact hgt kv (bT.1 h1).2
   ·exact hl.1 e' Ea
  refine⟨?_, λ kv=>?_⟩
  ·refine dp.2 ⟨h.filter _,dp.2 ⟨by cases e.put<;>simp,p1, λ a ha b hb=>?_⟩, λ a ha b hb=>?_⟩
   ·split at ha
    ·rw[aE]at ha;subst ha;exact hm b hb
    ·cases ha
   ·have ha:=uJ.1 (bT.1 ha).2;rcases aG.1 hb with hb|hb
    ·split at hb
     ·rw[aE]at hb;subst hb;exact ha
     ·cases hb
    ·exact lE _ _ _ ha (hm b hb)
  ·simp only[aG,p2,bT,aO];constructor
   ·rintro(⟨h1,h2⟩|h1|⟨⟨h1,h2⟩,h3⟩|⟨e',Ea,h1,h2⟩)
    ·have h2:=uJ.1 h2;refine .inl ⟨h1, λ e' Ea hk=>?_⟩;rcases Ea with rfl|Ea
     ·rw[hk]at h2;exact jF _ h2
     ·rw[<-hk]at h2;exact yq h2 (hl.1 e' Ea)
    ·split at h1
     ·rename_i hp;rw[aE]at h1;exact .inr ⟨e,.inl rfl,hp,h1⟩
     ·cases h1
    ·refine .inl ⟨h1, λ e' Ea hk=>?_⟩;rcases Ea with rfl|Ea
     ·have:=hgt kv h2;rw[hk]at this;exact jF _ this
     ·exact h3 e' Ea hk
    ·exact .inr ⟨e',.inr Ea,h1,h2⟩
   ·rintro(⟨h1,h2⟩|⟨e',rfl|Ea,h1,h2⟩)
    ·rcases Es kv.1 e.key with h3|h3|h3
     ·exact .inl ⟨h1,uJ.2 h3⟩
     ·exact absurd h3.symm (h2 e (.inl rfl))
     ·refine .inr (.inr (.inl ⟨⟨h1,?_⟩, λ e' Ea=>h2 e' (.inr Ea)⟩));have:kv.1≠e.key:= λ h=>h2 e (.inl rfl) h.symm;simp[KP h3,this]
    ·exact .inr (.inl (by simp[h1,h2]))
    ·exact .inr (.inr (.inr ⟨e',Ea,h1,h2⟩))
section
variable {α : Type}
def uf(all:List Nat)(S:α->List KV->Prop)(lo:Nat):Pv α->List KV->Prop
 | .kept r,its=>fV all r its/\lo<=r.h
 | .loose ys,its=>cq S ys its
theorem uf.more{all:List Nat}{S T:α->List KV->Prop}{lo:Nat}(m:List Nat)(hS:∀x s,S x s->T x s){p:Pv α}{its:List KV}(h:uf all S lo p its):uf (all++m) T lo p its:=by
 cases p with
 |kept r=>exact⟨h.1.more m,h.2⟩
 |loose ys=>exact cq.mono (λ x _=>hS x) h
theorem cq.snoc{β:Type}{S:β->List KV->Prop}{xs:List β}{x:β}(h:cq S xs a)(hx:S x s):cq S (xs++[x]) (a++s):=cq.app.2 ⟨a,s,h,cq.one.2 hx,rfl⟩
theorem Tm{S:α->List KV->Prop}{out:List (Pv α)}{p:Pv α}(h:cq (uf all S lo) out a)(hp:uf all S lo p s):cq (uf all S lo) (dB out p) (a++s):=by
 cases p with
 |kept r=>exact h.snoc hp
 |loose ys=>
  cases ys with
  |nil=>cases hp;rw[cj];exact h
  |cons y ys=>
   rcases dD out with rfl|⟨o,q,rfl⟩
   ·rw[gj cP (.inl rfl)];exact h.snoc hp
   ·rw[eF]at h⊢;cases q with
    |kept r=>rw[gj cP (.inr ⟨o,r,rfl⟩)];exact h.snoc hp
    |loose zs=>
     rw[iz cP];obtain⟨a1,b1,e1,e2,rfl⟩:=cq.app.1 h;rw[aS];exact e1.snoc (cq.app.2 ⟨b1,s,cq.one.1 e2,hp,rfl⟩)
theorem Nr{all:List Nat}{S:α->List KV->Prop}{lo:Nat}:∀{l out:List (Pv α)} {a s:List KV},cq (uf all S lo) out a->cq (uf all S lo) l s->cq (uf all S lo) (l.foldl dB out) (a++s)
 |[],_,_,_,h,hs=>by cases hs;rw[cj];exact h
 |p::l,_,_,_,h,⟨s1,r,h1,h2,h3⟩=>by
  rw[cD,h3,<-aS];exact Nr (Tm h h1) h2
def Tidy:List (Pv α)->Prop
 |[]=>True
 | .kept _::l=>Tidy l
 | .loose ys::l=>1<=ys.length/\(match l with| .loose _::_=>False|_=>True)/\Tidy l
theorem CA{r:cF}:∀{l:List (Pv α)},Tidy l->Tidy (l++[.kept r])
 |[],_=>trivial
 | .kept _::l,h=>CA (l:=l) h
 | .loose ys::l,h=>by
   refine⟨h.1,?_,CA h.2.2⟩;cases l with
   |nil=>trivial
   |cons p l=>have:=h.2.1;cases p<;>first|trivial|exact this
theorem uK{zs:List α}(hz:1<=zs.length):∀{l:List (Pv α)},Tidy l->(l=[]\/∃o r,l=o++[.kept r])->Tidy (l++[.loose zs])
 |[],_,_=>⟨hz,trivial,trivial⟩
 |[.kept _],_,_=>⟨hz,trivial,trivial⟩
 |[.loose ys],_,hl=>by
  rcases hl with hl|⟨o,r,hl⟩
  ·cases hl
  ·have:=congrArg List.getLast? hl;simp at this
 |p::q::l,h,hl=>by
  have ri:q::l=[]\/∃o r,q::l=o++[.kept r]:=by
   rcases hl with hl|⟨o,r,hl⟩
   ·cases hl
   ·cases o with
    |nil=>simp at hl
    |cons x o=>exact .inr ⟨o,r,(List.cons.inj hl).2⟩
  cases p with
  |kept _=>exact uK hz (l:=q::l) h ri
  |loose ys=>
   refine⟨h.1,?_,uK hz (l:=q::l) h.2.2 ri⟩;have:=h.2.1;cases q<;>first|trivial|exact this
theorem CB{zs ws:List α}(hw:1<=ws.length):∀{l:List (Pv α)},Tidy (l++[.loose zs])->Tidy (l++[.loose ws])
 |[],_=>⟨hw,trivial,trivial⟩
 | .kept _::l,h=>CB hw (l:=l) h
 | .loose ys::l,h=>by
   refine⟨h.1,?_,CB hw h.2.2⟩;have:=h.2.1;cases l with
   |nil=>exact this
   |cons p l=>cases p<;>first|trivial|exact this
theorem Tn{out:List (Pv α)}(h:Tidy out)(p:Pv α):Tidy (dB out p):=by
 cases p with
 |kept r=>exact CA h
 |loose ys=>
  cases ys with
  |nil=>exact h
  |cons y ys=>
   rcases dD out with rfl|⟨o,q,rfl⟩
   ·rw[gj cP (.inl rfl)];exact uK cP h (.inl rfl)
   ·rw[eF]at h⊢;cases q with
    |kept r=>rw[gj cP (.inr ⟨o,r,rfl⟩)];exact uK cP h (.inr ⟨o,r,rfl⟩)
    |loose zs=>rw[iz cP];exact CB dU h
theorem tidy_fold:∀{l out:List (Pv α)},Tidy out->Tidy (l.foldl dB out)
 |[],_,h=>h
 |p::l,_,h=>tidy_fold (l:=l) (Tn h p)
theorem A3:∀{l:List (Pv α)} {i:Nat} {ys:List α},Tidy l->l[i]? =some (.loose ys)->1<=ys.length/\∀p,l[i+1]? =some p->∃r,p= .kept r
 |[],_,_,_,h=>by simp at h
 | .kept _::l,0,_,_,h=>by simp at h
 | .loose zs::l,0,ys,ht,h=>by
   have:zs=ys:=by simpa using h
   subst this;refine⟨ht.1, λ p hp=>?_⟩;cases l with
   |nil=>simp at hp
   |cons q l=>
    have:=ht.2.1;have hq:q=p:=by simpa using hp
    subst hq;cases q with
    |kept r=>exact⟨r,rfl⟩
    |loose _=>exact this.elim
 | .kept _::l,i+1,_,ht,h=>A3 (l:=l) ht jy
 | .loose _::l,i+1,_,ht,h=>A3 (l:=l) ht.2.2 jy
def isSmall:Pv α->Bool
 | .kept _=>false
 | .loose ys=>decide (ys.length<3)
def dT(l:List (Pv α)):Nat:=l.countP isSmall
theorem fy(a b:List (Pv α)):dT (a++b)=dT a+dT b:=List.countP_append
theorem m9(p:Pv α):dT [p]=if isSmall p then 1 else 0:=by unfold dT;simp[gG]
theorem Ns(out:List (Pv α))(p:Pv α):dT (dB out p)<=dT out+dT [p]:=by
 cases p with
 |kept r=>simp[dB,fy]
 |loose ys=>
  cases ys with
  |nil=>simp[dB]
  |cons y ys=>
   rcases dD out with rfl|⟨o,q,rfl⟩
   ·rw[gj cP (.inl rfl),fy];omega
   ·rw[eF];cases q with
    |kept r=>rw[gj cP (.inr ⟨o,r,rfl⟩),fy];omega
    |loose zs=>
     rw[iz cP,fy,fy];have:dT [Pv.loose (zs++y::ys)]<=dT [Pv.loose (y::ys)]:=by rw[m9,m9];unfold isSmall;simp only[ar,aK,decide_eq_true_eq];split<;>split<;>omega
     omega
theorem wR:∀(l out:List (Pv α)),dT (l.foldl dB out)<=dT out+dT l
 |[],out=>by simp[dT]
 |p::l,out=>by
  have h1:=wR l (dB out p);have h2:=Ns out p;have h3:dT (p::l)=dT [p]+dT l:=fy [p] l;rw[cD];omega
theorem uL(ws:List α)(h:3<=ws.length):dT [Pv.loose ws]=0:=by rw[m9];simp[isSmall];omega
theorem PQ(out:List (Pv α))(ys zs:List α)(hy:1<=ys.length)(hz:1<=zs.length)(h:3<=ys.length+zs.length):dT (dB (dB out (.loose ys)) (.loose zs))<=dT out:=by
 have hb:3<=(ys++zs).length:=by rw[ar];exact h
 rcases dD out with rfl|⟨o,q,rfl⟩
 ·rw[gj hy (.inl rfl),iz hz,fy,uL _ hb];exact cH
 ·rw[eF];cases q with
  |kept r=>rw[gj hy (.inr ⟨o,r,rfl⟩),iz hz,fy,uL _ hb];exact cH
  |loose ws=>rw[iz hy,iz hz,fy,fy,uL _ dU];omega
theorem Dq{A M B:List (Pv α)}{ys zs:List α}(hy:1<=ys.length)(hz:1<=zs.length)(h:3<=ys.length+zs.length)(hM:dT M=0):dT (su (A++(.loose ys::.loose zs::(M++B))))<=dT A+dT B:=by unfold su;rw[dY,cD,cD];have h1:=wR (M++B) (dB (dB (A.foldl dB []) (.loose ys)) (.loose zs));have h2:=PQ (A.foldl dB []) ys zs hy hz h;have h3:=wR A [];rw[fy]at h1;have:dT ([]:List (Pv α))=0:=rfl;omega
def fb(l:List (Pv α)):Nat:=l.countP λ p=>match p with| .kept _=>true| .loose _=>false
theorem fM(a b:List (Pv α)):fb (a++b)=fb a+fb b:=List.countP_append
theorem PR(out:List (Pv α))(p:Pv α):fb (dB out p)=fb out+fb [p]:=by
 cases p with
 |kept r=>simp[dB,fM]
 |loose ys=>
  cases ys with
  |nil=>simp[dB,fb]
  |cons y ys=>
   rcases dD out with rfl|⟨o,q,rfl⟩
   ·rw[gj cP (.inl rfl),fM]
   ·rw[eF];cases q with
    |kept r=>rw[gj cP (.inr ⟨o,r,rfl⟩),fM]
    |loose zs=>rw[iz cP,fM,fM];simp[fb]
theorem F2:∀(l out:List (Pv α)),fb (l.foldl dB out)=fb out+fb l
 |[],out=>by simp[fb]
 |p::l,out=>by
  have h3:fb (p::l)=fb [p]+fb l:=fM [p] l;rw[cD,F2 l,PR];omega
end
theorem Oe{all:List Nat}{d:Nat}:∀(xs ys:List a8) (fD:List (List KV)),ys.map a8.key=xs.map a8.key->ys.map a8.at_=xs.map a8.at_->ys.map a8.count=xs.map a8.count->fD.length=xs.length->
 (∀(j:Nat) (x:a8) (s:List KV),xs[j]? =some x->fD[j]? =some s->∃n:Nd,3<=n.Ax/\x.count=n.red/\n.keys[0]? =some x.key/\jH all d n x.at_ s)->cq (wQ all d) ys fD.flatten
 |[],[],[],_,_,_,_,_=>rfl
 |x::xs,y::ys,s::fD,hk,ha,hc,hl,h=>by
  simp only[bF,eK]at hk ha hc;refine⟨s,fD.flatten,?_,Oe xs ys fD hk.2 ha.2 hc.2 (by simpa using hl) λ j x s hx hs=>h (j+1) x s hx hs,rfl⟩;obtain⟨n,h1,h2,h3,h4⟩:=h 0 x s rfl rfl;exact⟨n,by show jH all d n y.at_ s;rw[ha.1];exact h4,by show y.count=_;rw[hc.1];exact h2,by show _=some y.key;rw[hk.1];exact h3,h1⟩
 |[],_::_,_,hk,_,_,_,_=>by simp at hk
 |_::_,[],_,hk,_,_,_,_=>by simp at hk
 |[],[],_::_,_,_,_,hl,_=>by simp at hl
 |_::_,_::_,[],_,_,_,hl,_=>by simp at hl
theorem Gt{xs:List a8}(h:jH all (d+1) (.inner xs) at_ its)(hk:ys.map a8.key=xs.map a8.key)(ha:ys.map a8.at_=xs.map a8.at_)(hc:ys.map a8.count=xs.map a8.count):cq (wQ all d) ys its:=by obtain⟨_,_,fD,h3,rfl,h5⟩:=h;exact Oe xs ys fD hk ha hc h3 λ j x s hx hs=>(h5 j x s hx hs).2
theorem K9:∀(xs ys:List aH),ys.map aH.key=xs.map aH.key->ys.map aH.val=xs.map aH.val->ys.map fF=xs.map fF
 |[],[],_,_=>rfl
 |x::xs,y::ys,hk,hv=>by
  simp only[bF,eK]at hk hv;rw[bF,bF,K9 xs ys hk.2 hv.2];unfold fF;rw[hk.1,hv.1]
 |[],_::_,hk,_=>by simp at hk
 |_::_,[],hk,_=>by simp at hk
theorem T0{xs ys:List aH}(h:jH all 0 (.leaf xs) at_ its)(hk:ys.map aH.key=xs.map aH.key)(hv:ys.map aH.val=xs.map aH.val):cq Ho ys its:=by rw[cq.its,K9 xs ys hk hv];exact h.2.2
theorem T1(h:fV all r its)(h0:r.h=0):∃xs,jH all 0 (.leaf xs) r.k.at_ its/\3<=xs.length:=by
 obtain⟨n,h1,_,_,h4⟩:=h;rw[h0]at h1;cases n with
 |leaf xs=>exact⟨xs,h1,by simpa[Nd.Ax,Nd.n1,Nd.n2]using h4⟩
 |inner xs=>exact h1.elim
theorem Gu(h:fV all r its)(h0:r.h=d+1):∃xs,jH all (d+1) (.inner xs) r.k.at_ its/\3<=xs.length:=by
 obtain⟨n,h1,_,_,h4⟩:=h;rw[h0]at h1;cases n with
 |leaf xs=>exact h1.elim
 |inner xs=>exact⟨xs,h1,by simpa[Nd.Ax,Nd.n1,Nd.n2]using h4⟩
section
variable {α : Type}
def iW(rs:List cF):List (Pv α):=rs.map .kept
def oE(all:List Nat)(S:α->List KV->Prop)(lo:Nat)(first:Bool)(its:List KV)(sa:List (Pv α)):Prop:=
 ∃zs rs,3<=zs.length/\sa=(if first then .loose zs::iW rs else iW rs++[.loose zs])/\cq (uf all S lo) sa its
theorem oE.leaf{S:α->List KV->Prop}{first:Bool}{zs:List α}(h3:3<=zs.length)(h:cq S zs its):oE all S lo first its [.loose zs]:=
 ⟨zs,[],h3,by cases first<;>rfl,cq.one.2 h⟩
theorem Gv{all:List Nat}{S:α->List KV->Prop}{lo d:Nat}(hd:lo<=d):∀{ys:List a8} {its:List KV},cq (wQ all d) ys its->cq (uf all S lo) (iW (ys.map λ y=>⟨y,d⟩)) its
 |[],_,h=>h
 |_::_,_,⟨s,r,h1,h2,h3⟩=>⟨s,r,⟨h1,hd⟩,Gv hd h2,h3⟩
theorem oE.first{S:α->List KV->Prop}(hd:lo<=d){r:List KV}{sa:List (Pv α)}(h:oE all S lo true s sa)(hy:cq (wQ all d) ys r):oE all S lo true (s++r) (sa++iW (ys.map λ y=>⟨y,d⟩)):=by obtain⟨zs,rs,h3,he,hs⟩:=h;refine⟨zs,rs++ys.map λ y=>⟨y,d⟩,h3,?_,cq.app.2 ⟨s,r,hs,Gv hd hy,rfl⟩⟩;rw[he];simp[iW]
theorem oE.last{S:α->List KV->Prop}(hd:lo<=d){r:List KV}{sa:List (Pv α)}(h:oE all S lo false s sa)(hy:cq (wQ all d) ys r):oE all S lo false (r++s) (iW (ys.map λ y=>⟨y,d⟩)++sa):=by obtain⟨zs,rs,h3,he,hs⟩:=h;refine⟨zs,(ys.map λ y=>⟨y,d⟩)++rs,h3,?_,cq.app.2 ⟨r,s,Gv hd hy,hs,rfl⟩⟩;rw[he];simp[iW]
theorem cV.RL{β:Type}{f:β->List Value}{a:az}{xs:List β}(h:cV f sz W a xs)(j:Nat):(xs.drop j=[]\/∃B o,a=some ⟨B,o,none⟩/\cV f sz W (some ⟨B,o+j*sz,none⟩) (xs.drop j)):=by
 rcases h with h|⟨B,o,e,h⟩
 ·exact .inl (by rw[h];simp)
 ·exact .inr ⟨B,o,e,cV.drop (.inr ⟨B,o,rfl,by cases e;exact h⟩) j⟩
theorem eU.take{K:AY α}{W:World}{a:az}{c:Nat}{ps:List (Pc α)}(h:eU K W a c ps)(i:Nat):eU K W a c (ps.take i):=by
 refine⟨?_, λ p hp=>h.each p (aP hp),by rw[aX];have:=h.cap;omega,h.nil,h.plain⟩;rcases h.row with h|⟨B,o,e,h⟩
 ·exact .inl (by rw[h];simp)
 ·refine .inr ⟨B,o,e, λ j x hx=>h j x ?_⟩;rw[bB]at hx;split at hx
  ·exact hx
  ·cases hx
theorem eU.RL{K:AY α}{W:World}{B o c:Nat}{ps:List (Pc α)}(h:eU K W (some ⟨B,o,none⟩) c ps)(i:Nat)(hi:i<=ps.length):eU K W (if c=i then some ⟨B,o,none⟩else some ⟨B,o+i*11,none⟩) (c - i) (ps.drop i):=by
 have mV:=h.cap;refine⟨?_, λ p hp=>h.each p (bm hp),by rw[bC];omega, λ e=>(by split at e<;>cases e),?_⟩
 ·by_cases hc:c=i
  ·exact .inl (dJ.2 an)
  ·rw[if_neg hc];rcases h.row.RL i with h|⟨B2,o2,e,h⟩
   ·exact .inl h
   ·cases e;exact h
 ·split
  ·exact .inr ⟨_,_,rfl⟩
  ·exact .inr ⟨_,_,rfl⟩
end
theorem pk{o:Nat}(xs bs cs:List Value)(h:W.rangeAt B o (xs++(bs++cs))):W.rangeAt B (o+xs.length) bs:= λ j v hj=>by have h1:=(aC.1 hj).1;have:=h (xs.length+j) v (by rw[bJ (Nat.le_add_right _ _),fU,cO h1];exact hj);rw[bh];exact this
theorem RM{α:Type}{ps:List (Pc α)}{A B:List (Pv α)}(h:ps.map Pc.val=A++.kept r::B):ps[A.length]? =some (.kept r)/\(ps.take A.length).map Pc.val=A/\(ps.drop (A.length+1)).map Pc.val=B/\A.length<ps.length:=by
 have hl:=congrArg List.length h;simp only[aR,ar,aK]at hl;have h1:(ps.map Pc.val)[A.length]? =some (.kept r):=by rw[h,bJ (cH)];simp
 rw[aW]at h1;refine⟨?_,?_,?_,an⟩
 ·cases hp:ps[A.length]? with
  |none=>rw[hp]at h1;cases h1
  |some p=>
   rw[hp]at h1;cases p with
   |kept q=>simp only[eM,Pc.val,dz,Pv.kept.injEq]at h1;rw[h1]
   |loose a c ys=>simp[Pc.val]at h1
 ·rw[List.map_take,h];simp
 ·rw[List.map_drop,h,show A.length+1=(A++[Pv.kept r]).length by simp,show A++Pv.kept r::B=(A++[Pv.kept r])++B by simp,List.drop_left]
section
variable {α : Type} {all : List Nat} {S : α -> List KV -> Prop} {lo : Nat}
theorem oF:∀{l:List (Pv α)} {ys:List α},Tidy l->Pv.loose ys∈l->1<=ys.length
 |[],_,_,h=>by cases h
 | .kept _::l,ys,ht,h=>by
   rcases aO.1 h with h|h
   ·cases h
   ·exact oF (l:=l) ht h
 | .loose zs::l,ys,ht,h=>by
   rcases aO.1 h with h|h
   ·cases h;exact ht.1
   ·exact oF ht.2.2 h
theorem yC(hS:∀x s,S x s->1<=s.length):∀{V:List (Pv α)} {its:List KV},cq (uf all S lo) V its->dQ V<=its.length
 |[],_,_=>aD _
 | .kept r::V,_,⟨s,t,_,h2,h3⟩=>by
   have:=yC hS h2;rw[h3,ar];simp only[dQ];omega
 | .loose ys::V,_,⟨s,t,h1,h2,h3⟩=>by
   have:=yC hS h2;have h4:=cq.len 1 hS (show cq S ys s from h1);rw[h3,ar];simp only[dQ];omega
theorem xy(hS:∀x s,S x s->1<=s.length):∀{V:List (Pv α)} {its:List KV},cq (uf all S lo) V its->(∀ys,Pv.loose ys∈V->1<=ys.length)->V.length<=its.length
 |[],_,_,_=>aD _
 | .kept r::V,_,⟨s,t,h1,h2,h3⟩,hn=>by
   have h4:=xy hS h2 λ ys h=>hn ys (bM _ h);obtain⟨kv,l,e,_⟩:=fV.first h1.1
   rw[h3,ar,e];simp only[aK];omega
 | .loose ys::V,_,⟨s,t,h1,h2,h3⟩,hn=>by
   have h4:=xy hS h2 λ ys h=>hn ys (bM _ h);have h5:=cq.len 1 hS (show cq S ys s from h1);have:=hn ys bD;rw[h3,ar];simp only[aK];omega
theorem Of{V:List (Pv α)}{p:Pv α}(h:V[i]? =some p):∃A B,V=A++p::B/\A.length=i:=by obtain⟨h1,h2⟩:=aC.1 h;refine⟨V.take i,V.drop (i+1),?_,by rw[aX];omega⟩;rw[<-h2,<-bI h1,bj]
theorem T2{V:List (Pv α)}{ys:List α}(hs:cq (uf all S lo) V its)(ht:Tidy V)(hi:V[i]? =some (.loose ys))(hl:i+1<V.length):
 ∃A r B a sy s sb,V=A++.loose ys::.kept r::B/\A.length=i/\cq (uf all S lo) A a/\cq S ys sy/\fV all r s/\lo<=r.h/\cq (uf all S lo) B sb/\its=a++(sy++(s++sb)):=by
 obtain⟨r,hr⟩:=(A3 ht hi).2 _ (aB hl);obtain⟨A,B',hV,hA⟩:=Of hi;have h1:B'[0]? =some (.kept r):=by
  have:V[i+1]? =some (.kept r):=by rw[aB hl,hr]
  rw[hV,bJ an,show i+1 - A.length=1 by omega]at this;exact this
 cases B' with
 |nil=>simp at h1
 |cons q B=>
  have hq:q= .kept r:=by simpa using h1
  subst hq;rw[hV]at hs;obtain⟨a,b,e1,⟨sy,r1,e2,⟨s,sb,e3,e4,e5⟩,e6⟩,e7⟩:=cq.app.1 hs;exact⟨A,r,B,a,sy,s,sb,hV,hA,e1,e2,e3.1,e3.2,e4,by rw[e7,e6,e5]⟩
theorem XB{V:List (Pv α)}{ys:List α}(hs:cq (uf all S lo) V its)(ht:Tidy V)(hi:V[i+1]? =some (.loose ys))(hl:i+1+1=V.length):
 ∃A r a s sy,V=A++.kept r::[Pv.loose ys]/\A.length=i/\cq (uf all S lo) A a/\cq S ys sy/\fV all r s/\lo<=r.h/\its=a++(s++sy):=by
 have h0:V[i]? =some V[i]:=aB an;obtain⟨A,B',hV,hA⟩:=Of h0;have hB:B'=[Pv.loose ys]:=by
  have h1:B'.length=1:=by rw[hV]at hl;simp at hl;omega
  have h2:B'[0]? =some (.loose ys):=by rw[hV,bJ an,show i+1 - A.length=1 by omega]at hi;exact hi
  match B',h1,h2 with
  |[q],_,h2=>simpa using h2
 have hp:∃r,V[i]= .kept r:=by
  cases hv:V[i]with
  |kept r=>exact⟨r,rfl⟩
  |loose zs=>
   rw[hv]at h0;obtain⟨r,hr⟩:=(A3 ht h0).2 _ hi;cases hr
 obtain⟨r,hr⟩:=hp;rw[hr,hB]at hV;rw[hV]at hs;obtain⟨a,b,e1,⟨s,r1,e2,e3,e4⟩,e5⟩:=cq.app.1 hs;exact⟨A,r,a,s,r1,hV,hA,e1,cq.one.1 e3,e2.1,e2.2,by rw[e5,e4]⟩
theorem uP:∀(rs:List cF),dT (iW rs:List (Pv α))=0
 |[]=>rfl
 |r::rs=>by
  have:=uP rs;show dT ([Pv.kept r]++iW rs)=0;rw[fy,this];rfl
theorem xz:∀(rs:List cF),fb (iW rs:List (Pv α))=rs.length
 |[]=>rfl
 |r::rs=>by
  have:=xz rs;show fb ([Pv.kept r]++iW rs)=rs.length+1;rw[fM,this];simp[fb];omega
theorem Al:∀(rs:List cF),dQ (iW rs:List (Pv α))=0
 |[]=>rfl
 |_::rs=>Al rs
theorem JM{rs:List cF}{ys:List α}(h:Pv.loose ys∈iW rs):False:=by obtain⟨r,_,hr⟩:=aM.1 h;cases hr
theorem Og{V:List (Pv α)}(hs:cq (uf all S lo) V its):cq (uf all S lo) (su V) its/\Tidy (su V)/\fb (su V)=fb V/\dQ (su V)=dQ V:=by
 refine⟨?_,tidy_fold (l:=V) (out:=[]) trivial,?_,?_⟩
 ·have:=Nr (out:=[]) (a:=[]) (l:=V) rfl hs;exact this
 ·unfold su;rw[F2];simp[fb]
 ·unfold su;rw[Cz];simp[dQ]
theorem Gw{V A B sa:List (Pv α)}{sb:List KV}{ys:List α}(hS:∀x s,S x s->1<=s.length)(ht:Tidy V)(hV:V=A++.loose ys::.kept r::B)(h3:ys.length<3)(hA:cq (uf all S lo) A a)(hy:cq S ys sy)(hm:oE all S lo true s sa)(hB:cq (uf all S lo) B sb)(hi:its=a++(sy++(s++sb))):
 cq (uf all S lo) ((A++[Pv.loose ys])++(sa++B)) its/\((A++[Pv.loose ys])++(sa++B)).length<=its.length/\dT (su ((A++[Pv.loose ys])++(sa++B)))<dT V/\fb V+dQ V<=fb ((A++[Pv.loose ys])++(sa++B))+dQ ((A++[Pv.loose ys])++(sa++B)):=by
 obtain⟨zs,rs,hz,La,hms⟩:=hm;rw[if_pos rfl]at La;have tt:1<=ys.length:=oF ht (by rw[hV];simp);have oK:cq (uf all S lo) ((A++[Pv.loose ys])++(sa++B)) its:=by refine cq.app.2 ⟨a++sy,s++sb,cq.app.2 ⟨a,sy,hA,cq.one.2 hy,rfl⟩,cq.app.2 ⟨s,sb,hms,hB,rfl⟩,by rw[hi];simp⟩
 refine⟨oK,xy hS oK λ ws hw=>?_,?_,?_⟩
 ·rw[La]at hw;rcases aG.1 hw with h|h
  ·rcases aG.1 h with h|h
   ·exact oF ht (by rw[hV];simp[h])
   ·rw[aE]at h;cases h;exact tt
  ·rcases aG.1 h with h|h
   ·rcases aO.1 h with h|h
    ·cases h;omega
    ·exact(JM h).elim
   ·exact oF ht (by rw[hV];simp[h])
 ·have h1:=Dq (A:=A) (M:=iW rs) (B:=B) tt (show 1<=zs.length by omega) an (uP rs);have e:(A++[Pv.loose ys])++(sa++B)=A++(Pv.loose ys::Pv.loose zs::(iW rs++B)):=by rw[La];simp
  rw[e,hV];have e2:dT (A++(Pv.loose ys::Pv.kept r::B))=dT A+(1+dT B):=by rw[fy,show Pv.loose ys::Pv.kept r::B=[Pv.loose ys]++([Pv.kept r]++B)from rfl,fy,fy,m9,m9];simp[isSmall,h3]
  omega
 ·rw[La,hV];have e1:fb (A++Pv.loose ys::Pv.kept r::B)=fb A+(0+(1+fb B)):=by
   rw[fM,show Pv.loose ys::Pv.kept r::B=[Pv.loose ys]++([Pv.kept r]++B)from rfl,fM,fM];simp[fb]
  have e2:fb ((A++[Pv.loose ys])++(Pv.loose zs::iW rs++B))=fb A+0+(0+rs.length+fb B):=by rw[fM,fM,fM,show Pv.loose zs::iW rs=[Pv.loose zs]++iW rs from rfl,fM,xz];simp[fb]
  have e3:dQ (A++Pv.loose ys::Pv.kept r::B)=dQ A+(ys.length+dQ B):=by rw[fR];simp[dQ]
  have e4:dQ ((A++[Pv.loose ys])++(Pv.loose zs::iW rs++B))=dQ A+ys.length+(zs.length+0+dQ B):=by rw[fR,fR,fR];simp[dQ,Al]
  omega
theorem JN{V A sa:List (Pv α)}{ys:List α}(hS:∀x s,S x s->1<=s.length)(ht:Tidy V)(hV:V=A++.kept r::[Pv.loose ys])(h3:ys.length<3)(hA:cq (uf all S lo) A a)(hy:cq S ys sy)(hm:oE all S lo false s sa)(hi:its=a++(s++sy)):
 cq (uf all S lo) (A++(sa++[Pv.loose ys])) its/\(A++(sa++[Pv.loose ys])).length<=its.length/\dT (su (A++(sa++[Pv.loose ys])))<dT V/\fb V+dQ V<=fb (A++(sa++[Pv.loose ys]))+dQ (A++(sa++[Pv.loose ys])):=by
 obtain⟨zs,rs,hz,La,hms⟩:=hm;rw[if_neg de]at La;have tt:1<=ys.length:=oF ht (by rw[hV];simp);have oK:cq (uf all S lo) (A++(sa++[Pv.loose ys])) its:=
  cq.app.2 ⟨a,s++sy,hA,cq.app.2 ⟨s,sy,hms,cq.one.2 hy,rfl⟩,hi⟩
 refine⟨oK,xy hS oK λ ws hw=>?_,?_,?_⟩
 ·rw[La]at hw;rcases aG.1 hw with h|h
  ·exact oF ht (by rw[hV];simp[h])
  ·rcases aG.1 h with h|h
   ·rcases aG.1 h with h|h
    ·exact(JM h).elim
    ·rw[aE]at h;cases h;omega
   ·rw[aE]at h;cases h;exact tt
 ·have h1:=Dq (A:=A++iW rs) (M:=[]) (B:=[]) (show 1<=zs.length by omega) tt an rfl;have e:A++(sa++[Pv.loose ys])=(A++iW rs)++(Pv.loose zs::Pv.loose ys::([]++[])):=by rw[La];simp
  rw[e,hV];have e2:dT (A++[Pv.kept r,Pv.loose ys])=dT A+(0+1):=by rw[fy,show[Pv.kept r,Pv.loose ys]=[Pv.kept r]++[Pv.loose ys]from rfl,fy,m9,m9];simp[isSmall,h3]
  rw[fy,uP]at h1;have:dT ([]:List (Pv α))=0:=rfl;omega
 ·rw[La,hV];have e1:fb (A++[Pv.kept r,Pv.loose ys])=fb A+1:=by
   rw[fM];simp[fb]
  have e2:fb (A++((iW rs++[Pv.loose zs])++[Pv.loose ys]))=fb A+(rs.length+0+0):=by rw[fM,fM,fM,xz];simp[fb]
  have e3:dQ (A++[Pv.kept r,Pv.loose ys])=dQ A+ys.length:=by rw[fR];simp[dQ]
  have e4:dQ (A++((iW rs++[Pv.loose zs])++[Pv.loose ys]))=dQ A+(0+zs.length+ys.length):=by rw[fR,fR,fR,Al];simp[dQ]
  omega
theorem Oh(h:fV all r s)(hl:s.length<=200):r.h<=50:=by
 have h1:=h.many;refine jc λ hc=>?_;have:=acm (show 51<=r.h+1 by omega);have h51:3^51>200:=by decide
 omega
def Lb(W:World)(B o j:Nat):Bool:=match W.cell? ⟨B,o+j*11,none⟩,W.cell? ⟨B,o+j*11+10,none⟩with
 |some (.bool false),some (.slice _ m _)=>decide (m<3)
 |_,_=>false
def BA(W:World):Value->Nat
 | .slice (some ⟨B,o,none⟩) n _=>(List.range n).countP (Lb W B o)
 |_=>0
theorem count_range{β:Type}(q:β->Bool):∀(l:List β) (p:Nat->Bool),(∀(j:Nat) (x:β),l[j]? =some x->p j=q x)->(List.range l.length).countP p=l.countP q:=by
 intro l
 induction l with
 |nil=>intro p _;rfl
 |cons x l ih=>
  intro p h;rw[aK,List.range_succ_eq_map,gG,gG,List.countP_map,h 0 x rfl,ih (p∘Nat.succ) λ j y hy=>h (j+1) y hy]
theorem JO{K:AY α}{a:az}{ps:List (Pc α)}(h:eU K W a c ps):BA W (.slice a ps.length c)=dT (ps.map Pc.val):=by
 cases ps with
 |nil=>rcases a with _|⟨B,o,_|_⟩<;>rfl
 |cons p0 T3=>
  obtain⟨B,o,rfl⟩:=h.row.some_ cP;show(List.range (p0::T3).length).countP (Lb W B o)=_;unfold dT;rw[List.countP_map];refine count_range _ _ _ λ j p hp=>?_;have hg:=h.row.get hp;unfold Lb;cases p with
  |kept r=>
   have h0:=hg 0 _ rfl;rw[bb]at h0;rw[h0];rfl
  |loose a c ys=>
   have h0:=hg 0 _ rfl;have h1:=hg 10 _ rfl;rw[bb]at h0;rw[h0,h1];rfl
structure rM(all:List Nat)(S:α->List KV->Prop)(lo:Nat)(V V':List (Pv α))(its:List KV):Prop where
 Pa:cq (uf all S lo) V' its
 tidy:Tidy V'
 more:fb V+dQ V<=fb V'+dQ V'
theorem rM.start{V:List (Pv α)}(h:cq (uf all S lo) V its):rM all S lo V (su V) its:=by obtain⟨h1,h2,h3,h4⟩:=Og h;exact⟨h1,h2,an⟩
theorem rM.next{V V1 V2:List (Pv α)}(h:rM all S lo V V1 its)(h2:cq (uf all S lo) V2 its)(h3:fb V1+dQ V1<=fb V2+dQ V2):rM all S lo V (su V2) its:=by obtain⟨e1,e2,e3,e4⟩:=Og h2;exact⟨e1,e2,by have:=h.more;omega⟩
theorem rM.len{V V1:List (Pv α)}(hS:∀x s,S x s->1<=s.length)(h:rM all S lo V V1 its):V1.length<=its.length:=xy hS h.Pa λ _ hy=>oF h.tidy hy
theorem T4{V:List (Pv α)}(h:∀(j:Nat) (p:Pv α),j<V.length->V[j]? =some p->isSmall p=false):dT V=0:=by unfold dT;rw[jT];intro p hp;obtain⟨j,hj⟩:=gI hp;rw[h j p (aC.1 hj).1 hj];decide
end
theorem RO:(Tryz.prog.info? 325).map (λ i=>(i.zero,i.size,i.bytes))=some (some (.agg lG),11,120):=bU
structure pC(W:World)(a:az)(rs:List cF):Prop where
 row:cV cF.cells 9 W a rs
 keys:∀r∈rs,ay W r.k.ka r.k.key
theorem pC.below{W W':World}{a:az}{rs:List cF}(h:pC W a rs)(hb:Below W W W'):pC W' a rs:=⟨h.row.below hb, λ r hr=>(h.keys r hr).below hb⟩
theorem FR.at{a:az}{rs:List cF}(h:FR W n₀ a k rs):pC W a rs:=⟨cV.kM h.1 (λ _=>rfl) de, λ r hr=>(h.2 r hr).1⟩
def lS(h:Nat)(r:cF):Pv a8:=if h<r.h then .kept r else .loose [r.k]
theorem rN(h:p:=by
 exact⟨⟨j+1,_,_,_,an,by simp,rfl,DU,Ng,HN⟩,by simp[intOf];omega⟩
 ):p:=h
theorem T7{a:az}{rs:List cF}(c h:Nat)(hR:pC w a rs)(hl:rs.length<=1000):
 Calls Tryz.prog 163 #[.slice a rs.length c,.int .i64 (h:Int)] w λ e w'=>∃(ps:List (Pc a8)) (q:az) (k:Nat),e= .returned (.slice q ps.length k)/\ps.map Pc.val=rs.map (lS h)/\eU Ay w' q k ps/\Below w w w':=by
 have HR:=ag hR;have SW:(rs.length:Int)<=1000:=an;clear hR;go_enter Tryz.func163,Tryz.ntmps163
 go_wp2_with fail
 go_loopw [5,10] (λ rv iv wr=>∃(j:Nat) (ps:List (Pc a8)) (q:az) (k':Nat),j<=rs.length/\iv= .int .i64 (j:Int)/\rv= .slice q j k'/\Hid (ps.length=j)/\Hid (ps.map Pc.val=(rs.take j).map (lS h))/\Hid (td Ay 144 325 w wr q k' ps)) (λ _ iv _=>rs.length - (intOf iv).toNat)
 case atStart=>exact⟨0,[],none,0,an,rfl,rfl,ag rfl,ag rfl,ag ⟨gb,dA _ _ _ _, λ p hp=>by cases hp⟩⟩
 case round=>
  obtain⟨j,ps,q,k',hj,rfl,rfl,BP,Il,hP⟩:=hrel;by_cases cL:j<rs.length
  ·obtain⟨r,hr⟩:∃r,rs[j]? =some r:=⟨rs[j],by simp[cL]⟩;obtain⟨B,o,rfl⟩:=HR.O.row.some_ an;have hg:wr.rangeAt B (o+j*9) (lW r.k.ka r.k.key.length r.k.kc r.k.at_ r.k.count r.h):=(HR.O.row.below hP.O.base).get hr;have mn:(j:Int)<(rs.length:Int):=an;have zP:(j:Int)<=1000:=an;obtain⟨V,hV⟩:=bL (wr.alloc (.cells (lW r.k.ka r.k.key.length r.k.kc r.k.at_ r.k.count r.h) 273));have pg:Below wr wr V:=by rw[hV];go_grown
   have Hq:V.heap.size=wr.heap.size+1:=by rw[hV];simp
   have pD:V.heap[wr.heap.size]? =some (.cells (lW r.k.ka r.k.key.length r.k.kc r.k.at_ r.k.count r.h) 273):=qK hV;have ru:=aF (W:=V) (B:=wr.heap.size) (cs:=(lW r.k.ka r.k.key.length r.k.kc r.k.at_ r.k.count r.h)) (t:=273) pD;have r8:V.cell? (za wr 8)=some (.int .i64 (r.h:Int)):=(af pD 8).T rfl;have zh:=hP.O.other pg;have HT:Hid ((rs.take (j+1)).map (lS h)=(rs.take j).map (lS h)++[lS h r]):=ag (by rw[aL,hr];simp);have hrm:=ak hr;have gN:=HR.O.keys r hrm;by_cases hh:h<r.h
   ·have hc:decide ((h:Int)<(r.h:Int))=true:=dU;have hcN:decide (h<r.h)=true:=dU;have ES:lS h r= .kept r:=if_pos hh;obtain⟨g',c',w',eh,DA⟩:=zh.put (P:=Tryz.prog) (TS:=282) (z:=(.agg lG)) (bytes:=120) bU RO rfl de de (.kept r) gN (by rw[BP.O];omega);have HN:Hid (td Ay 144 325 w w' (zp g') c' (ps++[.kept r])):=ag DA;have Ng:Hid ((ps++[(.kept r:Pc a8)]).map Pc.val=(rs.take (j+1)).map (lS h)):=ag ER;have DU:Hid ((ps++[(.kept r:Pc a8)]).length=j+1):=ag zz;rw[BP.O,Hq]at eh;simp only[Pc.cells,List.toArray]at eh;rw[hV]at ru r8 eh;clear hr hV pg Hq pD zh hrm gN hh ES DA
    go_wp2_with first
     |(refine dG 273 ?_)
     |(refine lU 273 ?_)
     |fail
    exact rN
   ·have hc:decide ((h:Int)<(r.h:Int))=false:=dU;have hcN:decide (h<r.h)=false:=dU;have ES:lS h r= .loose [r.k]:=if_neg hh;have Eh:V.rangeAt wr 0 (jl r.k.ka r.k.key.length r.k.kc r.k.at_ r.k.count):= λ i v hv=>ru i v (by rcases i with _|_|_|_|_|_|_|_|i<;>first|exact hv|(simp at hv));obtain⟨V2,Gq⟩:=bL (V.alloc (.cells (jl r.k.ka r.k.key.length r.k.kc r.k.at_ r.k.count) 144));have vA:Below V V V2:=by rw[Gq];go_grown
    have ahQ:V2.heap.size=wr.heap.size+1+1:=by rw[Gq];simp[Hq]
    have kW:V2.ownsRow w 144 8 (.slice (zp V) 1 1) 1 ([r.k].flatMap a8.cells):=by rw[Gq];refine⟨rfl,.inr ⟨V.heap.size,1,(jl r.k.ka r.k.key.length r.k.kc r.k.at_ r.k.count),rfl,zh.base.size,ai _ _,cH,by decide,rfl,rfl⟩⟩
    obtain⟨g',c',w',eh,DA⟩:=(zh.other vA).put (P:=Tryz.prog) (TS:=282) (z:=(.agg lG)) (bytes:=120) bU RO rfl de de (.loose (zp V) 1 [r.k]) (.inr ⟨kW, λ y hy=>by rw[aE]at hy;subst hy;exact gN⟩) (by rw[BP.O];omega);have HN:=ag DA;have Ng:Hid ((ps++[(.loose (zp V) 1 [r.k]:Pc a8)]).map Pc.val=(rs.take (j+1)).map (lS h)):=ag ER;have DU:Hid ((ps++[(.loose (zp V) 1 [r.k]:Pc a8)]).length=j+1):=ag zz;rw[BP.O,ahQ]at eh;simp only[Pc.cells,List.toArray,aK,bK,Hq]at eh;rw[Gq]at eh;rw[hV]at ru Eh r8 eh;clear hr hV pg pD zh hrm gN hh ES DA Gq vA kW
    go_wp2_with first
     |(refine dG 273 ?_)
     |(refine dG 144 ?_)
     |(refine lU 273 ?_)
     |fail
    exact rN
  ·obtain rfl:j=rs.length:=an
   go_wp2_with fail
   go_ret;refine⟨ps,q,k',by rw[BP.O];rfl,by rw[Il.O,bd],hP.O.fin,hP.O.base⟩
structure lh(α:Type)where
 a:az
 c:Nat
 ps:List (Pc α)
def lh.v{α:Type}(r:lh α):Value:=.slice r.a r.ps.length r.c
def iM{α:Type}(l:List (lh α)):Nat:=(l.map λ r=>r.ps.length).sum
theorem Ls{α:Type}(l:List (lh α))(j:Nat)(r:lh α)(h:l[j]? =some r):iM (l.take (j+1))=iM (l.take j)+r.ps.length:=by unfold iM;rw[aL,h];simp
theorem An{α:Type}(l:List (lh α))(j:Nat):iM (l.take j)<=iM l:=by
 unfold iM
 conv=>rhs;rw[<-bj j l,aJ,jL]
 omega
theorem oG{α:Type}:∀l:List (lh α),(l.flatMap lh.ps).length=iM l
 |[]=>rfl
 |r::l=>by rw[bf,ar,oG l];simp[iM]
theorem Uq(n:Nat)(h1:1<=n)(h2:n<=100000)(w:World):
 Calls Tryz.prog 253 #[.slice none 0 0,.int .i64 (n:Int)] w λ e w'=>∃(g:Nat) (c:Nat),e= .returned (.slice (zp g) 0 c)/\w'.ownsRow w 275 11 (.slice (zp g) 0 c) 0 []/\Below w w w':=by
 obtain⟨i0,hi,l8,j5,vr⟩:=info_parts yx;have eh:=Lib.run_append_nil_zeros (P:=Tryz.prog) w 270 3 270 275 i0 (.agg lG) .i64 .i64 bU bU hi l8 n an an an qL;have mV:=grownCap_ge w n 0 275;have Ee:=grownCap_le_maxLen w n 0 275 kt;obtain⟨cp,ZI⟩:=bL (grownCap w n 0 275);rw[<-ZI]at eh mV Ee;have CY:Hid ((w.drew.alloc (.cells (Builtin.zeroCells ((.agg lG):Value).cells n++Builtin.zeroCells ((.agg lG):Value).cells (cp - n)) 275)).ownsRow w 275 11 (.slice (zp w) 0 cp) 0 []/\Below w w (w.drew.alloc (.cells (Builtin.zeroCells ((.agg lG):Value).cells n++Builtin.zeroCells ((.agg lG):Value).cells (cp - n)) 275))):=ag ⟨ki w.drew _ cp (cH) Ee EZ,((ah _ w).drew).alloc (cH) _⟩;have e1:¬ ((n:Int)<0):=an;have e2:(0:Int)<(n:Int):=an;have e3:IntKind.i64.wrap (n:Int)=(n:Int):=by rw[aI];omega
 have e4:0<n:=an;have aie:(0:Int)<=(cp:Int):=an;have Eo:w.drew.alloc (.cells (Builtin.zeroCells ((.agg lG):Value).cells n++Builtin.zeroCells ((.agg lG):Value).cells (cp - n)) 275)=(w.alloc (.cells (Builtin.zeroCells ((.agg lG):Value).cells n++Builtin.zeroCells ((.agg lG):Value).cells (cp - n)) 275)).drew:=rfl;rw[Eo]at eh CY;obtain⟨W1,vK⟩:=bL ((w.alloc (.cells (Builtin.zeroCells ((.agg lG):Value).cells n++Builtin.zeroCells ((.agg lG):Value).cells (cp - n)) 275)).drew);rw[<-vK]at eh CY;clear hi l8 j5 vr ZI Ee Eo vK;go_enter Tryz.func253,Tryz.ntmps253
 go_wp2_with fail
 go_ret;exact⟨w.heap.size,cp,rfl,CY.O.1,CY.O.2⟩
theorem xN(h:p:=by
 obtain rfl:j=rows.length:=an
 go_wp2_with fail
 go_ret;have h1:=hn.O;have h2:=hP.O;rw[bd]at h1 h2;exact⟨q,k',by rw[h1];rfl,h2.fin,h2.base⟩
 ):p:=h
theorem xO(h:p:=by
 rw[hn.O]at eh;rw[<-hT]at DA;have HN:=ag DA;have DU:Hid (((rows.take (j+1)).flatMap lh.ps).length=n+r.ps.length):=ag (by rw[hT,ar,hn.O]);clear hr hT hle DA
 go_wp2_with fail
 exact⟨⟨j+1,_,_,_,an,by simp,rfl,DU,HN⟩,by simp[intOf];omega⟩
 ):p:=h
theorem xP(h:p:=by
 obtain⟨r,hr⟩:∃r,rows[j]? =some r:=⟨rows[j],by simp[cL]⟩;have hg:wr.cell? ⟨R,j,none⟩=some (.slice r.a r.ps.length r.c):=by have:=HC.O j _ (show(rows.map lh.v)[j]? =some r.v by simp[hr]);rw[aN]at this;rw[hw.O];exact this
 have mn:(j:Int)<(rows.length:Int):=an;have zP:(j:Int)<=10:=an;have Mg:=Ls rows j r hr;have SC:=An rows (j+1);have hmw:IntKind.i64.wrap ((m:Int)+(r.ps.length:Int))=((m+r.ps.length:Nat):Int):=by rw[aI];have:=HL.O.2;have:=hm.O;omega
 have zH:decide (((m+r.ps.length:Nat):Int)<0)=false:=dU;have ajE:¬ ((m:Int)+(r.ps.length:Int)<0):=an;have HM:Hid (m+r.ps.length=iM (rows.take (j+1))):=ag (by rw[Mg,hm.O]);clear hr Mg SC
 go_wp2_with fail
 exact⟨⟨j+1,m+r.ps.length,an,by simp,by simp,HM,hw⟩,by simp[intOf];omega⟩
 ):p:=h
theorem OI{R:Nat}{rows:List (lh aH)}(hc:w.rangeAt R 0 (rows.map lh.v))(hr:∀r∈rows,eU r9 w r.a r.c r.ps)(hl:rows.length<=10)(h1:1<=iM rows)(h2:iM rows<=10000):
 Calls Tryz.prog 238 (sg (zp R) rows.length rows.length) w λ e w'=>∃(a:az) (k:Nat),e= .returned (.slice a (rows.flatMap lh.ps).length k)/\eU r9 w' a k (rows.flatMap lh.ps)/\Below w w w':=by
 have HC:=ag hc;have HR:=ag hr;have HL:=dO h1 h2;have SW:(rows.length:Int)<=10:=an;clear hc hr h1 h2;go_enter Tryz.func238,Tryz.ntmps238
 go_wp2_with fail
 go_loopw [3,11] (λ sv iv wr=>∃j m:Nat,j<=rows.length/\iv= .int .i64 (j:Int)/\sv= .int .i64 (m:Int)/\Hid (m=iM (rows.take j))/\Hid (wr=w)) (λ _ iv _=>rows.length - (intOf iv).toNat)
 case atStart=>exact⟨0,0,an,rfl,rfl,ag rfl,ag rfl⟩
 case round=>
  obtain⟨j,m,hj,rfl,rfl,hm,hw⟩:=hrel;by_cases cL:j<rows.length
  ·exact xP
  ·obtain rfl:j=rows.length:=an;have Mg:m=iM rows:=by rw[hm.O,bd]
   have HG:=ag (Uq m (cm HL.O.1) (cm HL.O.2) wr);have HW:=hw;clear Mg
   go_wp2_with first
    |((with_reducible refine HG.O.mono ?_);rintro e w2 ⟨g,cg,rfl,kW,hbg⟩;have HP0:Hid (td r9 101 275 w w2 (zp g) cg []):=ag E0;clear kW hbg)
    |fail
   go_loopw [6,27] (λ rv iv wr=>∃(j n:Nat) (q:az) (k':Nat),j<=rows.length/\iv= .int .i64 (j:Int)/\rv= .slice q n k'/\Hid (((rows.take j).flatMap lh.ps).length=n)/\Hid (td r9 101 275 w wr q k' ((rows.take j).flatMap lh.ps))) (λ _ iv _=>rows.length - (intOf iv).toNat)
   case atStart=>exact⟨0,0,_,_,an,rfl,rfl,ag rfl,HP0⟩
   case round=>
    obtain⟨j,n,q,k',hj,rfl,rfl,hn,hP⟩:=hrel;by_cases cL:j<rows.length
    ·obtain⟨r,hr⟩:∃r,rows[j]? =some r:=⟨rows[j],by simp[cL]⟩;have hg:wr.cell? ⟨R,j,none⟩=some (.slice r.a r.ps.length r.c):=by have:=HC.O j _ (show(rows.map lh.v)[j]? =some r.v by simp[hr]);rw[aN]at this;exact carry hP.O.base this
     have mn:(j:Int)<(rows.length:Int):=an;have zP:(j:Int)<=10:=an;have hT:(rows.take (j+1)).flatMap lh.ps=(rows.take j).flatMap lh.ps++r.ps:=by rw[aL,hr];simp
     have hle:=An rows (j+1);rw[<-oG (rows.take (j+1)),hT,ar]at hle;obtain⟨a',c',w',eh,DA⟩:=hP.O.WR (P:=Tryz.prog) (TS:=270) (z:=(.agg lG)) (bytes:=120) bU yx rfl de de (HR.O r (ak hr)) (cm HL.O.2);exact xO
    ·exact xN
end
end Go.Proofs.YtbiififbfefkjaaGreatDoor

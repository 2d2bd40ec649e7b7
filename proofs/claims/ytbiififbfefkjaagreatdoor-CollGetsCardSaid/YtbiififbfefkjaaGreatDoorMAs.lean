/- The store, part 19. -/
import Derived.Test.YtbiififbfefkjaaGreatDoorMAo
import Derived.Test.YtbiififbfefkjaaGreatDoorMAp
import Derived.Test.YtbiififbfefkjaaGreatDoorMAq
set_option linter.unusedSimpArgs false
set_option linter.unusedVariables false
set_option maxRecDepth 100000
set_option maxHeartbeats 16000000
namespace Go.Proofs.YtbiififbfefkjaaGreatDoor
open Go.RowKit Go.Shelf
variable{ik all:List Nat}{n h j cf c:Nat}{its:List KV}{r:cF}{x:bX}{es os:List bX}{p:Prop}{w:World}
section
attribute [local go_sem] Oper.semAt_some
attribute [-go_sem] Builtin.append_
structure Ia(ik all:List Nat)(h:Nat)(rs:List cF)(its:List KV):Prop where
 ext:∃m,all=ik++m
 pot:2*all.length+80*(its.length/3^h)<=2*ik.length+240*its.length
 Pa:cq (λ r s=>fV all r s/\h<=r.h) rs its\/∃r,rs=[r]/\IM all r its
theorem Ia.start{rs:List cF}(h:XE ik all 0 n rs its):Ia ik all 0 rs its:=by refine⟨h.ext,?_,h.Pa⟩;have h1:=h.cost;have h2:=h.pay;rw[Nat.pow_zero]at*;rw[Nat.div_one];omega
theorem Ia.kept(h:IM all r its):Ia all all 0 [r] its:=
 ⟨⟨[],(cj _).symm⟩,by rw[Nat.pow_zero,Nat.div_one];omega,.inr ⟨r,rfl,h⟩⟩
theorem Ia.next{XH On:List Nat}{rs rs':List cF}(h1:Ia ik XH h rs its)(h2:XE XH On (h+1) n rs' its):Ia ik On (h+1) rs' its:=by
 refine⟨?_,?_,h2.Pa⟩
 ·obtain⟨m,e1⟩:=h1.ext;obtain⟨m2,e2⟩:=h2.ext;exact⟨m++m2,by rw[e2,e1,aS]⟩
 ·have e1:=h1.pot;have e2:=h2.cost;have e3:n<=its.length/3^(h+1):=(gz (lM de)).2 h2.pay;have e4:its.length/3^(h+1)=its.length/3^h/3:=by rw[cK,cQ]
  omega
theorem Ia.cost{rs:List cF}(h1:Ia ik all h rs its):all.length<=ik.length+120*its.length:=by have:=h1.pot;omega
theorem Oo{lo:Nat}(r:cF)(s:List KV)(h:fV all r s/\lo<=r.h):3^(lo+1)<=s.length:=by have:=h.1.many;have:=acm (show lo+1<=r.h+1 by have:=h.2;omega);omega
theorem Ia.many{rs:List cF}(h1:Ia ik all h rs its)(h2:1<rs.length):cq (λ r s=>fV all r s/\h<=r.h) rs its/\2*3^(h+1)<=its.length:=by
 rcases h1.Pa with h3|⟨r,h3,_⟩
 ·refine⟨h3,?_⟩;have:=h3.len (3^(h+1)) Oo;have:2*3^(h+1)<=rs.length*3^(h+1):=fG _ h2;omega
 ·rw[h3]at h2;simp at h2
theorem Ia.LB{rs:List cF}(h1:Ia ik all h rs its):rs.length<=its.length:=by
 rcases h1.Pa with h3|⟨r,h3,n,h4,_⟩
 ·have:=h3.len 1 λ r s hg=>by
   have h2:=Oo r s hg;have h4:0<3^(h+1):=lM de;omega
  omega
 ·obtain⟨kv,l,e,_⟩:=h4.first
  rw[h3,e];simp
theorem aeE{l:Nat}(h1:2*3^(h+1)<=l)(h2:l<=200):h<=10:=by
 refine jc λ hc=>?_;have:=acm (show 12<=h+1 by omega);have h51:3^12>200:=by decide
 omega
theorem Oq{all:List Nat}{h:Nat}:∀{rs:List cF} {its:List KV},cq (λ r s=>fV all r s/\h<=r.h) rs its->cq (uf all (wQ all h) (h+1)) (rs.map (lS h)) its
 |[],_,hs=>hs
 |r::rs,_,⟨s,t,h1,h2,h3⟩=>by
  refine⟨s,t,?_,Oq h2,h3⟩;unfold lS;by_cases hh:h<r.h
  ·rw[if_pos hh];exact⟨h1.1,hh⟩
  ·rw[if_neg hh];refine cq.one.2 ?_;have:r.h=h:=cm h1.2;obtain⟨k,h'⟩:=r;dsimp only at this;subst this;exact h1.1
theorem GA(h:Nat):∀(rs:List cF),fb (rs.map (lS h))+dQ (rs.map (lS h))=rs.length
 |[]=>rfl
 |r::rs=>by
  have ih:=GA h rs;rw[bF,aK];have e1:fb (lS h r::rs.map (lS h))=fb [lS h r]+fb (rs.map (lS h)):=fM [_] _;have e2:dQ (lS h r::rs.map (lS h))=dQ [lS h r]+dQ (rs.map (lS h)):=fR [_] _;have e3:fb [lS h r]+dQ [lS h r]=1:=by unfold lS;split<;>simp[fb,dQ]
  omega
theorem Ia.fin{rs:List cF}(h1:Ia ik all h rs its)(h2:rs.length<=1)(hr:cR (its.map Prod.fst))(hl:its.length<=200):(rs=[]/\fx all 0 0 0 its)\/∃r,rs=[r]/\fx all r.k.at_ r.h r.k.count its:=by
 have DQ:∀r,IM all r its->fx all r.k.at_ r.h r.k.count its:= λ r ⟨n,g1,g2⟩=>by
  obtain⟨kv,l,e,_⟩:=g1.first
  refine⟨λ hc=>(by rw[e]at hc;cases hc), λ _=>⟨?_,?_,n,g1⟩,by rw[g2,g1.count],hr⟩
  ·have:=g1.node.1.Fk;rcases eB r.k.at_ with h0|h0
   ·rw[h0]at this;simp at this
   ·exact h0
  ·have h3:=FO g1;have hf:1<=n.Ax:=by
    have ho:=g1.node.2.1;cases n with
    |leaf xs=>have:=ho.1.MK;simpa[Nd.Ax,Nd.n1,Nd.n2]using this
    |inner xs=>have:=gM.ML ho;simp only[Nd.Ax,Nd.n1,Nd.n2];omega
   refine jc λ hc=>?_;have h4:=acm (show 9<=r.h by omega);have h5:1*3^r.h<=n.Ax*3^r.h:=fG _ hf;have h6:3^9>200:=by decide
   omega
 rcases h1.Pa with h3|⟨r,h3,h4⟩
 ·match rs,h2,h3 with
  |[],_,h3=>cases h3;exact .inl ⟨rfl,⟨λ _=>⟨rfl,rfl⟩, λ h=>absurd rfl h,rfl,hr⟩⟩
  |[r],_,h3=>exact .inr ⟨r,rfl,DQ r (cq.one.1 h3).1.root.top⟩
  |_::_::_,h2,_=>simp at h2
 ·exact .inr ⟨r,h3,DQ r h4⟩
abbrev Lq(x:bX):Array Value:=(DM (cE x.id) x.g x.m x.s x.del x.at_ (kindOf x.del) (fN x.del x.n))
def sM(x:bX)(es:List bX)(j:Nat)(b:Bool)(os:List bX):Prop:=os.Perm ((if b then[x]else[])++es.take j)
theorem sM.next{y:bX}{b:Bool}(h:sM x es j b os)(hy:es[j]? =some y):sM x es (j+1) b (os++[y]):=by unfold sM at h⊢;rw[aL,hy,fY,<-aS];exact h.append_right [y]
theorem sM.put(h:sM x es j false os):sM x es j true (os++[x]):=by unfold sM at h⊢;simp only[ez,if_false,bn,if_true]at h⊢;exact(h.append_right [x]).T (gw)
theorem xH(h:p:=by
 have:=e1.length_eq;rw[ar,aX]at this;have:(if b=true then[x]else[]).length<=1:=by split<;>simp
 omega
 ):p:=h
theorem Yk{a:az}(c:Nat)(h:cV nD 11 w a es)(hl:es.length<=1000)(mr:∀y∈es,cE y.id≠cE x.id):
 Calls Tryz.prog 16 (ZX a es.length c (.agg (Lq x))) w λ e w'=>∃(a':az) (k:Nat) (os:List bX),e= .returned (.slice a' os.length k)/\os.Perm (x::es)/\cV nD 11 w' a' os/\Below w w w':=by
 obtain⟨w1,bY⟩:=bL (w.alloc (.cells (Lq x) 57));have cN:Below w w w1:=by rw[bY];go_grown
 have eb:w1.heap[w.heap.size]? =some (.cells (Lq x) 57):=qK bY;have j5:w1.heap.size=w.heap.size+1:=by rw[bY];simp
 obtain⟨n,hn⟩:=bL es.length;have kH:(n:Int)<=1000:=an;have H:=eS h hn mr;have H1:=eS cN j5 eb;have qj:=ag bY;rw[<-hn];clear h hl mr hn cN eb j5 bY;have Aw:Hid (∀(W:World) (q:az) (L k:Nat) (os:List bX) (y:bX) (cs:Array Value),cs=Lq y->L=os.length->L<=2000->Below w w W->w.heap.size+1<=W.heap.size->W.heap[w.heap.size]? =some (.cells (Lq x) 57)->W.ownsRow (w+1) 57 11 (.slice q L k) L (os.flatMap nD)->∃g' c' w5,(Builtin.append_ #[38,38] 38 (fP q L k (zp W) 1 1)).run Tryz.prog (W.alloc (.cells cs 57))= .ok (.slice (zp g') (L+1) c') w5/\Hid (L+1=(os++[y]).length/\w5.ownsRow (w+1) 57 11 (.slice (zp g') (L+1) c') (L+1) ((os++[y]).flatMap nD)/\Below w w w5/\w.heap.size+1<=w5.heap.size/\w5.heap[w.heap.size]? =some (.cells (Lq x) 57))/\w5.rangeAt w 0 (nD x)):=ag λ W q L k os y cs Ki hL VQ hb hz hx hr=>by subst Ki;obtain⟨g',c',w5,eh,r6,Iz⟩:=gR (P:=Tryz.prog) 38 57 (.agg vN) 11 128 bU XX rfl de (nD y) (GD y) (XW y) hr an an hz;have BO:=(Iz.below.block w (fJ _)).T hx;exact⟨g',c',w5,eh,ag ⟨by simp[hL],by rw[bV];simpa using r6,hb.T (Iz.below.mono (bk _)),aj hz Iz.below.size,BO⟩,aF BO⟩
 unfold Lq at Aw H1 qj⊢;go_enter Tryz.func16,Tryz.ntmps16
 go_wp2_with fail
 rw[<-qj.O]
 go_loopw [5,6,7] (λ ov dv iv wr=>∃(j:Nat) (b:Bool) (q:az) (L k:Nat),j<=n/\iv= .int .i64 (j:Int)/\dv= .bool b/\ov= .slice q L k/\Hid (∃os,sM x es j b os/\L=os.length/\wr.ownsRow (w+1) 57 11 (.slice q L k) L (os.flatMap nD))/\Hid (Below w w wr/\w.heap.size+1<=wr.heap.size/\wr.heap[w.heap.size]? =some (.cells (Lq x) 57))) (λ _ _ iv _=>n - (intOf iv).toNat)
 case atStart=>exact⟨0,false,none,0,0,aD _,rfl,rfl,rfl,ag ⟨[],by simp[sM],rfl,⟨rfl,.inl ⟨rfl,rfl⟩⟩⟩,ag ⟨H1.O.1,by have:=H1.O.2.1;omega,H1.O.2.2⟩⟩
 case round=>
  obtain⟨j,b,q,L,k,hj,rfl,rfl,rfl,hos,hB⟩:=hrel;have hx:=hB.O.2.2;have nt:=hB.O.1;obtain⟨W1,vK⟩:=bL wr.drew;obtain⟨W2,hW2⟩:=bL W1.drew;have Yl:Below wr wr W1:=by rw[vK];exact(ah _ wr).drew
  have IU:Below wr wr W2:=by rw[hW2];exact Yl.drew
  have HW:=dO vK hW2;have eb:=(Yl.block _ (cm hB.O.2.1)).T hx;have jP:=(IU.block _ (cm hB.O.2.1)).T hx;have x1:=(af eb 0).T rfl;clear vK hW2;have x0:=(af hx 0).T rfl;have hrx:=aF hx;by_cases cL:j<n
  ·have mn:(j:Int)<(n:Int):=an;obtain⟨y,hy⟩:∃y,es[j]? =some y:=⟨_,aB (cm H.O.2.1)⟩;obtain⟨B,o,hA⟩:=H.O.1.some_ (cm H.O.2.1);have Ak:w.rangeAt B (o+j*11) (nD y):=by
    have h1:=H.O.1;rw[hA]at h1;exact h1.get hy
   have hry:=nm Ak nt;have c0:=hry 0 _ rfl;rw[bb]at c0;have acC:=nm hry Yl;have c1:=acC 0 _ rfl;rw[bb]at c1;have ma:=JT (H.O.2.2 y (ak hy));subst hA;obtain⟨cb,hcb⟩:∃cb:Bool,∀W:World,(binOp BinOp.leq 9 (.string (cE x.id)) (.string (cE y.id))).run Tryz.prog W= .ok (.bool cb) W:=⟨_, λ W=>rfl⟩;obtain⟨os,e1,e2,e3⟩:=hos.O;have hL9:L<=1001:=by exact xH
   obtain⟨g1,k1,u1,ID,HP1,adR⟩:=Aw.O W2 q L k os y _ rfl e2 an (nt.T (IU.mono nt.size)) (aj hB.O.2.1 IU.size) jP (dC.row IU e3);have adS:=nm hry IU;have Gc:=dO (e1.next hy) HP1.O;cases b with
   |true=>
    have HOS:=ag (show sM x es (j+1) true (os++[y])from e1.next hy);clear cL hcb hos Aw HP1 e1 e2 e3 hL9 Yl IU Ak hy adR hry acC hrx hx eb jP nt;unfold nD at adS
    go_wp2_with fail
    refine bP 12 ?_;refine Ra [(0,true),(1,true),(2,true),(3,false),(4,false),(5,false),(6,false),(7,false),(8,false),(9,false),(10,false),(11,true)] ?_
    iterate 3 refine tO ?_
    iterate 8 refine tF ?_
    refine tO ?_;refine au 0 rfl ?_;refine dP ?_;go_simp;rw[<-HW.O.1]
    go_wp2_with fail
    refine bP 8 ?_;refine tP [0,1,2,3,4,5,6,7] ?_
    iterate 8 refine tO ?_
    refine au 0 rfl ?_;refine dP ?_;go_simp;rw[<-HW.O.2]
    go_wp2_with first
     |(refine dG 57 ?_)
     |fail
    exact⟨⟨j+1,true,_,_,_,an,by simp,rfl,rfl,ag ⟨os++[y],HOS.O,Gc.O.2.1,Gc.O.2.2.1⟩,ag Gc.O.2.2.2⟩,by simp[intOf];omega⟩
   |false=>
    cases cb with
    |false=>
     have HOS:=ag (show sM x es (j+1) false (os++[y])from e1.next hy);clear cL hos Aw HP1 e1 e2 e3 hL9 Yl IU Ak hy adR hry acC hrx hx eb jP nt;unfold nD at adS
     go_wp2_with fail
     refine bP 12 ?_;refine tP [0,1,2,3,4,5,6,7,8,9,10,11] ?_
     iterate 12 refine tO ?_
     refine au 0 rfl ?_;refine dP ?_;go_simp;rw[<-HW.O.1]
     go_wp2_with fail
     refine bP 8 ?_;refine tP [0,1,2,3,4,5,6,7] ?_
     iterate 8 refine tO ?_
     refine au 0 rfl ?_;refine dP ?_;go_simp;rw[<-HW.O.2]
     go_wp2_with first
      |(refine dG 57 ?_)
      |fail
     exact⟨⟨j+1,false,_,_,_,an,by simp,rfl,rfl,ag ⟨os++[y],HOS.O,Gc.O.2.1,Gc.O.2.2.1⟩,ag Gc.O.2.2.2⟩,by simp[intOf];omega⟩
    |true=>
     obtain⟨g2,k2,u2,Ck,Sa,ah5⟩:=Aw.O W1 q L k os x _ rfl e2 an (nt.T (Yl.mono nt.size)) (aj hB.O.2.1 Yl.size) eb (dC.row Yl e3);have ah6:W1.rangeAt w 0 (nD x):=aF eb;obtain⟨U,hU⟩:=bL u2.drew;have HU:=ag hU;have hbu:Below u2 u2 U:=by rw[hU];exact(ah _ u2).drew
     clear hU;obtain⟨g3,k3,u3,we,HP3, -⟩:=Aw.O U _ _ _ (os++[x]) y _ rfl Sa.O.1 an (Sa.O.2.2.1.T (hbu.mono Sa.O.2.2.1.size)) (aj Sa.O.2.2.2.1 hbu.size) ((hbu.block _ (cm Sa.O.2.2.2.1)).T Sa.O.2.2.2.2) (dC.row hbu Sa.O.2.1);have adT:u2.rangeAt B (o+j*11) (nD y):=nm Ak Sa.O.2.2.1;have ah7:=nm adT hbu;have c2:=adT 0 _ rfl;rw[bb]at c2;have x2:=(af Sa.O.2.2.2.2 0).T rfl;have HOS:=ag (show sM x es (j+1) true (os++[x]++[y])from e1.put.next hy);clear cL hos Aw HP1 Sa e1 e2 e3 hL9 Yl IU hbu Ak hy adR ah5 hry acC adS adT hrx hx eb jP nt ID Gc;unfold nD at ah7 ah6
     go_wp2_with fail
     refine bP 12 ?_;refine tP [0,1,2,3,4,5,6,7,8,9,10,11] ?_
     iterate 12 refine tO ?_
     refine au 0 rfl ?_;refine dP ?_;go_simp;rw[<-HW.O.1]
     go_wp2_with first
      |(refine dG 57 ?_)
      |fail
     refine bP 8 ?_;refine tP [0,1,2,3,4,5,6,7] ?_
     iterate 8 refine tO ?_
     refine au 0 rfl ?_;refine dP ?_;go_simp;rw[<-HU.O]
     go_wp2_with first
      |(refine dG 57 ?_)
      |fail
     exact⟨⟨j+1,true,_,_,_,an,by simp,rfl,rfl,ag ⟨os++[x]++[y],HOS.O,HP3.O.1,HP3.O.2.1⟩,ag HP3.O.2.2⟩,by simp[intOf];omega⟩
  ·obtain rfl:j=n:=an;have vW:¬ (j:Int)<(j:Int):=an;obtain⟨os,e1,e2,e3⟩:=hos.O;have hL9:L<=1001:=by
    exact xH
   unfold sM at e1;rw[H.O.2.1,bd]at e1;cases b with
   |true=>
    have HE:=eS (show os.Perm (x::es)from e1) e2 (cV.kM (n₀:=w.heap.size+1) (k:=L) (c:=k) (e:=57) e3 GD de);clear cL hos Aw e1 e2 e3 hL9 hrx hx eb jP nt Yl IU
    go_wp2_with fail
    go_ret;exact⟨q,k,os,by rw[<-HE.O.2.1];rfl,HE.O.1,HE.O.2.2,hB.O.1⟩
   |false=>
    obtain⟨g2,k2,u2,Ck,Sa, -⟩:=Aw.O wr q L k os x _ rfl e2 an nt hB.O.2.1 hx e3;have HE:=dO (show(os++[x]).Perm (x::es)from(List.Perm.append_right [x] e1).T gw) (cV.kM (n₀:=w.heap.size+1) (k:=L+1) (c:=k2) (e:=57) Sa.O.2.1 GD de);clear cL hos Aw e1 e2 e3 hL9 hx eb jP nt Yl IU;unfold nD at hrx
    go_wp2_with first
     |(refine dG 57 ?_)
     |fail
    go_ret;exact⟨_,k2,os++[x],by rw[<-Sa.O.1];rfl,HE.O.1,HE.O.2,Sa.O.2.2.1⟩
theorem xV(h:p:=by
 rcases cX n 3 with h4|h4
 ·right;have:=Vq h4;rw[dJ];have:=Hh.O.2.1;omega
 ·rcases HFF.O.2.2.2 with h5|h5
  ·exact .inl h5
  ·have h6:=h5.2 ys ail.O;have:=Hh.O.2.1;omega
 ):p:=h
theorem agk(h:p:=by
 have I1:=ag LR;have qb:=oT kz jN Em gk;have HM:=ag hm
 first
  |(have:=zA;clear this;have abv:=ag (Ur Bw ey hm ht LR hF hW hP hs hl kz))
  |(have abv:=ag (Us Bw ey hm ht hh LR hF hW hP hs hl kz))
 have CX:=dO hF hW
 first
  |(have:=zA;clear this;have ack:=ag (λ (V':List (Pv aH)) (h:rM (aw ey) Ho 0 (ps.map Pc.val) V' its) (h':dT V'=0\/V'.length<=1)=>XF (t:=1) (.inl rfl) h h'))
  |(have ack:=ag (λ (V':List (Pv a8)) (h:rM (aw ey) (wQ (aw ey) hh) (hh+1) (ps.map Pc.val) V' its) (h':dT V'=0\/V'.length<=1)=>XF (t:=2) (.inr ⟨rfl,h2⟩) h h'))
 first
  |(have:=zA;clear this;clear LR kz jN Em gk hm hF hW hP hs hl)
  |(clear LR kz jN Em gk hm hF hW hP hs hl h2)
 go_enter agl,agm
 go_wp2_with first
  |((with_reducible refine abv.O.mono ?_);rintro e w1 ⟨qs,q0,k0,rfl,hQ,hR,zO,cN⟩;have HQ:=oT hQ hR zO cN;clear hQ hR zO cN)
  |fail
 obtain⟨f,hf1,Nh,MQ,MB⟩:=ack.O _ HQ.O.2.1 (by rw[aR];exact HQ.O.2.2.1);have HFF:=oT hf1 Nh MQ MB;have abu:qs.length<=200:=by have h1:=HQ.O.2.1.len agn;rw[aR]at h1;have:=qb.O.1;omega
 have hq6:(qs.length:Int)<=200:=an;have vK:=CX.O.2.below HQ.O.2.2.2;have qj:=ag vK
 first
  |(have:=zA;clear this;have rB:Hid (pZ Bw w1 w1 b cf ey none 0 []/\yT (aw ey) Ho ht f (aw ey) (aw ey).length (qs.map Pc.val) [] 0 its):=ag ⟨pZ.start vK (CX.O.1.below HQ.O.2.2.2) HM.O,yT.start E2 (MB.imp id λ h=>h.1)⟩)
  |(have rB:Hid (pZ Bw w1 w1 b cf ey none 0 []/\yT (aw ey) (wQ (aw ey) hh) ht f (aw ey) (aw ey).length (qs.map Pc.val) [] 0 its):=ag ⟨pZ.start vK (CX.O.1.below HQ.O.2.2.2) HM.O,yT.start E2 (MB.imp id λ h=>h.1)⟩)
 first
  |(have:=zA;clear this;have LO:Hid (dQ (qs.map Pc.val)<=its.length/\dQ (qs.map Pc.val)*3^ht<=its.length):=ag ⟨yC yF HQ.O.2.1.Pa,by have h:=BC (3^ht) (λ x s h=>by rw[I1.O];exact yF x s h) HQ.O.2.1.Pa;exact h⟩)
  |(have LO:Hid (dQ (qs.map Pc.val)<=its.length/\dQ (qs.map Pc.val)*3^ht<=its.length):=ag ⟨yC BM HQ.O.2.1.Pa,by have h:=BC (3^ht) (λ x s h=>by rw[I1.O];exact fV.many h) HQ.O.2.1.Pa;exact h⟩)
 clear hf1 Nh MQ MB vK
 first
  |(have:=zA;clear this
    go_loopw [11,24] (λ rv iv wr=>∃(i:Nat) (rs:List cF) (q:az) (k':Nat) (b':az) (iC:Nat) (eR:List Piece),i<=qs.length/\iv= .int .i64 (i:Int)/\rv= .slice q rs.length k'/\Hid (pZ Bw w1 wr b' iC eR q k' rs)/\Hid (yT (aw ey) Ho ht f (aw eR) (aw ey).length ((qs.map Pc.val).drop i) rs (dQ ((qs.map Pc.val).take i)) its)) (λ _ iv _=>qs.length - (intOf iv).toNat))
  |(go_loopw [11,24] (λ rv iv wr=>∃(i:Nat) (rs:List cF) (q:az) (k':Nat) (b':az) (iC:Nat) (eR:List Piece),i<=qs.length/\iv= .int .i64 (i:Int)/\rv= .slice q rs.length k'/\Hid (pZ Bw w1 wr b' iC eR q k' rs)/\Hid (yT (aw ey) (wQ (aw ey) hh) ht f (aw eR) (aw ey).length ((qs.map Pc.val).drop i) rs (dQ ((qs.map Pc.val).take i)) its)) (λ _ iv _=>qs.length - (intOf iv).toNat))
 case atStart=>exact⟨0,[],none,0,b,cf,ey,an,rfl,rfl,ag rB.O.1,ag rB.O.2⟩
 case round=>
  obtain⟨i,rs,q,k',b1,cf1,Lu,hi,rfl,rfl,HL,HI⟩:=hrel;obtain⟨W1,rfl⟩:=bL wr;by_cases cL:i<qs.length
  ·obtain⟨p,hp⟩:∃p,qs[i]? =some p:=⟨qs[i],by simp[cL]⟩;have Il:(qs.map Pc.val)[i]? =some p.val:=by rw[aW,hp];rfl
   have mn:(i:Int)<(qs.length:Int):=an;have zP:(i:Int)<=200:=an;obtain⟨Bq,oq,rfl⟩:=HQ.O.1.row.some_ an;have bA:=(HQ.O.1.only ago agp qj.O HL.O.only).row.get hp;have LQ:(qs.map Pc.val).drop i=p.val::(qs.map Pc.val).drop (i+1):=ph Il;have Nj:(qs.map Pc.val).take (i+1)=(qs.map Pc.val).take i++[p.val]:=by rw[aL,Il];rfl
   have ajH:rs.length<=200:=iX HI.O.LB qb.O.1;have QN:=ak hp;have hI:=HI.O;rw[LQ]at hI;rcases p with r|⟨pa,pc,ys⟩
   ·simp only[Pc.cells]at bA;obtain⟨V,hV⟩:=bL (W1.alloc (.cells (vM r.k.ka r.k.key.length r.k.kc r.k.at_ r.k.count r.h) Lw));have pg:Below W1 W1 V:=by rw[hV];go_grown
    have Hq:V.heap.size=W1.heap.size+1:=by rw[hV];simp
    have pD:V.heap[W1.heap.size]? =some (.cells (vM r.k.ka r.k.key.length r.k.kc r.k.at_ r.k.count r.h) Lw):=qK hV;have p0:V.cell? (za W1 0)=some (.bool true):=(af pD 0).T rfl;have QM:V.rangeAt W1 1 (lW r.k.ka r.k.key.length r.k.kc r.k.at_ r.k.count r.h):=pk [.bool true] (lW r.k.ka r.k.key.length r.k.kc r.k.at_ r.k.count r.h) [.slice none 0 0] (aF pD);obtain⟨g',c',w',eh,hN,_⟩:=(HL.O.below pg).put r (HQ.O.1.each _ QN) an;have HN:=ag hN
    first
     |(have:=zA;clear this;have HI2:Hid (yT (aw ey) Ho ht f (aw Lu) (aw ey).length ((qs.map Pc.val).drop (i+1)) (rs++[r]) (dQ ((qs.map Pc.val).take (i+1))) its):=ag (by
        rw[Nj,fR];exact yT.kept HFF.O.2.1 hI))
     |(have HI2:Hid (yT (aw ey) (wQ (aw ey) hh) ht f (aw Lu) (aw ey).length ((qs.map Pc.val).drop (i+1)) (rs++[r]) (dQ ((qs.map Pc.val).take (i+1))) its):=ag (by
        rw[Nj,fR];exact yT.kept HFF.O.2.1 hI))
    rw[Hq]at eh;simp only[cF.cells,a8.cells,bS,bn,List.toArray]at eh;rw[hV]at p0 QM eh;have wP:Hid ((rs++[r]).length=rs.length+1):=ag cP;clear hp Il LQ Nj QN hI hV pg Hq pD hN
    go_wp2_with first
     |(refine dG Lw ?_)
     |(refine lU Lw ?_)
     |(refine dG 273 ?_)
     |fail
    exact⟨⟨i+1,rs++[r],_,_,b1,cf1,Lu,an,by simp,by rw[wP.O],HN,HI2⟩,by simp[intOf];omega⟩
   ·have AU:f<=ys.length:=HFF.O.2.2.1 ys (ak Il);have abw:dQ ((qs.map Pc.val).take i)+ys.length<=dQ (qs.map Pc.val):=by
     have h1:dQ ((qs.map Pc.val).take (i+1))<=dQ (qs.map Pc.val):=by
      conv=>rhs;rw[<-bj (i+1) (qs.map Pc.val),fR]
      omega
     rw[Nj,fR]at h1;simpa[dQ,Pc.val]using h1
    have tt:1<=ys.length:=cm HFF.O.1;have abx:ys.length<=200:=iX LO.O.1 qb.O.1;obtain⟨n,hn⟩:=bL ys.length;obtain⟨m,hm⟩:=bL ((n+5)/6);obtain⟨x6,uW⟩:=bL (n+6);obtain⟨x5,BO⟩:=bL (n+5);have hA:IntKind.i64.wrap ((n:Int)+6)=(x6:Int):=by rw[aI];omega
    have hB:IntKind.i64.wrap ((x6:Int) - 1)=(x5:Int):=by rw[aI];omega
    have hC1:((x5:Int)).tdiv 6=(m:Int):=by rw[gF an];omega
    have hC:(x5:Int)/6=(m:Int):=an;have hD:IntKind.i64.wrap (m:Int)=(m:Int):=by rw[aI];omega
    have jD:=aaD hm an;have hmi:(m:Int)<=200:=an;simp only[Pc.cells]at bA;rw[<-hn]at bA;obtain⟨V,hV⟩:=bL (W1.alloc (.cells (qu pa n pc) Lw));have pg:Below W1 W1 V:=by rw[hV];go_grown
    have pD:V.heap[W1.heap.size]? =some (.cells (qu pa n pc) Lw):=qK hV;have p0:V.cell? (za W1 0)=some (.bool false):=(af pD 0).T rfl;have LA:V.cell? (za W1 10)=some (.slice pa n pc):=(af pD 10).T rfl;have IV:jg agq w1 pa pc ys:=HQ.O.1.each _ QN;obtain⟨Bp,op,rfl⟩:=IV.row.some_ tt;have HNV:=ag pD;have ail:=ag (ak Il);have Hh:=hI8 IV hn hm AU abw tt abx jD
    first
     |(have:=zA;clear this;have LK:Hid (pZ Bw w1 V b1 cf1 Lu q k' rs/\yT (aw ey) Ho ht f (aw Lu) (aw ey).length (.loose (ys.drop (n*0/m))::(qs.map Pc.val).drop (i+1)) rs (dQ ((qs.map Pc.val).take i)+n*0/m) its):=ag ⟨HL.O.below pg,by
        rw[Nat.mul_zero,Nat.zero_div];exact hI⟩)
     |(have LK:Hid (pZ Bw w1 V b1 cf1 Lu q k' rs/\yT (aw ey) (wQ (aw ey) hh) ht f (aw Lu) (aw ey).length (.loose (ys.drop (n*0/m))::(qs.map Pc.val).drop (i+1)) rs (dQ ((qs.map Pc.val).take i)+n*0/m) its):=ag ⟨HL.O.below pg,by
        rw[Nat.mul_zero,Nat.zero_div];exact hI⟩)
    have HTK:Hid (dQ ((qs.map Pc.val).take (i+1))=dQ ((qs.map Pc.val).take i)+n):=ag (by rw[Nj,fR,hn];simp[dQ,Pc.val]);rw[hV]at p0 LA;have HV:=ag hV;clear hp Il LQ Nj QN hI hV pg pD AU abw tt abx hn hm uW BO jD IV
    go_wp2_with first
     |(refine dG Lw ?_)
     |(refine lU Lw ?_)
     |fail
    rw[<-HV.O]
    first
     |(have:=zA;clear this
       go_loopw [11,42] (λ rv iv wr=>∃(kk:Nat) (rs:List cF) (q:az) (k':Nat) (b':az) (iC:Nat) (eR:List Piece),kk<=m/\iv= .int .i64 (kk:Int)/\rv= .slice q rs.length k'/\Hid (pZ Bw w1 wr b' iC eR q k' rs)/\Hid (yT (aw ey) Ho ht f (aw eR) (aw ey).length (.loose (ys.drop (n*kk/m))::(qs.map Pc.val).drop (i+1)) rs (dQ ((qs.map Pc.val).take i)+n*kk/m) its)/\Hid (wr.heap[W1.heap.size]? =some (.cells (qu (some ⟨Bp,op,none⟩) n pc) 275))) (λ _ iv _=>m - (intOf iv).toNat))
     |(go_loopw [11,42] (λ rv iv wr=>∃(kk:Nat) (rs:List cF) (q:az) (k':Nat) (b':az) (iC:Nat) (eR:List Piece),kk<=m/\iv= .int .i64 (kk:Int)/\rv= .slice q rs.length k'/\Hid (pZ Bw w1 wr b' iC eR q k' rs)/\Hid (yT (aw ey) (wQ (aw ey) hh) ht f (aw eR) (aw ey).length (.loose (ys.drop (n*kk/m))::(qs.map Pc.val).drop (i+1)) rs (dQ ((qs.map Pc.val).take i)+n*kk/m) its)/\Hid (wr.heap[W1.heap.size]? =some (.cells (qu (some ⟨Bp,op,none⟩) n pc) 325))) (λ _ iv _=>m - (intOf iv).toNat))
    case atStart=>exact⟨0,rs,q,k',b1,cf1,Lu,an,rfl,rfl,ag LK.O.1,ag LK.O.2,HNV⟩
    case round=>
     obtain⟨kk,rs2,q2,k2,b2,cf2,sf,Kn,rfl,rfl,DU,HI2,HO2⟩:=hrel;obtain⟨W2,rfl⟩:=bL wr;by_cases hlk:kk<m
     ·have ZF:(kk:Int)<(m:Int):=an;obtain⟨x,hx⟩:=bL (n*kk/m);obtain⟨y,hy⟩:=bL (n*(kk+1)/m);obtain⟨UO,hyn,hc6,CT,Vq⟩:=XC Hh.O.2.2.1 hx hy hlk;obtain⟨k1,C1⟩:=bL (kk+1);obtain⟨x1,eb⟩:=bL (n*kk);obtain⟨y1,tt⟩:=bL (n*k1);have Sf:n<=200:=iX Hh.O.2.1 Hh.O.2.2.2.2.2.2.1;have aby:m<=200:=an;have agr:x1<=40000:=by rw[eb];exact aj (eX Sf (show kk<=200 by omega)) de
      have ags:y1<=40000:=by rw[tt];exact aj (eX Sf (show k1<=200 by omega)) de
      have e1:(n:Int)*(kk:Int)=(x1:Int):=by rw[eb];simp
      have e2:(n:Int)*(k1:Int)=(y1:Int):=by rw[tt];simp
      have e3:IntKind.i64.wrap (x1:Int)=(x1:Int):=by rw[aI];omega
      have e4:IntKind.i64.wrap (y1:Int)=(y1:Int):=by rw[aI];omega
      have e5:IntKind.i64.wrap ((kk:Int)+1)=(k1:Int):=by rw[aI];omega
      have e6:((x1:Int)).tdiv (m:Int)=(x:Int):=by rw[gF an,hx,eb];simp
      have e7:((y1:Int)).tdiv (m:Int)=(y:Int):=by rw[gF an,hy,tt,C1];simp
      have e8:IntKind.i64.wrap (x:Int)=(x:Int):=by rw[aI];omega
      have e9:IntKind.i64.wrap (y:Int)=(y:Int):=by rw[aI];omega
      have em:¬ (m:Int)=0:=an;have em2:¬ m=0:=an;have e6':(x1:Int)/(m:Int)=(x:Int):=by rw[hx,eb];simp
      have e7':(y1:Int)/(m:Int)=(y:Int):=by rw[hy,tt,C1];simp
      obtain⟨cc,Av⟩:∃cc,y - x=cc:=⟨_,rfl⟩;have QE:¬ y=x:=an;have ajI:(x:Int)<=(y:Int):=an;have hyp:(y:Int)<=(pc:Int):=iX Hh.O.1.cap Hh.O.2.1;have LA:W2.cell? (za W1 10)=some (.slice (some ⟨Bp,op,none⟩) n pc):=(af HO2.O 10).T rfl;obtain⟨zs,vT⟩:=bL ((ys.drop x).take cc);have hsp:ys.drop x=zs++ys.drop y:=by rw[vT,show ys.drop y=(ys.drop x).drop cc by rw[lY];congr 1;omega,bj]
      have hzl:zs.length=cc:=by rw[vT,aX,bC];have:=Hh.O.2.1;omega
      have hI:=HI2.O;rw[<-hx,hsp]at hI;obtain⟨s,hsS,jN,Lh,zO⟩:=hI.adG qb.O.2.1 qb.O.2.2.1;have kz:=qb.O.1;have hL:=DU.O;have h1c:1<=zs.length:=an;have h6c:zs.length<=6:=an;have hfc:f<=zs.length:=by
       have h1:=HFF.O.2.1;have h2:=Hh.O.2.2.2.1;have h3:=Hh.O.2.1;rcases cX n 3 with h4|h4
       ·have:=Vq h4;omega
       ·have:=CT h4;omega
      first
       |(have:=zA;clear this;obtain⟨kD,M1⟩:=okI h1c h6c hsS jN Lh)
       |(have h2c:2<=zs.length:=cm HFF.O.1;obtain⟨kD,M1⟩:=okK h2c h6c hsS jN Lh an CX.O.1.small)
      have IV:=Hh.O.1
      first
       |(have:=zA;clear this;have qh:∀z∈zs,(∀x∈z.key,x<256)/\∀x∈z.val,x<256:= λ z hz=>by rw[vT]at hz;exact⟨(IV.oJ z (bm (aP hz))).1.1,(IV.oJ z (bm (aP hz))).2.1⟩)
       |(have qh:∀z∈zs,∀x∈z.key,x<256:= λ z hz=>by rw[vT]at hz;exact(IV.oJ z (bm (aP hz))).1)
      have mJ:=FP (QP zs).enc (aw sf).length cc an (by rw[<-hzl];exact M1);have gk:(aw sf).length+(ed (aw sf).length (ft (QP zs).enc)).length<=524288:=by obtain⟨_,_,_,_,_,h6,_⟩:=hI;have h1:=qb.O.2.2.2;have h2:=Hh.O.2.2.2.2.1;have h3:=LO.O.1;have h4:=Hh.O.2.1;omega
      obtain⟨z0,zr,l8⟩:∃z0 zr,zs=z0::zr:=by
       cases hzz:zs with
       |nil=>rw[hzz]at h1c;simp at h1c
       |cons z0 zr=>exact⟨z0,zr,rfl⟩
      have gN:(QP zs).keys[0]? =some z0.key:=by rw[l8];rfl
      have Ah:(QP zs).UM=z0.ka:=by rw[l8];rfl
      have yQ:ay w1 z0.ka z0.key:=by
       have hz:z0∈zs:=by rw[l8];exact bD
       rw[vT]at hz
       first
        |(have:=zA;clear this;exact(IV.oJ z0 (bm (aP hz))).1)
        |(exact IV.oJ z0 (bm (aP hz)))
      first
       |(have:=zA;clear this;have hAT:∀V2,dI Bw w1 V2->(Nd.leaf zs).At V2 (some ⟨Bp,op+x*4,none⟩):= λ V2 ho=>by
          have hrz:cV (r9).f (r9).sz V2 (some ⟨Bp,op+x*(r9).sz,none⟩) zs:=by rw[vT];exact tV ho qj.O (λ o x=>RP o x qj.O) (λ x e=>by have:=(r9).fsz x;have:=(r9).pos;rw[e]at*;simp at*;omega) (IV.row.sub x cc)
          have hgz:∀z∈zs,(r9).oJ V2 z:= λ z hz=>by rw[vT]at hz;exact Oj z qj.O ho (IV.oJ z (bm (aP hz)))
          exact kN.2 ⟨hrz, λ z hz=>hgz z hz⟩)
       |(have hAT:∀V2,dI Bw w1 V2->(Nd.inner zs).At V2 (some ⟨Bp,op+x*8,none⟩):= λ V2 ho=>by
          have hrz:cV (Ay).f (Ay).sz V2 (some ⟨Bp,op+x*(Ay).sz,none⟩) zs:=by rw[vT];exact tV ho qj.O (λ o x=>RQ o x qj.O) (λ x e=>by have:=(Ay).fsz x;have:=(Ay).pos;rw[e]at*;simp at*;omega) (IV.row.sub x cc)
          have hgz:∀z∈zs,(Ay).oJ V2 z:= λ z hz=>by rw[vT]at hz;exact Ol z qj.O ho (IV.oJ z (bm (aP hz)))
          exact KG.2 ⟨hrz, λ z hz=>hgz z hz⟩)
      first
       |(have:=zA;clear this;have abz:=ag (λ V2=>Tf (some ⟨Bp,op+x*4,none⟩) cc cc V2))
       |(have abz:=ag (λ V2=>PI (some ⟨Bp,op+x*8,none⟩) cc cc V2))
      first
       |(have:=zA;clear this;have hkf:True:=trivial)
       |(have hkf:∃m,aw sf=aw ey++m:=by obtain⟨_,_,_,_,_,_,_,h⟩:=hI;exact h)
      first
       |(have:=zA;clear this;have HWR:Hid (∀V2,Below W2 W2 V2->Calls Tryz.prog 199 (ZV (zp Bw) (.agg (pF (some ⟨Bp,op+x*4,none⟩) cc cc)) ht) V2 λ e w'=>∃(b':az) (c':Nat) (pw:Piece) (kc:Nat),e= .returned (.agg (tM z0.ka z0.key.length kc (db (aw sf).length) (Nd.leaf zs).red ht))/\pZ Bw w1 w' b' c' (sf++[pw]) q2 k2 rs2/\yT (aw ey) Ho ht f (aw (sf++[pw])) (aw ey).length (.loose (ys.drop y)::(qs.map Pc.val).drop (i+1)) (rs2++[⟨⟨z0.ka,z0.key,kc,db (aw sf).length,(Nd.leaf zs).red⟩,ht⟩]) (dQ ((qs.map Pc.val).take i)+y) its/\w'.heap[W1.heap.size]? =some (.cells (qu (some ⟨Bp,op,none⟩) n pc) 275)):=ag (by
          intro V2 Gq;have Jq:=(cS HO2.O).1;have UZ:=hL.below Gq;have h:=JP UZ.file UZ.marks UZ.wk cc (hAT V2 UZ.only) kD an gk ht z0.key gN;have hv:(Nd.leaf zs).v (some ⟨Bp,op+x*4,none⟩) cc= .agg (pF (some ⟨Bp,op+x*4,none⟩) cc cc):=by simp only[Nd.v,Nd.is,Nd.a1,Nd.n1,Nd.k1,Nd.a2,Nd.n2,Nd.k2,hzl]
          rw[hv]at h;refine h.mono ?_;rintro e w' ⟨b',c',pc,kb,rfl,g1,g2,g3,g4,g5⟩;rw[Ah];have jB:aw (sf++[pc])=aw sf++ed (aw sf).length (ft (Nd.leaf zs).enc):=by simp[aw,g3]
          refine⟨b',c',pc,kb,rfl,UZ.wrote g5 g1 g2 g3 g4,?_,(g5.block _ (aA Jq Gq.size) (iX HL.O.only.size HL.O.lt)).T ((Gq.block _ Jq).T HO2.O)⟩;rw[jB,show dQ ((qs.map Pc.val).take i)+y=dQ ((qs.map Pc.val).take i)+x+cc by omega];refine hI.chunk qb.O.2.1 qb.O.2.2.1 mJ h1c ?_ λ s e1 e2 e3 e4=>?_
          ·exact xV
          ·exact ahU h1c h6c e1 e2 e3 qh hfc I1.O _ kb gN))
       |(have HWR:Hid (∀V2,Below W2 W2 V2->Calls Tryz.prog 199 (ZV (zp Bw) (.agg (pU (some ⟨Bp,op+x*8,none⟩) cc cc)) ht) V2 λ e w'=>∃(b':az) (c':Nat) (pw:Piece) (kc:Nat),e= .returned (.agg (tM z0.ka z0.key.length kc (db (aw sf).length) (Nd.inner zs).red ht))/\pZ Bw w1 w' b' c' (sf++[pw]) q2 k2 rs2/\yT (aw ey) (wQ (aw ey) hh) ht f (aw (sf++[pw])) (aw ey).length (.loose (ys.drop y)::(qs.map Pc.val).drop (i+1)) (rs2++[⟨⟨z0.ka,z0.key,kc,db (aw sf).length,(Nd.inner zs).red⟩,ht⟩]) (dQ ((qs.map Pc.val).take i)+y) its/\w'.heap[W1.heap.size]? =some (.cells (qu (some ⟨Bp,op,none⟩) n pc) 325)):=ag (by
          intro V2 Gq;have Jq:=(cS HO2.O).1;have UZ:=hL.below Gq;have h:=JP UZ.file UZ.marks UZ.wk cc (hAT V2 UZ.only) kD an gk ht z0.key gN;have hv:(Nd.inner zs).v (some ⟨Bp,op+x*8,none⟩) cc= .agg (pU (some ⟨Bp,op+x*8,none⟩) cc cc):=by simp only[Nd.v,Nd.is,Nd.a1,Nd.n1,Nd.k1,Nd.a2,Nd.n2,Nd.k2,hzl]
          rw[hv]at h;refine h.mono ?_;rintro e w' ⟨b',c',pc,kb,rfl,g1,g2,g3,g4,g5⟩;rw[Ah];have jB:aw (sf++[pc])=aw sf++ed (aw sf).length (ft (Nd.inner zs).enc):=by simp[aw,g3]
          refine⟨b',c',pc,kb,rfl,UZ.wrote g5 g1 g2 g3 g4,?_,(g5.block _ (aA Jq Gq.size) (iX HL.O.only.size HL.O.lt)).T ((Gq.block _ Jq).T HO2.O)⟩;rw[jB,show dQ ((qs.map Pc.val).take i)+y=dQ ((qs.map Pc.val).take i)+x+cc by omega];refine hI.chunk qb.O.2.1 qb.O.2.2.1 mJ h1c ?_ λ s e1 e2 e3 e4=>?_
          ·exact xV
          ·obtain⟨m',Ie⟩:=hkf;exact ahV Ie h2c h6c e1 e2 e3 an hL.file.small qh hfc I1.O _ kb gN))
      have HBK:=oT yQ hy C1 (show rs2.length<=200 by have:=hI.LB;omega);have abA:=kz
      first
       |(have:=zA;clear this;clear hsp vT hzl hI hsS jN Lh zO kz hL h1c h6c hfc kD M1 IV qh mJ gk gN Ah yQ hAT hkf hc6 CT Vq hx hy eb tt C1 Sf aby agr ags abA hyn l8 UO)
       |(clear hsp vT hzl hI hsS jN Lh zO kz hL h1c h6c hfc kD M1 IV qh mJ gk gN Ah yQ hAT hkf hc6 CT Vq hx hy eb tt C1 Sf aby agr ags abA hyn l8 UO h2c)
      go_wp2_with fail
      refine bP 17 ?_;refine tP [0,1,2,3,4,5,6,7,8,9,10,11,12,13,14,15,16] ?_
      iterate 17 refine tO ?_
      refine au 0 rfl ?_;refine dP ?_;go_simp
      go_wp2_with first
       |((with_reducible refine(abz.O _).mono ?_);rintro e V3 ⟨rfl,hb⟩;have ek:Hid (Below W2 W2 V3):=ag (((ah _ W2).drew).T hb);clear hb)
       |((with_reducible refine(HWR.O _ ek.O).mono ?_);rintro e w4 ⟨b',c',pc',kc,rfl,Cm,eS,hO3⟩;obtain⟨g',cg,w5,eh,hN,iU⟩:=Cm.put ⟨⟨z0.ka,z0.key,kc,db (aw sf).length,(QP zs).red⟩,ht⟩ HBK.O.1 (cm HBK.O.2.2.2);have HO5:=ag (iU _ _ _ hO3 de);have HN:=dO hN eS;simp only[cF.cells,a8.cells,bS,bn,List.toArray]at eh;clear Cm eS hO3 hN iU)
       |fail
      have wP:Hid ((rs2++[(⟨⟨z0.ka,z0.key,kc,db (aw sf).length,(QP zs).red⟩,ht⟩:cF)]).length=rs2.length+1):=ag cP;exact⟨⟨kk+1,_,_,_,b',c',sf++[pc'],an,by have:=HBK.O.2.2.1;simp;omega,by rw[wP.O],ag HN.O.1,ag (by rw[<-HBK.O.2.1];exact HN.O.2),HO5⟩,by have:=HBK.O.2.2.1;simp[intOf];omega⟩
     ·obtain rfl:kk=m:=an;have hI:=HI2.O;rw[Hh.O.2.2.2.2.2.2.2.1,show ys.drop n=[]by rw[dJ];have:=Hh.O.2.1;omega]at hI;have hI:=hI.nil;rw[<-HTK.O]at hI;have HI3:=ag hI;clear hI
      go_wp2_with fail
      exact⟨⟨i+1,rs2,_,_,b2,cf2,sf,an,by simp,rfl,DU,HI3⟩,by simp[intOf];omega⟩
  ·obtain rfl:i=qs.length:=an;have hI:=HI.O;rw[show(qs.map Pc.val).drop qs.length=[]by rw[dJ,aR];exact cH,show(qs.map Pc.val).take qs.length=qs.map Pc.val by rw[aY (by rw[aR];exact cH)]]at hI;have KU:=ag (hI.fin LO.O.2);clear hI
   go_wp2_with fail
   go_ret;exact⟨rs,q,k',b1,cf1,Lu,dQ (qs.map Pc.val),rfl,HL.O.fin qj.O HQ.O.2.2.2,KU.O⟩):p:=h
namespace zsbA
abbrev Lw:=Mk.mk 275
theorem zA:True:=trivial
end zsbA
section
open zsbA
open Go.Proofs.Tryz renaming func159 → agl, ntmps159 → agm
open Go.Proofs.YtbiififbfefkjaaGreatDoor renaming yF → agn, Oj → ago, RP → agp, r9 → agq
open Go.Proofs.YtbiififbfefkjaaGreatDoor.Nd renaming leaf → QP
theorem GU(Bw:Nat)(ey:List Piece)(hm:Marks (aw ey))(ht:Nat)(LR:ht=0){b:az}(hF:aQ w b cf ey)(hW:lB w Bw b ey.length cf){a:az}{ps:List (Pc aH)}(hP:eU r9 w a c ps)(hs:cq (uf (aw ey) Ho 0) (ps.map Pc.val) its)(hl:ps.length<=200)(kz:its.length<=200)(jN:ee its)(Em:cR (its.map Prod.fst))(gk:(aw ey).length+80*its.length<=524288):
 Calls Tryz.prog 159 (ae1 (zp Bw) a ps.length c ht (.func (.func 160) (iS (zp Bw)) #[]) (.func (.func 161) #[] #[])) w λ e w'=>∃(rs:List cF) (q:az) (k:Nat) (b':az) (iC:Nat) (eR:List Piece) (n:Nat),e= .returned (.slice q rs.length k)/\DB Bw w w' b' iC eR q rs/\XE (aw ey) (aw eR) ht n rs its:=agk
end
theorem OK(hv fv bw:Value){a:az}{ps:List (Pc aH)}(hP:eU r9 w a c ps)(G9:ps.map Pc.val=[.kept r]):
 Calls Tryz.prog 198 #[bw,.slice a ps.length c,hv,fv] w λ e w'=>∃(qs:List (Pc aH)) (q:az) (k:Nat),e= .returned (.slice q qs.length k)/\eU r9 w' q k qs/\qs.map Pc.val=[.kept r]/\Below w w w':=by
 have hl:ps.length=1:=by have:=congrArg List.length G9;simpa using this
 have HJ:=ag (DI hP an (by rw[G9];simp[dQ]));have HPS:=ag G9;clear hP G9 hl;go_enter Tryz.func198,Tryz.ntmps198
 go_wp2_with fail
 go_step3
 go_wp2_with first
  |((with_reducible refine HJ.O.mono ?_);rintro e w1 ⟨qs,q,k0,rfl,PM,Td,hj3⟩;rw[HPS.O]at PM;have Se:=eS Td (show qs.map Pc.val=[.kept r]from PM) hj3;clear PM Td hj3)
  |fail
 have py:qs.length=1:=by have:=congrArg List.length Se.O.2.1;simpa using this
 have Yf:=ag py;rw[py];clear py
 go_step3
 go_wp2_with fail
 go_loopw [1] (λ rv wr=>rv= .slice q 1 k0/\Hid (wr=w1)) (λ _ _=>0)
 case atStart=>exact⟨rfl,ag rfl⟩
 case round=>
  obtain⟨rfl,hw⟩:=hrel
  go_wp2_with fail
  rw[fo];go_ret;rw[hw.O];exact⟨qs,q,k0,by rw[Yf.O];rfl,Se.O.1,Se.O.2.1,Se.O.2.2⟩
theorem Lx(hv fv bw:Value){a:az}{ps:List (Pc aH)}(hP:eU r9 w a c ps)(G9:ps.map Pc.val=[.kept r]):
 Calls Tryz.prog 159 #[bw,.slice a ps.length c,hv,fv,.func (.func 161) #[] #[]] w λ e w'=>∃(q:az) (k:Nat),e= .returned (.slice q 1 k)/\pC w' q [r]/\Below w w w':=by
 have HF:=ag (OK hv fv bw hP G9);clear hP G9;go_enter Tryz.func159,Tryz.ntmps159
 go_wp2_with first
  |((with_reducible refine HF.O.mono ?_);rintro e w1 ⟨qs,q0,k0,rfl,hQ,yI,cN⟩;have HQ:=eS hQ yI cN;clear hQ yI cN)
  |fail
 have py:qs.length=1:=by have:=congrArg List.length HQ.O.2.1;simpa using this
 obtain⟨m,hm⟩:=bL qs.length;rw[<-hm];have Yf:Hid (m=1/\qs.length=1):=ag an;have RK:(m:Int)<=200:=an;clear py hm
 go_loopw [11,24] (λ rv iv wr=>∃(i n:Nat) (q:az) (k:Nat),iv= .int .i64 (i:Int)/\rv= .slice q n k/\Hid (n=i/\i<=1/\Below w1 w1 wr/\(i=0->q=none/\k=0)/\(i=1->pC wr q [r]))) (λ _ iv _=>1 - (intOf iv).toNat)
 case atStart=>exact⟨0,0,none,0,rfl,rfl,ag ⟨rfl,an,gb, λ _=>⟨rfl,rfl⟩, λ h=>an⟩⟩
 case round=>
  obtain⟨Wr,rfl⟩:=bL wr;obtain⟨i,n,q,k,rfl,rfl,HI⟩:=hrel;have HB:=ag HI.O.2.2.1;rcases cX i 1 with hi|hi
  ·obtain⟨rfl,rfl⟩:=HI.O.2.2.2.1 an;obtain rfl:n=0:=cm HI.O.1;have vw:=ag (show i=0 by omega);have mn:(i:Int)<(m:Int):=cm Yf.O.1;have zP:(i:Int)<=200:=an;have hp0:qs[i]? =some (.kept r):=by
    rw[vw.O];have h:=HQ.O.2.1
    match qs,h with
    |[.kept r2],h=>simp[Pc.val]at h;rw[h];rfl
    |[.loose _ _ _],h=>simp[Pc.val]at h
   obtain⟨Bq,oq,rfl⟩:=HQ.O.1.row.some_ (by rw[Yf.O.2];exact cH);have bA:Wr.rangeAt Bq (oq+i*11) (vM r.k.ka r.k.key.length r.k.kc r.k.at_ r.k.count r.h):=(HQ.O.1.row.below HB.O).get hp0;obtain⟨V,hV⟩:=bL (Wr.alloc (.cells (vM r.k.ka r.k.key.length r.k.kc r.k.at_ r.k.count r.h) 275));have pg:Below Wr Wr V:=by rw[hV];go_grown
   have Hq:V.heap.size=Wr.heap.size+1:=by rw[hV];simp
   have pD:V.heap[Wr.heap.size]? =some (.cells (vM r.k.ka r.k.key.length r.k.kc r.k.at_ r.k.count r.h) 275):=qK hV;have p0:V.cell? (za Wr 0)=some (.bool true):=(af pD 0).T rfl;have QM:V.rangeAt Wr 1 (lW r.k.ka r.k.key.length r.k.kc r.k.at_ r.k.count r.h):=pk [.bool true] (lW r.k.ka r.k.key.length r.k.kc r.k.at_ r.k.count r.h) [.slice none 0 0] (aF pD);have gN:ay w1 r.k.ka r.k.key:=HQ.O.1.each _ (ak hp0);have IW:Below w1 w1 V:=HB.O.T (pg.mono HB.O.size);obtain⟨g',c',w',eh,It,ti⟩:=gR (P:=Tryz.prog) 277 273 (.agg U4) 9 88 bU FT rfl de r.cells rfl (FU r) (W:=V) (n₀:=w1.heap.size) (a:=none) (k:=0) (c:=0) (xs:=[]) (dA _ _ _ _) an an IW.size;have ke:Below w1 w1 w':=IW.T ti.below;have HN:Hid (Below w1 w1 w'/\pC w' (zp g') [r]):=ag ⟨ke,⟨cV.kM (k:=1) (c:=c') (n₀:=w1.heap.size) (e:=273) (by simpa using It) (λ _=>rfl) de, λ x hx=>by rw[aE]at hx;subst hx;exact gN.below ke⟩⟩;rw[Hq]at eh;simp only[cF.cells,a8.cells,bS,bn,List.toArray]at eh;rw[hV]at p0 QM eh;clear hp0 hV pg Hq pD gN IW It ti ke
   go_wp2_with first
    |(refine dG 275 ?_)
    |(refine lU 275 ?_)
    |(refine dG 273 ?_)
    |fail
   exact⟨⟨i+1,1,_,_,by simp,rfl,ag ⟨by have:=vw.O;omega,an,HN.O.1, λ h=>an, λ _=>HN.O.2⟩⟩,by have:=vw.O;simp[intOf];omega⟩
  ·have DP:=ag (show i=1 by have:=HI.O.2.1;omega);have kH:n=1:=iX HI.O.1 DP.O;have mn:¬ (i:Int)<(m:Int):=cm Yf.O.1;subst kH
   go_wp2_with fail
   go_ret;exact⟨q,⟨k,rfl⟩,HI.O.2.2.2.2 DP.O,HQ.O.2.2.T (HB.O.mono HQ.O.2.2.size)⟩
namespace zsaB
abbrev Ej:=Mk.mk 325
abbrev adX:=Mk.mk 239
abbrev Yy:=Mk.mk 144
abbrev abr:=Mk.mk 282
end zsaB
section
open zsaB
open Go.Proofs.YtbiififbfefkjaaGreatDoor renaming Tg → af8, lx → af9, Ay → Lt, a8 → Ek, OM → adY, A0 → abt
open Go.Proofs.Tryz renaming func219 → adU, ntmps219 → adV
open Go.Proofs.YtbiififbfefkjaaGreatDoor.lx renaming Di → aga
theorem DJ(Bw:Nat)(ey:List Piece)(hm:Marks (aw ey))(first:Bool)(ht hh:Nat)(LR:ht=hh+1):∀(d:Nat) {w:World} {b:az} {cf:Nat} (_:aQ w b cf ey) (_:lB w Bw b ey.length cf) {a:az} {c:Nat} {ps:List (Pc a8)} (_:eU Ay w a c ps) {A B:List (Pv a8)} {r:cF} {its:List KV} (_:ps.map Pc.val=A++.kept r::B) (_:fV (aw ey) r its) (_:r.h=ht+d) (_:r.h<=50) (_:ps.length+6*d<=500) (i:Nat) (_:i=A.length),
 Calls Tryz.prog 219 (aeY (zp Bw) a ps.length c i ht first (.func (.func 164) (iS (zp Bw)) #[])) w λ e w'=>∃(qs:List (Pc a8)) (q:az) (k:Nat) (sa:List (Pv a8)),e= .returned (.slice q qs.length k)/\qs.map Pc.val=A++(sa++B)/\eU Ay w' q k qs/\oE (aw ey) (wQ (aw ey) hh) (hh+1) first its sa/\Below w w w':=af7
end
theorem BM{hh:Nat}:∀(x:a8) (s:List KV),wQ all hh x s->1<=s.length:= λ _ s h=>by obtain⟨kv,l,e,_⟩:=fV.first h;rw[e];simp
namespace zsdB
abbrev GS:=Mk.mk 325
end zsdB
section
open zsdB
open Go.Proofs.YtbiififbfefkjaaGreatDoor renaming BM → acH, ON → ad1, a8 → ad2
open Go.Proofs.Tryz renaming func200 → agi, ntmps200 → agj
theorem Us(Bw:Nat)(ey:List Piece)(hm:Marks (aw ey))(ht hh:Nat)(LR:ht=hh+1){b:az}(hF:aQ w b cf ey)(hW:lB w Bw b ey.length cf){a:az}{ps:List (Pc a8)}(hP:eU Ay w a c ps)(hs:cq (uf (aw ey) (wQ (aw ey) hh) (hh+1)) (ps.map Pc.val) its)(hl:ps.length<=200)(kz:its.length<=200):
 Calls Tryz.prog 200 (ae0 (zp Bw) a ps.length c ht (.func (.func 164) (iS (zp Bw)) #[])) w λ e w'=>∃(qs:List (Pc a8)) (q:az) (k:Nat),e= .returned (.slice q qs.length k)/\eU Ay w' q k qs/\rM (aw ey) (wQ (aw ey) hh) (hh+1) (ps.map Pc.val) (qs.map Pc.val) its/\(dT (qs.map Pc.val)=0\/qs.length<=1)/\Below w w w':=agh
end
namespace zsbB
abbrev Lw:=Mk.mk 325
end zsbB
section
open zsbB
open Go.Proofs.Tryz renaming func162 → agl, ntmps162 → agm
open Go.Proofs.YtbiififbfefkjaaGreatDoor renaming BM → agn, Ol → ago, RQ → agp, Ay → agq
open Go.Proofs.YtbiififbfefkjaaGreatDoor.Nd renaming inner → QP
theorem QQ(Bw:Nat)(ey:List Piece)(hm:Marks (aw ey))(ht hh:Nat)(LR:ht=hh+1){b:az}(hF:aQ w b cf ey)(hW:lB w Bw b ey.length cf){a:az}{ps:List (Pc a8)}(hP:eU Ay w a c ps)(hs:cq (uf (aw ey) (wQ (aw ey) hh) (hh+1)) (ps.map Pc.val) its)(hl:ps.length<=200)(kz:its.length<=200)(jN:ee its)(Em:cR (its.map Prod.fst))(gk:(aw ey).length+80*its.length<=524288)(h2:2<=fb (ps.map Pc.val)+dQ (ps.map Pc.val)):
 Calls Tryz.prog 162 (ae1 (zp Bw) a ps.length c ht (.func (.func 164) (iS (zp Bw)) #[]) (.func (.func 165) #[] #[])) w λ e w'=>∃(rs:List cF) (q:az) (k:Nat) (b':az) (iC:Nat) (eR:List Piece) (n:Nat),e= .returned (.slice q rs.length k)/\DB Bw w w' b' iC eR q rs/\XE (aw ey) (aw eR) ht n rs its:=agk
end
end
end Go.Proofs.YtbiififbfefkjaaGreatDoor

/- The store, part 16. -/
import Derived.Test.YtbiififbfefkjaaGreatDoorMAl
import Derived.Test.YtbiififbfefkjaaGreatDoorMAn
set_option linter.unusedSimpArgs false
set_option linter.unusedVariables false
set_option maxRecDepth 100000
set_option maxHeartbeats 16000000
namespace Go.Proofs.YtbiififbfefkjaaGreatDoor
open Go.RowKit Go.Shelf
variable{all key ik xs:List Nat}{f n m k hh ht lo base cost c Bw g cf p:Nat}{r:cF}{its s:List KV}{ys:List aH}{W W' w0 w:World}{ps ey:List Piece}{x:aH}
section
attribute [local go_sem] Oper.semAt_some
attribute [-go_sem] Builtin.append_
def Gy(all:List Nat)(f:Nat)(r:cF)(its:List KV):Prop:=∃n:Nd,jH all r.h n r.k.at_ its/\r.k.count=n.red/\n.keys[0]? =some r.k.key/\f<=n.Ax
def Oi(all:List Nat)(f lo:Nat)(r:cF)(its:List KV):Prop:=Gy all f r its/\lo<=r.h
theorem Gy.more{all:List Nat}{f:Nat}{r:cF}{its:List KV}(h:Gy all f r its)(m:List Nat):Gy (all++m) f r its:=by obtain⟨n,h1,h2,h3,h4⟩:=h;exact⟨n,h1.more m,h2,h3,h4⟩
theorem Oi.more{all:List Nat}{f lo:Nat}{r:cF}{its:List KV}(h:Oi all f lo r its)(m:List Nat):Oi (all++m) f lo r its:=⟨h.1.more m,h.2⟩
theorem fV.Ax(h:fV all r its)(hf:f<=3):Gy all f r its:=by obtain⟨n,h1,h2,h3,h4⟩:=h;exact⟨n,h1,h2,h3,an⟩
theorem Gy.oJ(h:Gy all 3 r its):fV all r its:=h
theorem Gy.top(h:Gy all f r its):IM all r its:=by obtain⟨n,h1,h2,_,_⟩:=h;exact⟨n,h1,h2⟩
theorem XC{x y:Nat}(hm:m=(n+5)/6)(hx:x=n*k/m)(hy:y=n*(k+1)/m)(hk:k<m):x<y/\y<=n/\y - x<=6/\(3<=n->3<=y - x)/\(n<3->m=1/\x=0/\y=n):=by
 have zH:0<m:=an;have e:n*(k+1)=n*k+n:=ju n k;have h1:x+n/m<=y:=by rw[hx,hy,e,gz zH,fB];exact Nat.add_le_add (Nat.div_mul_le_self _ _) (Nat.div_mul_le_self _ _)
 have h2:y<x+7:=by
  rw[hy,gy zH,e];have h3:n*k<m*x+m:=by rw[hx];exact Nat.lt_mul_div_succ _ zH|> λ h=>by rw[ju]at h;exact h
  have h4:n<=6*m:=an;have h5:(x+7)*m=m*x+7*m:=by rw[fB,dr]
  omega
 have h3:y<=n:=by rw[hy,Nat.div_le_iff_le_mul_add_pred zH];have:n*(k+1)<=n*m:=Nat.mul_le_mul_left _ an;rw[dr m n];omega
 have h4:3<=n->3<=n/m:= λ h=>by rw[gz zH];omega
 have h5:n<3->m=1/\x=0/\y=n:= λ h=>by have:m=1:=an;subst this;have As:k=0:=an;subst As;exact⟨rfl,by simp[hx],by simp[hy]⟩
 have h6:1<=n/m:=by rw[gz zH];omega
 exact⟨an,h3,an, λ h=>cm (h4 h),h5⟩
theorem aaD(hm:m=(n+5)/6)(h1:1<=n):n*m/m=n/\1<=m/\m<=n:=by have zH:0<m:=an;exact⟨Nat.mul_div_cancel _ zH,zH,an⟩
theorem BC{α:Type}{all:List Nat}{S:α->List KV->Prop}{lo:Nat}(m:Nat)(hS:∀x s,S x s->m<=s.length):∀{V:List (Pv α)} {its:List KV},cq (uf all S lo) V its->dQ V*m<=its.length
 |[],_,_=>by simp[dQ]
 | .kept r::V,_,⟨s,t,_,h2,h3⟩=>by
   have:=BC m hS h2;rw[h3,ar];simp only[dQ];omega
 | .loose ys::V,_,⟨s,t,h1,h2,h3⟩=>by
   have:=BC m hS h2;have h4:=cq.len m hS (show cq S ys s from h1);rw[h3,ar];simp only[dQ];rw[fB];omega
theorem aaE(hs:ee (ys.map fF))(hb:∀y∈ys,(∀x∈y.key,x<256)/\∀x∈y.val,x<256)(h6:ys.length<=6):∀x∈dc ys,x<256:= λ x hx=>by
 unfold dc at hx;simp only[aO,ck]at hx;rcases hx with rfl|rfl|⟨y,hy,hx⟩
 ·omega
 ·omega
 ·have:=hs (fF y) (aM.2 ⟨y,hy,rfl⟩);simp only[fF]at this;exact Eu y an an (hb y hy).1 (hb y hy).2 x hx
theorem XD{ys:List a8}(hs:∀y∈ys,y.key.length<=24)(hb:∀y∈ys,∀x∈y.key,x<256)(h6:ys.length<=6):∀x∈cz ys,x<256:= λ x hx=>by
 unfold cz at hx;simp only[aO,ck]at hx;rcases hx with rfl|rfl|⟨y,hy,hx⟩
 ·omega
 ·omega
 ·exact Ev y (cm (hs y hy)) (hb y hy) x hx
theorem ahR(all:List Nat)(h1:1<=ys.length)(h6:ys.length<=6)(hs:ee (ys.map fF))(hr:cR ((ys.map fF).map Prod.fst))(hb:∀y∈ys,(∀x∈y.key,x<256)/\∀x∈y.val,x<256)(kb:az)(kc:Nat)(hk:(Nd.leaf ys).keys[0]? =some key):
 Gy (all++ed all.length (ft (Nd.leaf ys).enc)) ys.length ⟨⟨kb,key,kc,db all.length,(Nd.leaf ys).red⟩,0⟩ (ys.map fF):=
 ⟨.leaf ys,Nl all h1 h6 hs hr (aaE hs hb h6),rfl,hk,by simp[Nd.Ax,Nd.n1,Nd.n2]⟩
theorem ahS{xs:List a8}(h2:2<=xs.length)(h6:xs.length<=6)(hS:cq (wQ all hh) xs its)(hs:ee its)(hr:cR (its.map Prod.fst))(hl:its.length<=1000)(ha:all.length<=524288)(hb:∀y∈xs,∀x∈y.key,x<256)(kb:az)(kc:Nat)(hk:(Nd.inner xs).keys[0]? =some key):
 Gy (all++ed all.length (ft (Nd.inner xs).enc)) xs.length ⟨⟨kb,key,kc,db all.length,(Nd.inner xs).red⟩,hh+1⟩ its:=by
 obtain⟨_,ahT,_⟩:=Ez h2 h6 hS hs hr hl ha;exact⟨.inner xs,Ju h2 h6 hS hs hr hl ha (XD ahT hb h6),rfl,hk,by simp[Nd.Ax,Nd.n1,Nd.n2]⟩
theorem okI(h1:1<=ys.length)(h6:ys.length<=6)(hS:cq Ho ys s)(hs:ee s)(hr:cR (s.map Prod.fst)):(Nd.leaf ys).Ok/\(Nd.leaf ys).enc.length<=2+69*ys.length:=by obtain rfl:=cq.its.1 hS;exact⟨KN h1 h6 hs hr,by have:=FQ ys hs;show(dc ys).length<=_;omega⟩
theorem okK{ys:List a8}(h1:2<=ys.length)(h6:ys.length<=6)(hS:cq (wQ all hh) ys s)(hs:ee s)(hr:cR (s.map Prod.fst))(hl:s.length<=1000)(ha:all.length<=524288):(Nd.inner ys).Ok/\(Nd.inner ys).enc.length<=2+69*ys.length:=by obtain⟨h2,h3,_⟩:=Ez h1 h6 hS hs hr hl ha;exact⟨h2,Cx ys h3⟩
theorem ahU(h1:1<=ys.length)(h6:ys.length<=6)(hS:cq Ho ys s)(hs:ee s)(hr:cR (s.map Prod.fst))(hb:∀y∈ys,(∀x∈y.key,x<256)/\∀x∈y.val,x<256)(hf:f<=ys.length)(LR:ht=0)(kb:az)(kc:Nat)(hk:(Nd.leaf ys).keys[0]? =some key):
 Oi (all++ed all.length (ft (Nd.leaf ys).enc)) f ht ⟨⟨kb,key,kc,db all.length,(Nd.leaf ys).red⟩,ht⟩ s:=by
 obtain rfl:=cq.its.1 hS;subst LR;obtain⟨n,a,b,c,d⟩:=ahR all h1 h6 hs hr hb kb kc hk;exact⟨⟨n,a,b,c,an⟩,cH⟩
theorem ahV{m:List Nat}(hm:all=ik++m){ys:List a8}(h1:2<=ys.length)(h6:ys.length<=6)(hS:cq (wQ ik hh) ys s)(hs:ee s)(hr:cR (s.map Prod.fst))(hl:s.length<=1000)(ha:all.length<=524288)(hb:∀y∈ys,∀x∈y.key,x<256)(hf:f<=ys.length)(LR:ht=hh+1)(kb:az)(kc:Nat)(hk:(Nd.inner ys).keys[0]? =some key):
 Oi (all++ed all.length (ft (Nd.inner ys).enc)) f ht ⟨⟨kb,key,kc,db all.length,(Nd.inner ys).red⟩,ht⟩ s:=by
 subst LR;obtain⟨n,a,b,c,d⟩:=ahS h1 h6 (show cq (wQ all hh) ys s by rw[hm];exact hS.mono λ _ _ _ h=>fV.more h m) hs hr hl ha hb kb kc hk;exact⟨⟨n,a,b,c,an⟩,cH⟩
section
variable {α : Type}
def left:List (Pv α)->Nat
 |[]=>0
 | .loose []::V=>left V
 |_::V=>left V+1
theorem EE:∀V:List (Pv α),left V<=V.length
 |[]=>cH
 | .loose []::V=>by have:=EE V;simp only[left,aK];omega
 | .loose (_::_)::V=>by have:=EE V;simp only[left,aK];omega
 | .kept _::V=>by have:=EE V;simp only[left,aK];omega
def yT(ik:List Nat)(S:α->List KV->Prop)(lo f:Nat)(all:List Nat)(base:Nat)(V2:List (Pv α))(rs:List cF)(cost:Nat)(its:List KV):Prop:=
 ∃a1 a2,cq (Oi all f lo) rs a1/\cq (uf ik S lo) V2 a2/\its=a1++a2/\all.length<=base+80*cost/\(f=3\/rs.length+left V2<=1)/\∃m,all=ik++m
theorem yT.start{S:α->List KV->Prop}{V:List (Pv α)}(h:cq (uf ik S lo) V its)(hf:f=3\/V.length<=1):yT ik S lo f ik ik.length V [] 0 its:=
 ⟨[],its,rfl,h,rfl,cH,hf.imp id λ h=>(by have:=EE V;simp;omega),[],(cj _).symm⟩
theorem yT.kept{ik all:List Nat}{S:α->List KV->Prop}{lo f base cost:Nat}{V2:List (Pv α)}{rs:List cF}{its:List KV}{r:cF}(hf:f<=3)(h:yT ik S lo f all base (.kept r::V2) rs cost its):yT ik S lo f all base V2 (rs++[r]) cost its:=by obtain⟨a1,a2,h1,⟨s,t,h2,h3,h4⟩,h5,h6,h8,m,h7⟩:=h;refine⟨a1++s,t,h1.snoc ⟨by rw[h7];exact(h2.1.Ax hf).more m,h2.2⟩,h3,by rw[h5,h4,aS],h6,h8.imp id λ h=>(by simp only[left,ar,aK,bK]at*;omega),m,h7⟩
theorem yT.nil{S:α->List KV->Prop}{V2:List (Pv α)}{rs:List cF}(h:yT ik S lo f all base (.loose []::V2) rs cost its):yT ik S lo f all base V2 rs cost its:=by obtain⟨a1,a2,h1,⟨s,t,h2,h3,h4⟩,h5,h6,h8,h7⟩:=h;cases h2;exact⟨a1,t,h1,h3,by rw[h5,h4];rfl,h6,h8,h7⟩
theorem yT.adG{S:α->List KV->Prop}{V2:List (Pv α)}{rs:List cF}{ZD zs2:List α}(h:yT ik S lo f all base (.loose (ZD++zs2)::V2) rs cost its)(hs:ee its)(hr:cR (its.map Prod.fst)):∃s,cq S ZD s/\ee s/\cR (s.map Prod.fst)/\s.length<=its.length:=by
 obtain⟨a1,a2,h1,⟨s,t,h2,h3,h4⟩,h5,h6,h8,m,h7⟩:=h;obtain⟨s1,s2,e1,e2,e3⟩:=cq.app.1 (show cq S (ZD++zs2) s from h2);have ve:its=a1++(s1++(s2++t)):=by rw[h5,h4,e3,aS]
 refine⟨s1,e1,?_,?_,by rw[ve];simp only[ar];omega⟩
 ·rw[ve]at hs;exact(ee.app (ee.app hs).2).1
 ·rw[ve]at hr;exact(j6 (j6 hr).2).1
theorem yT.chunk{S:α->List KV->Prop}{V2:List (Pv α)}{rs:List cF}{ZD zs2:List α}{x:List Nat}(h:yT ik S lo f all base (.loose (ZD++zs2)::V2) rs cost its)(hs:ee its)(hr:cR (its.map Prod.fst))
 (hx:x.length<=80*c)(h1z:1<=ZD.length)(hz:f=3\/zs2=[])(hn:∀s,cq S ZD s->ee s->cR (s.map Prod.fst)->s.length<=its.length->Oi (all++x) f lo r s):yT ik S lo f (all++x) base (.loose zs2::V2) (rs++[r]) (cost+c) its:=by
 obtain⟨a1,a2,h1,⟨s,t,h2,h3,h4⟩,h5,h6,h8,m,h7⟩:=h;obtain⟨s1,s2,e1,e2,e3⟩:=cq.app.1 (show cq S (ZD++zs2) s from h2);have ve:its=a1++(s1++(s2++t)):=by rw[h5,h4,e3,aS]
 refine⟨a1++s1,s2++t,(cq.mono (λ _ _ _ h=>h.more x) h1).snoc (hn s1 e1 ?_ ?_ ?_),⟨s2,t,e2,h3,rfl⟩,by rw[ve];simp,by rw[ar];omega,?_,m++x,by rw[h7];simp⟩
 ·rw[ve]at hs;exact(ee.app (ee.app hs).2).1
 ·rw[ve]at hr;exact(j6 (j6 hr).2).1
 ·rw[ve];simp only[ar];omega
 ·rcases hz with hz|hz
  ·exact .inl hz
  ·refine h8.imp id λ h8=>?_;subst hz;cases ZD with
   |nil=>simp at h1z
   |cons z ZD=>simp only[left,bS,ar,aK,bK]at*;omega
theorem aaF(r:cF)(s:List KV)(h:Oi all f lo r s):1<=s.length:=by
 obtain⟨⟨n,h1,_⟩,_⟩:=h;obtain⟨kv,l,e,_⟩:=h1.first
 rw[e];simp
theorem yT.LB{S:α->List KV->Prop}{V2:List (Pv α)}{rs:List cF}(h:yT ik S lo f all base V2 rs cost its):rs.length<=its.length:=by obtain⟨a1,a2,h1,_,h5,_⟩:=h;have:=h1.len 1 aaF;rw[h5,ar];omega
structure XE(ik all:List Nat)(lo n:Nat)(rs:List cF)(its:List KV):Prop where
 ext:∃m,all=ik++m
 cost:all.length<=ik.length+80*n
 pay:n*3^lo<=its.length
 Pa:cq (λ r s=>fV all r s/\lo<=r.h) rs its\/∃r,rs=[r]/\IM all r its
theorem yT.fin{S:α->List KV->Prop}{rs:List cF}(h:yT ik S lo f all ik.length [] rs n its)(hn:n*3^lo<=its.length):XE ik all lo n rs its:=by
 obtain⟨a1,a2,h1,h2,h5,h6,h8,h7⟩:=h;cases h2;rw[cj]at h5;subst h5;refine⟨h7,h6,hn,?_⟩;rcases h8 with rfl|h8
 ·exact .inl (h1.mono λ _ _ _ h=>⟨h.1.oJ,h.2⟩)
 ·match rs,h1,h8 with
  |[],h1,_=>exact .inl h1
  |[r],h1,_=>exact .inr ⟨r,rfl,(cq.one.1 h1).1.top⟩
  |_::_::_,_,h8=>simp at h8;omega
theorem XF{S:α->List KV->Prop}{t:Nat}{V V':List (Pv α)}(ht:t=1\/t=2/\2<=fb V+dQ V)(h:rM all S lo V V' its)(hs:dT V'=0\/V'.length<=1):∃f,t<=f/\f<=3/\(∀ys,Pv.loose ys∈V'->f<=ys.length)/\(f=3\/(V'.length<=1/\∀ys,Pv.loose ys∈V'->ys.length<3)):=by
 by_cases h0:dT V'=0
 ·refine⟨3,an,cH, λ ys hy=>?_,.inl rfl⟩;unfold dT at h0;rw[jT]at h0;have:=h0 _ hy;simpa[isSmall]using this
 ·have h1:V'.length<=1:=by rcases hs with h|h;exact absurd h h0;exact h
  refine⟨t,cH,an, λ ys hy=>?_,.inr ⟨h1, λ ys hy=>?_⟩⟩;rotate_left
  ·have hV:V'=[.loose ys]:=by
    match V',h1,hy with
    |[p],_,hy=>rw[aE]at hy;rw[hy]
   refine kT λ hc=>h0 ?_;rw[hV,uL _ hc]
  have tt:=oF h.tidy hy;rcases ht with rfl|⟨rfl,ht⟩
  ·exact tt
  ·have hV:V'=[.loose ys]:=by
    match V',h1,hy with
    |[p],_,hy=>rw[aE]at hy;rw[hy]
   have:=h.more;rw[hV]at this;have hk:fb [Pv.loose ys]=0:=by simp[fb]
   have hl:dQ [Pv.loose ys]=ys.length:=by simp[dQ]
   omega
theorem cV.sub{β:Type}{f:β->List Value}{sz:Nat}{B o:Nat}{xs:List β}(h:cV f sz W (some ⟨B,o,none⟩) xs)(i n:Nat):cV f sz W (some ⟨B,o+i*sz,none⟩) ((xs.drop i).take n):=(h.drop i).take n
theorem eU.only{K:AY α}(hK:∀{W W':World} {Bw k c:Nat} {b:az} (x:α),lB W Bw b k c->dI Bw W W'->K.oJ W x->K.oJ W' x)(hR:∀{W:World} {Bw k c:Nat} {b:az} (o:Nat) (x:α),lB W Bw b k c->¬ W.rangeAt Bw o (K.f x)){c':Nat}{b a:az}{ps:List (Pc α)}(hw:lB W Bw b k c')(ho:dI Bw W W')(h:eU K W a c ps):eU K W' a c ps:=by
 refine⟨tV ho hw (λ o p=>Gx hw (by rw[Pc.len];decide)) (λ p=>by cases p<;>simp[Pc.cells]) h.row, λ p hp=>?_,h.cap,h.nil,h.plain⟩;have:=h.each p hp;cases p with
 |kept r=>exact mj ho hw BB this
 |loose a c ys=>exact⟨tV ho hw (λ o x=>hR o x hw) (λ x e=>by have:=K.fsz x;have:=K.pos;rw[e]at*;simp at*;omega) this.row, λ y hy=>hK y hw ho (this.oJ y hy),this.cap,this.nil,this.plain⟩
end
theorem Oj{b:az}(x:aH)(hw:lB W Bw b k c)(ho:dI Bw W W')(h:r9.oJ W x):r9.oJ W' x:=⟨mj ho hw BB h.1,mj ho hw BB h.2⟩
theorem Ol{b:az}(x:a8)(hw:lB W Bw b k c)(ho:dI Bw W W')(h:Ay.oJ W x):Ay.oJ W' x:=mj ho hw BB h
theorem RP{b:az}(o:Nat)(x:aH)(hw:lB W Bw b k c):¬ W.rangeAt Bw o (r9.f x):=RN x hw
theorem RQ{b:az}(o:Nat)(x:a8)(hw:lB W Bw b k c):¬ W.rangeAt Bw o (Ay.f x):=Gx hw (by simp[Ay,a8.cells])
def fE(g:Nat)(b:az)(ps:List Piece):Prop:=(ps=[]\/∀G o,b=some ⟨G,o,none⟩->G≠g)/\∀p∈ps,∀G o,p.1=some ⟨G,o,none⟩->G≠g
theorem Ql(hk:∀j,j<W.heap.size->j≠g->W'.heap[j]? =W.heap[j]?){a:az}(h:ay W a xs)(ha:∀G o,a=some ⟨G,o,none⟩->G≠g):ay W' a xs:=by
 refine⟨h.1,?_⟩;rcases h.2 with h0|⟨C,o,e,hc⟩
 ·exact .inl h0
 ·exact .inr ⟨C,o,e, λ j x hx=>(bq (w:=W) (hk C (aZ W _ (hc j x hx)) (ha C o e))).T (hc j x hx)⟩
theorem dZ(hk:∀j,j<W.heap.size->j≠g->W'.heap[j]? =W.heap[j]?){b:az}(h:aQ W b c ps)(ha:fE g b ps):aQ W' b c ps:=by
 refine⟨⟨?_, λ p hp=>⟨(h.pieces.2 p hp).1,(h.pieces.2 p hp).2.1,Ql hk (h.pieces.2 p hp).2.2 (ha.2 p hp)⟩⟩,h.small,h.room⟩;rcases h.pieces.1 with h0|⟨B,o,e,hc⟩
 ·exact .inl h0
 ·cases ps with
  |nil=>exact .inl rfl
  |cons p0 T3=>
   refine .inr ⟨B,o,e, λ j p hp=>?_⟩;rcases ha.1 with h1|h1
   ·cases h1
   ·exact(bq (w:=W) (hk B (aZ W _ (hc j p hp)) (h1 B o e))).T (hc j p hp)
theorem fE.new{b:az}(h:aQ W b c ps)(hg:W.heap.size<=g):fE g b ps:=by
 constructor
 ·rcases h.pieces.1 with h0|⟨B,o,e,hc⟩
  ·exact .inl h0
  ·cases ps with
   |nil=>exact .inl rfl
   |cons p0 T3=>
    refine .inr λ G o2 e2=>?_;rw[e]at e2;cases e2;have:=aZ W _ (hc 0 p0 rfl);dsimp only at this;omega
 ·intro p hp G o e;obtain⟨h1,_,h2⟩:=h.pieces.2 p hp;rcases h2.2 with h0|⟨C,o2,e2,hc⟩
  ·exact absurd h0 h1
  ·rw[e]at e2;cases e2;cases C0:p.2.1 with
   |nil=>exact absurd C0 h1
   |cons x l=>
    have:=aZ W _ (hc 0 x mP);dsimp only at this;omega
theorem fE.snoc{b':az}{pc:Piece}{b:az}(h:fE g b ps)(hb:eZ n b')(hp:eZ n pc.1)(hg:g<n):fE g b' (ps++[pc]):=
 ⟨.inr λ G o e=>by have:n<=G:=hb _ e;omega, λ p C0 G o e=>by
   rcases aG.1 C0 with h1|h1
   ·exact h.2 p h1 G o e
   ·rw[aE]at h1;subst h1;have:n<=G:=hp _ e;omega⟩
structure pZ(Bw:Nat)(w0 W:World)(b:az)(cf:Nat)(ey:List Piece)(q:az)(k:Nat)(rs:List cF):Prop where
 only:dI Bw w0 W
 lt:Bw<w0.heap.size
 wk:lB W Bw b ey.length cf
 file:aQ W b cf ey
 marks:Marks (aw ey)
 row:W.ownsRow w0 273 9 (.slice q rs.length k) rs.length (rs.flatMap cF.cells)
 keys:∀r∈rs,ay w0 r.k.ka r.k.key
 uQ:∀g,q=some ⟨g,0,none⟩->fE g b ey
theorem pZ.start{b:az}(hw:lB w0 Bw b ey.length cf)(hF:aQ w0 b cf ey)(hm:Marks (aw ey)):pZ Bw w0 w0 b cf ey none 0 []:=
 ⟨dI.refl _ _,(cS hw).1,hw,hF,hm,dA _ _ _ _, λ r hr=>(by cases hr), λ g e=>fS⟩
theorem pZ.below{Bw:Nat}{w0 W W':World}{b:az}{cf:Nat}{ey:List Piece}{q:az}{k:Nat}{rs:List cF}(h:pZ Bw w0 W b cf ey q k rs)(hb:Below W W W'):pZ Bw w0 W' b cf ey q k rs:=
 ⟨h.only.T (dI.bH hb),h.lt,h.wk.below hb,h.file.below hb,h.marks,dC.row (n₀:=w0.heap.size) hb h.row,h.keys,h.uQ⟩
theorem pZ.wrote{b b':az}{iC:Nat}{pc:Piece}{q:az}{rs:List cF}(h:pZ Bw w0 W b cf ey q k rs)(ho:dI Bw W W')(hw:lB W' Bw b' (ey.length+1) iC)(hF:aQ W' b' iC (ey++[pc]))(vY:pc.2.1=ed (aw ey).length xs)(nH:eZ W b'/\eZ W pc.1):pZ Bw w0 W' b' iC (ey++[pc]) q k rs:=by
 have hg:∀g,q=some ⟨g,0,none⟩->g<W.heap.size/\w0.heap.size<=g:= λ g hg=>by
  rcases bg h.row with⟨h1,_⟩|⟨g2,cur,h1,h2,h3⟩
  ·rw[hg]at h1;cases h1
  ·rw[hg]at h1;cases h1;exact⟨(cS h3).1,h2⟩
 refine⟨h.only.T ho,h.lt,by rw[ar];exact hw,hF,?_,iF h.row λ g ti=>?_,h.keys, λ g ti=>(h.uQ g ti).snoc nH.1 nH.2 (hg g ti).1⟩
 ·have:aw (ey++[pc])=aw ey++ed (aw ey).length xs:=by simp[aw,vY]
  rw[this];exact yj h.marks _
 ·exact ho.block g (hg g ti).1 (by have:=h.lt;have:=(hg g ti).2;omega)
theorem pZ.put{b:az}{q:az}{rs:List cF}(h:pZ Bw w0 W b cf ey q k rs)(r:cF)(hr:ay w0 r.k.ka r.k.key)(hk:rs.length<=1000):
 ∃g' c' w',(Builtin.append_ #[277,277] 277 (fP q rs.length k (zp W) 1 1)).run Tryz.prog (W.alloc (.cells r.cells.toArray 273))= .ok (.slice (zp g') (rs.length+1) c') w'/\pZ Bw w0 w' b cf ey (zp g') c' (rs++[r])/\(∀(E:Nat) (cs:Array Value) (t:TypeId),W.heap[E]? =some (.cells cs t)->t≠273->w'.heap[E]? =some (.cells cs t)):=by
 obtain⟨g',c',w',eh,It,ti⟩:=gR (P:=Tryz.prog) 277 273 (.agg U4) 9 88 bU FT rfl de r.cells rfl (FU r) h.row an an h.only.size;have hb:Below w0 W w':=ti.below;have iU:∀(E:Nat) (cs:Array Value) (t:TypeId),W.heap[E]? =some (.cells cs t)->t≠273->w'.heap[E]? =some (.cells cs t):= λ E cs t hE ht=>(ti.eG E (cS hE).1 (FX h.row hE ht)).T hE;have Om:aQ w' b cf ey:=by
  rcases bg h.row with⟨h1,_⟩|⟨g2,cur,h1,h2,h3⟩
  ·have qy:Below W W w':=⟨hb.os,hb.tape,hb.output,hb.size, λ j hj=>ti.eG j hj (by rw[h1];simp[Value.ownBlock])⟩;exact h.file.below qy
  ·refine dZ (g:=g2) (λ j hj dN=>ti.eG j hj ?_) h.file (h.uQ g2 h1);rw[h1];simp[Value.ownBlock];omega
 refine⟨g',c',w',eh,⟨⟨hb.os.T h.only.os,hb.tape.T h.only.tape,hb.output.T h.only.output,aj h.only.size hb.size, λ j hj dN=>(hb.block j hj).T (h.only.block j hj dN)⟩,h.lt,iU _ _ _ h.wk de,Om,h.marks,by rw[ar,bV];simpa using It, λ x hx=>?_, λ g hg=>?_⟩,iU⟩
 ·rcases aG.1 hx with e|e
  ·exact h.keys x e
  ·rw[aE]at e;subst e;exact hr
 ·cases hg;rcases ti.at_ with h1|⟨g2,h1,h2⟩
  ·rcases bg h.row with⟨h3,_⟩|⟨g2,cur,h3,_,_⟩
   ·rw[h3]at h1;simp[Value.ownBlock]at h1
   ·rw[h3]at h1;have:g'=g2:=by simpa[Value.ownBlock]using h1
    rw[this];exact h.uQ g2 h3
  ·have:g'=g2:=by simpa[Value.ownBlock]using h1
   rw[this];exact fE.new h.file h2
structure DB(Bw:Nat)(w W:World)(b:az)(cf:Nat)(ey:List Piece)(q:az)(rs:List cF):Prop where
 only:dI Bw w W
 wk:lB W Bw b ey.length cf
 file:aQ W b cf ey
 marks:Marks (aw ey)
 roots:pC W q rs
theorem pZ.fin{w1:World}{b:az}{q:az}{rs:List cF}(h:pZ Bw w1 W b cf ey q k rs){b1:az}{k1 c1:Nat}(h1:lB w1 Bw b1 k1 c1)(hb:Below w w w1):DB Bw w W b cf ey q rs:=
 ⟨(dI.bH hb).T h.only,h.wk,h.file,h.marks,⟨cV.kM h.row (λ _=>rfl) de, λ r hr=>mj h.only h1 BB (h.keys r hr)⟩⟩
abbrev XJ(l:List aH):Prop:=l.Pairwise λ a b=>lj a.key b.key
theorem Ot(h:XJ ys)(hp:∀y∈ys.take p,lj y.key x.key)(hq:∀y,ys[p]? =some y->¬ lj y.key x.key)(dN:∀y∈ys,y.key≠x.key):XJ (ys.take p++[x]++ys.drop p):=by
 have hd:∀y∈ys.drop p,lj x.key y.key:=by
  intro y hy;cases hdp:ys.drop p with
  |nil=>rw[hdp]at hy;cases hy
  |cons z l=>
   have hz:ys[p]? =some z:=by
    have:=congrArg List.head? hdp
    rwa [List.head?_drop]at this
   have hzx:lj x.key z.key:=by
    have h1:=hq z hz;have h2:=dN z (ak hz);unfold lj at h1⊢;rw[tH];rcases qG z.key x.key with h|h|h
    ·exact absurd h h1
    ·exact absurd ((cmpL_eq _ _).1 h) h2
    ·rw[h]
   rw[hdp]at hy;rcases aO.1 hy with rfl|hy
   ·exact hzx
   ·have hpw:XJ (z::l):=by rw[<-hdp];exact ja (List.drop_sublist _ _) h
    exact lE _ _ _ hzx ((dH.1 hpw).1 y hy)
 refine dp.2 ⟨dp.2 ⟨ja (List.take_sublist _ _) h,by simp, λ a ha b hb=>by rw[aE]at hb;subst hb;exact hp a ha⟩,ja (List.drop_sublist _ _) h, λ a ha b hb=>?_⟩;rcases aG.1 ha with ha|ha
 ·exact lE _ _ _ (hp a ha) (hd b hb)
 ·rw[aE]at ha;subst ha;exact hd b hb
theorem GB(ys:List aH)(x:aH)(p:Nat):(ys.take p++[x]++ys.drop p).Perm (x::ys):=by have h1:(ys.take p++[x]++ys.drop p).Perm ([x]++ys.take p++ys.drop p):=gw.append_right _;refine h1.trans ?_;rw[aS,bj];exact List.Perm.refl _
theorem aH.fO(x:aH):x.cells.length=4:=rfl
theorem aH.pq(x:aH):∀u∈x.cells,u.oneCell'=true:=by simp[aH.cells,Value.oneCell']
structure afO(x:aH):Prop where
 k1:1<=x.key.length
 k2:x.key.length<=120
 v2:x.val.length<=100
theorem RS{a b:List Nat}:ltB a b=true↔lj a b:=by unfold ltB lj;exact decide_eq_true_iff
theorem aH.CR(x:aH):x.cells[0]? =some (.slice x.ka x.key.length x.kc):=rfl
theorem Fm(ys:List aH):ys.length*4=(ys.flatMap aH.cells).length:=by
 induction ys with
 |nil=>rfl
 |cons y l ih=>rw[bf,ar,aK,y.fO,<-ih];omega
theorem uR{q:az}{L cx:Nat}(h:cV aH.cells 4 W q ys)(hq:(q=none/\L=0)\/∃B o,q=some ⟨B,o,none⟩)(hL:L=ys.length)(hp:p<=L)(hl:L<=1000)(q2:az)(pK:(q=none->q2=none/\cx=0)/\∀B o,q=some ⟨B,o,none⟩->q2=some ⟨B,o+p*4,none⟩\/(L=p/\q2=some ⟨B,o,none⟩))(k1:Nat)(C1:q=none->k1=0):
 ∃a3 k3 w3 g4 k4 w4 a5 k5 w5,(Builtin.append_ #[91,91] 91 #[.slice none 0 0,.slice q p k1]).run Tryz.prog W= .ok (.slice a3 p k3) w3/\(Builtin.append_ #[91,91] 91 (fP a3 p k3 (zp w3) 1 1)).run Tryz.prog (w3.alloc (.cells x.cells.toArray 101))= .ok (.slice (zp g4) (p+1) k4) w4/\(Builtin.append_ #[91,91] 91 (fP (zp g4) (p+1) k4 q2 (L - p) cx)).run Tryz.prog w4= .ok (.slice a5 (p+1+(L - p)) k5) w5/\Below W W w3/\Below W W w4/\Below W W w5/\p+1+(L - p)=(ys.take p++[x]++ys.drop p).length/\w5.ownsRow W 101 4 (.slice a5 (p+1+(L - p)) k5) (p+1+(L - p)) ((ys.take p++[x]++ys.drop p).flatMap aH.cells):=by
 have gC:FG W q p ((ys.take p).flatMap aH.cells):=by
  rcases hq with⟨h1,h2⟩|⟨B,o,h1⟩
  ·exact .inl ⟨an,h1⟩
  ·have:=(h.take p).src (.inr ⟨B,o,h1⟩) aH.fO de
   rwa [aX,eL an]at this
 obtain⟨a3,k3,w3,e3,r3,g3⟩:=mg (P:=Tryz.prog) (cc:=k1) 91 101 (.agg oH) 4 64 bU mF rfl de (W:=W) (n₀:=W.heap.size) (k:=0) (c:=0) (a:=none) (xs:=[]) (by rw[<-Fm (ys.take p),aX,eL an]) gC (λ u hu=>by obtain⟨y,_,hu⟩:=ck.1 hu;exact y.pq u hu) ⟨rfl,.inl ⟨rfl,rfl⟩⟩ an an (cH) C1;rw[aN,bn]at r3;rw[aN]at e3 g3;obtain⟨g4,k4,w4,e4,r4,g4'⟩:=gR (P:=Tryz.prog) 91 101 (.agg oH) 4 64 bU mF rfl de x.cells x.fO x.pq r3 an an g3.below.size;have dX:Below W W w4:=g3.below.T g4'.below;have lH:FG w4 q2 (L - p) ((ys.drop p).flatMap aH.cells):=by
  rcases hq with⟨h1,h2⟩|⟨B,o,h1⟩
  ·exact .inl ⟨an,(pK.1 h1).1⟩
  ·rcases pK.2 B o h1 with h3|⟨h3,h4⟩;rotate_left
   ·rw[h3,jv,dh an];exact .inr ⟨B,o,h4, λ j u hj=>by simp at hj⟩
   rw[h1]at h;have:=(cV.below (h.drop p) dX).src (.inr ⟨B,o+p*4,rfl⟩) aH.fO de;rw[bC,<-hL]at this;rw[h3];exact this
 obtain⟨a5,k5,w5,e5,r5,g5⟩:=mg (P:=Tryz.prog) (cc:=cx) 91 101 (.agg oH) 4 64 bU mF rfl de (by rw[<-Fm (ys.drop p),bC,<-hL]) lH (λ u hu=>by obtain⟨y,_,hu⟩:=ck.1 hu;exact y.pq u hu) r4 an an dX.size (λ e=>by
  rcases hq with⟨h1,_⟩|⟨B,o,h1⟩
  ·exact(pK.1 h1).2
  ·rcases pK.2 B o h1 with h3|⟨_,h3⟩
   ·rw[h3]at e;cases e
   ·rw[h3]at e;cases e)
 refine⟨a3,k3,w3,g4,k4,w4,a5,k5,w5,e3,e4,e5,g3.below,dX,dX.T g5.below,by simp;omega,?_⟩;rw[bV,bV];simpa using r5
theorem xB{p:Prop}(h:p:=by
 obtain⟨z0,z1,z2,z3⟩:=HC.O w3 (AK.T (cu.mono AK.size));rw[<-JQ.O.1]at z0;rw[<-JQ.O.2]at z1;unfold aH.cells at lu;rw[<-JQ.O.1,<-JQ.O.2]at lu;simp only[jv,bb,aN]at we lu DT FI r6;have H5:=eS FI (me r6 AK.size) (AK.T (dV.mono AK.size));clear mu ED AK GC cu dX dV FI r6 c0 c1 c2 c3;refine nP hK ?_;clear hK K;refine Ra [(5,true),(6,true),(7,true),(8,true),(9,true),(10,true),(11,true),(12,false),(13,false),(14,false),(15,false),(16,false),(17,false),(18,false),(19,false),(20,false),(21,false),(22,false),(23,false),(24,false),(25,true),(26,true)] ?_
 iterate 7 refine tO ?_
 iterate 13 refine tF ?_
 iterate 2 refine tO ?_
 refine au 0 rfl ?_;refine dP ?_;go_simp
 go_wp2_with fail
 exact⟨⟨i+1,a5,_,k5,an,by simp,rfl,ag ⟨_,(GB ys x p).trans (HPM.O),WU.O,H5.O.1,H5.O.2.1⟩,ag H5.O.2.2⟩,by simp[intOf];omega⟩
 ):p:=h
theorem Qo{a:az}{xs:List aH}(c:Nat)(h:ec w a xs)(kD:∀x∈xs,afO x)(dN:xs.Pairwise λ x y=>x.key≠y.key)(hl:xs.length<=1000):
 Calls Tryz.prog 35 (sg a xs.length c) w λ e w'=>∃(q:az) (k:Nat) (ys:List aH),ys.Perm xs/\XJ ys/\e= .returned (.slice q ys.length k)/\ys.length<=k/\ec w' q ys/\Below w w w':=by
 obtain⟨n,hn⟩:=bL xs.length;have kH:(n:Int)<=1000:=an;have HI:=oT h kD dN hn;have HAH:=ag (λ (x y:aH) (hx:ay w x.ka x.key) (hy:ay w y.ka y.key) (kx:x.key.length<=1000) (ky:y.key.length<=1000) (W:World) (hW:Below w w W)=>Qn x.kc y.kc (hx.below hW) (hy.below hW) kx ky);rw[<-hn];clear h kD dN hl hn;go_enter Tryz.func35,Tryz.ntmps35
 go_wp2_with fail
 go_loopw [3,4] (λ ov iv wr=>∃(i:Nat) (q:az) (L k:Nat),i<=n/\iv= .int .i64 (i:Int)/\ov= .slice q L k/\Hid (∃ys:List aH,ys.Perm (xs.take i)/\XJ ys/\L=ys.length/\wr.ownsRow w 101 4 (.slice q L k) L (ys.flatMap aH.cells))/\Hid (Below w w wr)) (λ _ iv _=>n - (intOf iv).toNat)
 case atStart=>exact⟨0,none,0,0,aD _,rfl,rfl,ag ⟨[],by simp,List.Pairwise.nil,rfl,⟨rfl,.inl ⟨rfl,rfl⟩⟩⟩,ag (gb)⟩
 case round=>
  obtain⟨i,q,L,k,hi,rfl,rfl,yO,hB⟩:=hrel;obtain⟨wo,Qp⟩:=bL wr;rw[<-Qp]at yO hB⊢;clear Qp wr;by_cases cL:i<n
  ·have hii:(i:Int)<(n:Int):=an;obtain⟨x,hx⟩:∃x,xs[i]? =some x:=⟨_,aB (cm HI.O.2.2.2)⟩;obtain⟨ys,e1,e2,e3,e4⟩:=yO.O;have hLn:L<=i:=by have:=e1.length_eq;rw[aX]at this;omega
   have hLi:(L:Int)<=1000:=an;have BW:=ak hx;obtain⟨B,o,rfl,hc⟩:∃B o,a=some ⟨B,o,none⟩/\∀W,Below w w W->W.cell? ⟨B,o+i*4,none⟩=some (.slice x.ka x.key.length x.kc)/\W.cell? ⟨B,o+i*4+1,none⟩=some (.slice x.va x.val.length x.vc)/\W.cell? ⟨B,o+i*4+2,none⟩=some (.bool false)/\W.cell? ⟨B,o+i*4+3,none⟩=some (.int .i64 0):=by
    rcases HI.O.1.1 with h0|⟨B,o,e,hc⟩
    ·rw[h0]at hx;cases hx
    ·exact⟨B,o,e, λ W hW=>⟨carry hW (hc i x hx).1,carry hW (hc i x hx).2.1,carry hW (hc i x hx).2.2.1,carry hW (hc i x hx).2.2.2⟩⟩
   have HC:=ag hc;have HXM:=eS hx BW (HI.O.1.2 x BW);obtain⟨nk,hnk⟩:=bL x.key.length;obtain⟨nv,hnv⟩:=bL x.val.length;have JQ:=dO hnk hnv;have M9:Hid (L<=1000):=ag an;have ajq:(nk:Int)<=120:=by have:=(HI.O.2.1 x (ak hx)).k2;omega
   have qb:=ag (λ W=>Uc x.ka x.va nk x.kc nv x.vc (by have:=(HI.O.2.1 x (ak hx)).k1;omega) (by have:=(HI.O.2.1 x (ak hx)).k2;omega) (by have:=(HI.O.2.1 x (ak hx)).v2;omega) W);have HE:=oT e1 e2 e3 e4;have AV:∀y∈ys,y∈xs/\y.key≠x.key:= λ y hy=>by have h1:=(e1.mem_iff).1 hy;obtain⟨jj,hjj,Td⟩:=List.getElem_of_mem h1;rw[aX]at hjj;rw[List.getElem_take]at Td;have AH:=(aC.1 hx).1;have h3:=gU.1 HI.O.2.2.1 jj i an AH an;rw[Td,(aC.1 hx).2]at h3;exact⟨aP h1,h3⟩
   have HM:=ag AV;have HPM:Hid ((x::ys).Perm (xs.take (i+1))):=ag (by rw[aL,hx,fY];exact(List.Perm.cons x e1).trans (gw (l₁:=[x]) (l₂:=xs.take i)))
   clear yO e1 e2 e3 e4 cL hc hx BW AV hnk hnv hLn
   go_wp2_with fail
   go_loopw [5] (λ pv W=>∃p:Nat,p<=L/\pv= .int .i64 (p:Int)/\Hid (∀y∈ys.take p,lj y.key x.key)/\Hid (Below wo wo W)) (λ pv _=>L - (intOf pv).toNat)
   case atStart=>exact⟨0,aD _,rfl,ag cP,ag (gb)⟩
   case round=>
    obtain⟨p,hp,rfl,En,hW⟩:=hrel;have JA:Below w w wr:=hB.O.T (hW.O.mono hB.O.size);obtain⟨c0,c1,c2,c3⟩:=HC.O wr JA;rw[<-JQ.O.1]at c0;rw[<-JQ.O.2]at c1;by_cases BP:p<L
    ·have hpi:(p:Int)<(L:Int):=an;obtain⟨y,hy⟩:∃y,ys[p]? =some y:=⟨_,aB (cm HE.O.2.2.1)⟩;have Ak:cV aH.cells 4 wr q ys:=cV.kM (n₀:=w.heap.size) (k:=L) (c:=k) (e:=101) (dC.row hW.O HE.O.2.2.2) aH.fO de;obtain⟨B2,o2,hq⟩:=Ak.some_ (cm HE.O.2.2.1);rw[hq]at Ak;obtain⟨my,hmy⟩:=bL y.key.length;have y0:wr.cell? ⟨B2,o2+p*4,none⟩=some (.slice y.ka my y.kc):=by
      have:=(Ak.get hy) 0 _ y.CR
      rwa [bb,<-hmy]at this
     obtain⟨hym,Ud⟩:=HM.O y (ak hy);have tk:=(HI.O.1.2 y hym).1;have hyo:=HI.O.2.1 y hym;have hR:=HAH.O y x tk HXM.O.2.2.1 (cm hyo.k2) (by have:=(HI.O.2.1 x HXM.O.2.1).k2;omega) wr.drew JA.drew;rw[<-hmy,<-JQ.O.1]at hR;have HQ:=ag hq;have HY:=dO hy tk;have HMY:=ag hmy;have ma:((cE y.key).toList==(cE x.key).toList)=false:=by rw[MF tk.1 HXM.O.2.2.1.1];exact decide_eq_false Ud
     cases cb:ltB y.key x.key with
     |true=>
      rw[cb]at hR;have HR:=ag hR;have HLO:Hid (∀z∈ys.take (p+1),lj z.key x.key):=ag (by
       intro z hz;rw[aL,hy]at hz;rcases aG.1 hz with hz|hz
       ·exact En.O z hz
       ·have:z=y:=by simpa using hz
        rw[this];exact RS.1 cb)
      rw[hq];clear hR Ak tk hyo Ud hym hmy hy hq cb ma BP
      go_wp2_with fail
      refine bP 17 ?_;refine tP [0,1,2,3,4,5,6,7,8,9,10,11,12,13,14] ?_
      iterate 15 refine tO ?_
      refine au 2 rfl ?_;refine sP 15 [0,1,2,3,4,5,6,7,8,9,10,11,12,13,14] λ K hK=>?_;go_simp;refine HR.O.mono ?_;rintro e V ⟨rfl,hv⟩;have HV:=ag (show Below wo wo V from hW.O.drew.T (hv.mono hW.O.drew.size));clear hv c0 c1 c2 c3 y0;refine nP hK ?_;clear hK K;refine tP [16] ?_;refine tO ?_;refine au 0 rfl ?_;refine dP ?_;go_simp
      go_wp2_with fail
      exact⟨⟨p+1,an,by simp,HLO,HV⟩,by simp[intOf];omega⟩
     |false=>
      rw[cb]at hR;have HR:=ag hR;have WU:Hid (XJ (ys.take p++[x]++ys.drop p)):=ag (Ot HE.O.2.1 En.O (λ z hz=>by rw[hy]at hz;cases hz;exact λ h=>by rw[RS.2 h]at cb;cases cb) λ z hz=>(HM.O z hz).2)
      rw[hq];clear hR Ak tk hyo Ud hym hmy hy hq cb BP
      go_wp2_with fail
      refine bP 17 ?_;refine tP [0,1,2,3,4,5,6,7,8,9,10,11,12,13,14] ?_
      iterate 15 refine tO ?_
      refine au 2 rfl ?_;refine sP 15 [0,1,2,3,4,5,6,7,8,9,10,11,12,13,14] λ K hK=>?_;go_simp;refine HR.O.mono ?_;rintro e V ⟨rfl,hv⟩;have UR:=hW.O.drew.T (hv.mono hW.O.drew.size);obtain⟨c0,c1,c2,c3⟩:=HC.O V (hB.O.T (UR.mono hB.O.size));rw[<-JQ.O.1]at c0;rw[<-JQ.O.2]at c1;clear hv y0;refine nP hK ?_;clear hK K;refine tP [16] ?_;refine tO ?_;refine au 0 rfl ?_;refine dP ?_;go_simp
      go_wp2_with fail
      have UR:=UR.drew;have hLk:=lQ HE.O.2.2.2;have hpk:(p:Int)<=(k:Int):=an;have ajr:(L:Int)<=(k:Int):=an;have ajs:(p:Int)<=(L:Int):=an;refine bP 27 ?_;refine tP [0,1,2,3] ?_
      iterate 4 refine tO ?_
      refine au 23 rfl ?_;refine sP 4 [0,1,2,3] λ K hK=>?_;go_simp;refine(qb.O _).mono ?_;rintro e V2 ⟨rfl,mu⟩;have ED:Below wo wo V2:=UR.T (mu.mono UR.size);have AK:Below w w V2:=hB.O.T (ED.mono hB.O.size);obtain⟨d0,d1,d2,d3⟩:=HC.O V2 AK;rw[<-JQ.O.1]at d0;rw[<-JQ.O.2]at d1;have GC:cV aH.cells 4 V2 q ys:=cV.kM (n₀:=w.heap.size) (k:=L) (c:=k) (e:=101) (dC.row ED HE.O.2.2.2) aH.fO de;have y0:V2.cell? ⟨B2,o2+p*4,none⟩=some (.slice y.ka my y.kc):=by
       have h1:=GC;rw[HQ.O]at h1;have:=(h1.get HY.O.1) 0 _ y.CR
       rwa [bb,<-HMY.O]at this
      have afc:=fu (c:=y.kc) (k:=my) (HY.O.2.below AK) HMY.O.symm;have ag8:=fu (c:=x.kc) (k:=nk) (HXM.O.2.2.1.below AK) JQ.O.1.symm;obtain⟨a3,k3,w3,g4,k4,w4,a5,k5,w5,we,lu,DT,cu,dX,dV,FI,r6⟩:=uR (x:=x) (p:=p) (cx:=k - p) GC (.inr ⟨B2,o2,HQ.O⟩) HE.O.2.2.1 hp M9.O (some ⟨B2,o2+p*4,none⟩) ⟨λ e=>(by rw[HQ.O]at e;cases e), λ B o e=>(by rw[HQ.O]at e;cases e;exact .inl rfl)⟩ k (λ e=>by rw[HQ.O]at e;cases e);rw[HQ.O]at we;obtain⟨z0,z1,z2,z3⟩:=HC.O w3 (AK.T (cu.mono AK.size));rw[<-JQ.O.1]at z0;rw[<-JQ.O.2]at z1;unfold aH.cells at lu;rw[<-JQ.O.1,<-JQ.O.2]at lu;have H5:=eS FI (me r6 AK.size) (AK.T (dV.mono AK.size));clear mu ED AK GC cu dX dV FI r6 c0 c1 c2 c3;refine nP hK ?_;clear hK K;refine tP [5,6,7,8,9,10,11,12,13,14,15,16,17,18,19,20,21,22,23,24,25,26] ?_
      iterate 22 refine tO ?_
      refine au 0 rfl ?_;refine dP ?_;go_simp
      go_wp2_with fail
      exact⟨⟨i+1,a5,_,k5,an,by simp,rfl,ag ⟨_,(GB ys x p).trans (HPM.O),WU.O,H5.O.1,H5.O.2.1⟩,ag H5.O.2.2⟩,by simp[intOf];omega⟩
    ·obtain rfl:p=L:=an;have vW:¬ (p:Int)<(p:Int):=an;have WU:Hid (XJ (ys.take p++[x]++ys.drop p)):=ag (Ot HE.O.2.1 En.O (λ z hz=>by
      have:=(aC.1 hz).1;have:=HE.O.2.2.1;omega) λ z hz=>(HM.O z hz).2)
     have UR:=hW.O.drew.drew;rcases bg HE.O.2.2.2 with⟨hq,hL0,As⟩|⟨g,cur,hq, -, -⟩
     ·subst hq hL0 As;clear BP
      go_wp2_with fail
      refine bP 17 ?_;refine Ra [(0,true),(1,true),(2,true),(3,true),(4,true),(5,false),(6,false),(7,false),(8,false),(9,false),(10,false),(11,false),(12,false),(13,false),(14,false)] ?_
      iterate 5 refine tO ?_
      iterate 10 refine tF ?_
      refine au 2 rfl ?_;refine sP 15 [0,1,2,3,4,5,6,7,8,9,10,11,12,13,14] λ K hK=>?_;go_simp;refine nP hK ?_;clear hK K;refine tP [16] ?_;refine tO ?_;refine au 0 rfl ?_;refine dP ?_;go_simp
      go_wp2_with fail
      refine bP 27 ?_;refine tP [0,1,2,3] ?_
      iterate 4 refine tO ?_
      refine au 23 rfl ?_;refine sP 4 [0,1,2,3] λ K hK=>?_;go_simp;refine(qb.O _).mono ?_;rintro e V2 ⟨rfl,mu⟩;have ED:Below wo wo V2:=UR.T (mu.mono UR.size);have AK:Below w w V2:=hB.O.T (ED.mono hB.O.size);have GC:cV aH.cells 4 V2 none ys:=cV.kM (n₀:=w.heap.size) (e:=101) (dC.row ED HE.O.2.2.2) aH.fO de;obtain⟨a3,k3,w3,g4,k4,w4,a5,k5,w5,we,lu,DT,cu,dX,dV,FI,r6⟩:=uR (x:=x) (p:=0) (L:=0) (cx:=0) GC (.inl ⟨rfl,rfl⟩) HE.O.2.2.1 (cH) M9.O none ⟨λ _=>⟨rfl,rfl⟩, λ B o e=>fS⟩ 0 (λ _=>rfl);obtain⟨z0,z1,z2,z3⟩:=HC.O w3 (AK.T (cu.mono AK.size));rw[<-JQ.O.1]at z0;rw[<-JQ.O.2]at z1;unfold aH.cells at lu;rw[<-JQ.O.1,<-JQ.O.2]at lu;simp only[jv,bb,aN]at we lu DT FI r6;have H5:=eS FI (me r6 AK.size) (AK.T (dV.mono AK.size));clear mu ED AK GC cu dX dV FI r6 c0 c1 c2 c3;refine nP hK ?_;clear hK K;refine Ra [(5,true),(6,true),(7,true),(8,true),(9,true),(10,true),(11,true),(12,false),(13,false),(14,false),(15,false),(16,false),(17,false),(18,false),(19,false),(20,false),(21,false),(22,false),(23,false),(24,false),(25,true),(26,true)] ?_
      iterate 7 refine tO ?_
      iterate 13 refine tF ?_
      iterate 2 refine tO ?_
      refine au 0 rfl ?_;refine dP ?_;go_simp
      go_wp2_with fail
      exact⟨⟨i+1,a5,_,k5,an,by simp,rfl,ag ⟨_,(GB ys x 0).trans (HPM.O),WU.O,H5.O.1,H5.O.2.1⟩,ag H5.O.2.2⟩,by simp[intOf];omega⟩
     ·subst hq;have hLk:=lQ HE.O.2.2.2;have hpk:(p:Int)<=(k:Int):=an;clear BP;by_cases hkp:k=p
      ·have ahW:p=k:=hkp.symm;clear hkp;subst ahW
       go_wp2_with fail
       refine bP 17 ?_;refine Ra [(0,true),(1,true),(2,true),(3,true),(4,true),(5,false),(6,false),(7,false),(8,false),(9,false),(10,false),(11,false),(12,false),(13,false),(14,false)] ?_
       iterate 5 refine tO ?_
       iterate 10 refine tF ?_
       refine au 2 rfl ?_;refine sP 15 [0,1,2,3,4,5,6,7,8,9,10,11,12,13,14] λ K hK=>?_;go_simp;refine nP hK ?_;clear hK K;refine tP [16] ?_;refine tO ?_;refine au 0 rfl ?_;refine dP ?_;go_simp
       go_wp2_with fail
       refine bP 27 ?_;refine tP [0,1,2,3] ?_
       iterate 4 refine tO ?_
       refine au 23 rfl ?_;refine sP 4 [0,1,2,3] λ K hK=>?_;go_simp;refine(qb.O _).mono ?_;rintro e V2 ⟨rfl,mu⟩;have ED:Below wo wo V2:=UR.T (mu.mono UR.size);have AK:Below w w V2:=hB.O.T (ED.mono hB.O.size);have GC:cV aH.cells 4 V2 (zp g) ys:=cV.kM (n₀:=w.heap.size) (e:=101) (dC.row ED HE.O.2.2.2) aH.fO de;obtain⟨a3,k3,w3,g4,k4,w4,a5,k5,w5,we,lu,DT,cu,dX,dV,FI,r6⟩:=uR (x:=x) (p:=p) (L:=p) (cx:=0) GC (.inr ⟨g,0,rfl⟩) HE.O.2.2.1 (cH) M9.O (zp g) ⟨λ e=>fS, λ B o e=>(by cases e;exact .inr ⟨rfl,rfl⟩)⟩ p (λ e=>fS);exact xB
      ·have ajt:(p:Int)<(k:Int):=an;have yK:¬ k - p=0:=an;have aju:¬ k<=p:=an
       go_wp2_with fail
       refine bP 17 ?_;refine Ra [(0,true),(1,true),(2,true),(3,true),(4,true),(5,false),(6,false),(7,false),(8,false),(9,false),(10,false),(11,false),(12,false),(13,false),(14,false)] ?_
       iterate 5 refine tO ?_
       iterate 10 refine tF ?_
       refine au 2 rfl ?_;refine sP 15 [0,1,2,3,4,5,6,7,8,9,10,11,12,13,14] λ K hK=>?_;go_simp;refine nP hK ?_;clear hK K;refine tP [16] ?_;refine tO ?_;refine au 0 rfl ?_;refine dP ?_;go_simp
       go_wp2_with fail
       refine bP 27 ?_;refine tP [0,1,2,3] ?_
       iterate 4 refine tO ?_
       refine au 23 rfl ?_;refine sP 4 [0,1,2,3] λ K hK=>?_;go_simp;refine(qb.O _).mono ?_;rintro e V2 ⟨rfl,mu⟩;have ED:Below wo wo V2:=UR.T (mu.mono UR.size);have AK:Below w w V2:=hB.O.T (ED.mono hB.O.size);have GC:cV aH.cells 4 V2 (zp g) ys:=cV.kM (n₀:=w.heap.size) (e:=101) (dC.row ED HE.O.2.2.2) aH.fO de;obtain⟨a3,k3,w3,g4,k4,w4,a5,k5,w5,we,lu,DT,cu,dX,dV,FI,r6⟩:=uR (x:=x) (p:=p) (L:=p) (cx:=k - p) GC (.inr ⟨g,0,rfl⟩) HE.O.2.2.1 (cH) M9.O (some ⟨g,0+p*4,none⟩) ⟨λ e=>fS, λ B o e=>(by cases e;exact .inl rfl)⟩ k (λ e=>fS);exact xB
  ·obtain rfl:i=n:=an;have vW:¬ (i:Int)<(i:Int):=an;obtain⟨ys,e1,e2,e3,e4⟩:=yO.O;rw[HI.O.2.2.2,bd]at e1;have HCP:=ag (lQ e4);have HE:=oT e1 e2 e3 (cV.kM (n₀:=w.heap.size) (e:=101) e4 aH.fO de);clear yO e1 e2 e3 e4 cL
   go_wp2_with fail
   go_ret;refine⟨q,k,ys,HE.O.1,HE.O.2.1,by rw[<-HE.O.2.2.1];rfl,by rw[<-HE.O.2.2.1];exact HCP.O,kN.2 ⟨HE.O.2.2.2, λ y hy=>?_⟩,hB.O⟩;have:=HI.O.1.2 y ((HE.O.1.mem_iff).1 hy);exact⟨this.1.below hB.O,this.2.below hB.O⟩
end
theorem rQ{p:Prop}(h:p:=by
 go_wp2_with fail
 exact⟨⟨i+1,an,by simp,HN,hw⟩,by simp[intOf];omega⟩
 ):p:=h
theorem Sb(s:ByteArray)(hs:s.size<=4611686018427387904)(w:World):Calls Tryz.prog 8 #[.string s] w λ e w'=>e= .returned (.bool (vz s))/\w'=w:=by
 have h62:(s.size:Int)<=4611686018427387904:=an;by_cases hl:K3 s=true
 ·have ri:=hl;unfold K3 at ri;rw[bQ,decide_eq_true_eq,decide_eq_true_eq]at ri;have d1:((s.size:Int)==0)=false:=by simp;intro h;rw[h]at ri;simp at ri
  have d0:¬ s=ByteArray.empty:= λ h=>by rw[h]at ri;simp at ri
  have d2:decide ((24:Int)<(s.size:Int))=false:=dU;have N7:∀(i:Nat) (h:i<s.size),oD s (i+1)=(oD s i&&pY (s[i]'h).toNat):= λ i h=>by unfold oD;rw[lI,List.all_append];simp[Bool.and_assoc,h]
  have abp:∀n,oD s n=false->∀m,n<=m->oD s m=false:= λ n hn m hm=>by unfold oD at hn⊢;rw[hl,Bool.true_and]at hn⊢;rw[List.all_eq_false]at hn⊢;obtain⟨x,hx,h⟩:=hn;exact⟨x,dw.2 (aA (dw.1 hx) hm),h⟩
  have rB:=ag N7;have HBK:=ag abp;have H0:Hid (oD s 0=true):=ag (by unfold oD;rw[hl];rfl);clear hl ri hs N7 abp;go_enter Tryz.func8,Tryz.ntmps8
  go_wp2_with fail
  clear d0 d1 d2
  go_loopw [3] (λ iv wr=>∃i:Nat,i<=s.size/\iv= .int .i64 (i:Int)/\Hid (oD s i=true)/\Hid (wr=w)) (λ iv _=>s.size - (intOf iv).toNat)
  case atStart=>exact⟨0,aD _,rfl,H0,ag rfl⟩
  case round=>
   obtain⟨i,hi,rfl,kD,hw⟩:=hrel;by_cases cL:i<s.size
   ·have SK:((i:Int)<(s.size:Int)):=an;have ahK:(i:Int)<4611686018427387904:=an;obtain⟨x,hx⟩:=bL ((s[i]'cL).toNat);have hix:∀W:World,(Instr.index 9 (.string s) (.int .i64 (i:Int))).run Tryz.prog W= .ok (.int .u8 (x:Int)) W:= λ W=>by rw[hx];go_simp
    have HS1:=ag (rB.O i cL);have HP:Hid (pY x=(decide (97<=x)&&decide (x<=122)||decide (48<=x)&&decide (x<=57)||decide (x=45))):=ag rfl;rw[<-hx]at HS1;have UK:x<256:=by have:=(s[i]'cL).toNat_lt;omega
    have Ki:((x=45))\/((¬ x=45)/\(¬ x<48)/\(¬ 57<x))\/((¬ x=45)/\(¬ x<48)/\(57<x)/\(¬ x<97)/\(¬ 122<x))\/((¬ x=45)/\(x<48)/\(x<97))\/((¬ x=45)/\(¬ x<48)/\(57<x)/\(x<97))\/((¬ x=45)/\(¬ x<48)/\(57<x)/\(¬ x<97)/\(122<x)):=an;clear hx;rcases Ki with q0|⟨q0,q1,q2⟩|⟨q0,q1,q2,q3,q4⟩|⟨q0,q1,q2⟩|⟨q0,q1,q2,q3⟩|⟨q0,q1,q2,q3,q4⟩
    ·have b0:((x:Int)==45)=true:=dU;have HN:Hid (oD s (i+1)=true):=ag o8;clear UK;subst q0;exact rQ
    ·have b0:((x:Int)==45)=false:=dU;have b00:¬ (x:Int)=45:=an;have b01:((x:Int)!=45)=true:=dU;have b1:decide ((x:Int)<48)=false:=dU;have b2:decide ((57:Int)<(x:Int))=false:=dU;have HN:Hid (oD s (i+1)=true):=ag o8;clear UK q0 q1 q2;exact rQ
    ·have b0:((x:Int)==45)=false:=dU;have b00:¬ (x:Int)=45:=an;have b01:((x:Int)!=45)=true:=dU;have b1:decide ((x:Int)<48)=false:=dU;have b2:decide ((57:Int)<(x:Int))=true:=dU;have b3:decide ((x:Int)<97)=false:=dU;have b4:decide ((122:Int)<(x:Int))=false:=dU;have HN:Hid (oD s (i+1)=true):=ag o8;clear UK q0 q1 q2 q3 q4;exact rQ
    ·have b0:((x:Int)==45)=false:=dU;have b00:¬ (x:Int)=45:=an;have b01:((x:Int)!=45)=true:=dU;have b1:decide ((x:Int)<48)=true:=dU;have b2:decide ((x:Int)<97)=true:=dU;have HN:Hid (vz s=false):=ag (HBK.O (i+1) o8 s.size an);clear UK q0 q1 q2
     go_wp2_with fail
     go_ret;exact⟨by rw[HN.O];rfl,hw.O⟩
    ·have b0:((x:Int)==45)=false:=dU;have b00:¬ (x:Int)=45:=an;have b01:((x:Int)!=45)=true:=dU;have b1:decide ((x:Int)<48)=false:=dU;have b2:decide ((57:Int)<(x:Int))=true:=dU;have b3:decide ((x:Int)<97)=true:=dU;have HN:Hid (vz s=false):=ag (HBK.O (i+1) o8 s.size an);clear UK q0 q1 q2 q3
     go_wp2_with fail
     go_ret;exact⟨by rw[HN.O];rfl,hw.O⟩
    ·have b0:((x:Int)==45)=false:=dU;have b00:¬ (x:Int)=45:=an;have b01:((x:Int)!=45)=true:=dU;have b1:decide ((x:Int)<48)=false:=dU;have b2:decide ((57:Int)<(x:Int))=true:=dU;have b3:decide ((x:Int)<97)=false:=dU;have b4:decide ((122:Int)<(x:Int))=true:=dU;have HN:Hid (vz s=false):=ag (HBK.O (i+1) o8 s.size an);clear UK q0 q1 q2 q3 q4
     go_wp2_with fail
     go_ret;exact⟨by rw[HN.O];rfl,hw.O⟩
   ·have hie:i=s.size:=an;subst hie;have vW:¬ ((s.size:Int)<(s.size:Int)):=an
    go_wp2_with fail
    go_ret;exact⟨by rw[show vz s=true from kD.O];rfl,hw.O⟩
 ·have HN:Hid (vz s=false):=ag (by unfold vz oD;cases h:K3 s with|true=>exact absurd h hl|false=>rfl);have ri:s.size=0\/24<s.size:=by
   unfold K3 at hl;rw[bQ,decide_eq_true_eq,decide_eq_true_eq]at hl;omega
  rcases ri with h0|h0
  ·have d1:s=ByteArray.empty:=ByteArray.size_eq_zero_iff.1 h0;subst d1;clear hl h0 hs;go_enter Tryz.func8,Tryz.ntmps8
   go_wp2_with fail
   go_ret;exact⟨by rw[HN.O];rfl,rfl⟩
  ·have d1:((s.size:Int)==0)=false:=by simp;intro h;rw[h]at h0;simp at h0
   have d0:¬ s=ByteArray.empty:= λ h=>by rw[h]at h0;simp at h0
   have d2:decide ((24:Int)<(s.size:Int))=true:=dU;clear hl hs;go_enter Tryz.func8,Tryz.ntmps8
   go_wp2_with fail
   go_ret;exact⟨by rw[HN.O];rfl,rfl⟩
section
attribute [local go_sem] Oper.semAt_some
attribute [-go_sem] Builtin.append_
theorem Ut(n:Nat)(h1:1<=n)(h2:n<=100000)(w:World):
 Calls Tryz.prog 254 #[.slice none 0 0,.int .i64 (n:Int)] w λ e w'=>∃(g:Nat) (c:Nat),e= .returned (.slice (zp g) 0 c)/\w'.ownsRow w 325 11 (.slice (zp g) 0 c) 0 []/\Below w w w':=by
 obtain⟨i0,hi,l8,j5,vr⟩:=info_parts A0;have eh:=Lib.run_append_nil_zeros (P:=Tryz.prog) w 282 3 282 325 i0 (.agg lG) .i64 .i64 bU bU hi l8 n an an an qL;have mV:=grownCap_ge w n 0 325;have Ee:=grownCap_le_maxLen w n 0 325 kt;obtain⟨cp,ZI⟩:=bL (grownCap w n 0 325);rw[<-ZI]at eh mV Ee;have CY:Hid ((w.drew.alloc (.cells (Builtin.zeroCells ((.agg lG):Value).cells n++Builtin.zeroCells ((.agg lG):Value).cells (cp - n)) 325)).ownsRow w 325 11 (.slice (zp w) 0 cp) 0 []/\Below w w (w.drew.alloc (.cells (Builtin.zeroCells ((.agg lG):Value).cells n++Builtin.zeroCells ((.agg lG):Value).cells (cp - n)) 325))):=ag ⟨ki w.drew _ cp (cH) Ee EZ,((ah _ w).drew).alloc (cH) _⟩;have e1:¬ ((n:Int)<0):=an;have e2:(0:Int)<(n:Int):=an;have e3:IntKind.i64.wrap (n:Int)=(n:Int):=by rw[aI];omega
 have e4:0<n:=an;have aie:(0:Int)<=(cp:Int):=an;have Eo:w.drew.alloc (.cells (Builtin.zeroCells ((.agg lG):Value).cells n++Builtin.zeroCells ((.agg lG):Value).cells (cp - n)) 325)=(w.alloc (.cells (Builtin.zeroCells ((.agg lG):Value).cells n++Builtin.zeroCells ((.agg lG):Value).cells (cp - n)) 325)).drew:=rfl;rw[Eo]at eh CY;obtain⟨W1,vK⟩:=bL ((w.alloc (.cells (Builtin.zeroCells ((.agg lG):Value).cells n++Builtin.zeroCells ((.agg lG):Value).cells (cp - n)) 325)).drew);rw[<-vK]at eh CY;clear hi l8 j5 vr ZI Ee Eo vK;go_enter Tryz.func254,Tryz.ntmps254
 go_wp2_with fail
 go_ret;exact⟨w.heap.size,cp,rfl,CY.O.1,CY.O.2⟩
theorem OM{R:Nat}{rows:List (lh a8)}(hc:w.rangeAt R 0 (rows.map lh.v))(hr:∀r∈rows,eU Ay w r.a r.c r.ps)(hl:rows.length<=10)(h1:1<=iM rows)(h2:iM rows<=10000):
 Calls Tryz.prog 239 (sg (zp R) rows.length rows.length) w λ e w'=>∃(a:az) (k:Nat),e= .returned (.slice a (rows.flatMap lh.ps).length k)/\eU Ay w' a k (rows.flatMap lh.ps)/\Below w w w':=by
 have HC:=ag hc;have HR:=ag hr;have HL:=dO h1 h2;have SW:(rows.length:Int)<=10:=an;clear hc hr h1 h2;go_enter Tryz.func239,Tryz.ntmps239
 go_wp2_with fail
 go_loopw [3,11] (λ sv iv wr=>∃j m:Nat,j<=rows.length/\iv= .int .i64 (j:Int)/\sv= .int .i64 (m:Int)/\Hid (m=iM (rows.take j))/\Hid (wr=w)) (λ _ iv _=>rows.length - (intOf iv).toNat)
 case atStart=>exact⟨0,0,an,rfl,rfl,ag rfl,ag rfl⟩
 case round=>
  obtain⟨j,m,hj,rfl,rfl,hm,hw⟩:=hrel;by_cases cL:j<rows.length
  ·exact xP
  ·obtain rfl:j=rows.length:=an;have Mg:m=iM rows:=by rw[hm.O,bd]
   have HG:=ag (Ut m (cm HL.O.1) (cm HL.O.2) wr);have HW:=hw;clear Mg
   go_wp2_with first
    |((with_reducible refine HG.O.mono ?_);rintro e w2 ⟨g,cg,rfl,kW,hbg⟩;have HP0:Hid (td Ay 144 325 w w2 (zp g) cg []):=ag E0;clear kW hbg)
    |fail
   go_loopw [6,27] (λ rv iv wr=>∃(j n:Nat) (q:az) (k':Nat),j<=rows.length/\iv= .int .i64 (j:Int)/\rv= .slice q n k'/\Hid (((rows.take j).flatMap lh.ps).length=n)/\Hid (td Ay 144 325 w wr q k' ((rows.take j).flatMap lh.ps))) (λ _ iv _=>rows.length - (intOf iv).toNat)
   case atStart=>exact⟨0,0,_,_,an,rfl,rfl,ag rfl,HP0⟩
   case round=>
    obtain⟨j,n,q,k',hj,rfl,rfl,hn,hP⟩:=hrel;by_cases cL:j<rows.length
    ·obtain⟨r,hr⟩:∃r,rows[j]? =some r:=⟨rows[j],by simp[cL]⟩;have hg:wr.cell? ⟨R,j,none⟩=some (.slice r.a r.ps.length r.c):=by have:=HC.O j _ (show(rows.map lh.v)[j]? =some r.v by simp[hr]);rw[aN]at this;exact carry hP.O.base this
     have mn:(j:Int)<(rows.length:Int):=an;have zP:(j:Int)<=10:=an;have hT:(rows.take (j+1)).flatMap lh.ps=(rows.take j).flatMap lh.ps++r.ps:=by rw[aL,hr];simp
     have hle:=An rows (j+1);rw[<-oG (rows.take (j+1)),hT,ar]at hle;obtain⟨a',c',w',eh,DA⟩:=hP.O.WR (P:=Tryz.prog) (TS:=282) (z:=(.agg lG)) (bytes:=120) bU A0 rfl de de (HR.O r (ak hr)) (cm HL.O.2);exact xO
    ·exact xN
end
end Go.Proofs.YtbiififbfefkjaaGreatDoor

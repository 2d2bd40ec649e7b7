/- The store, part 15. -/
import Derived.Test.YtbiififbfefkjaaGreatDoorMAl
import Derived.Test.YtbiififbfefkjaaGreatDoorMAm
import Derived.Test.YtbiififbfefkjaaGreatDoorMAn
set_option linter.unusedSimpArgs false
set_option linter.unusedVariables false
set_option maxRecDepth 100000
set_option maxHeartbeats 16000000
namespace Go.Proofs.YtbiififbfefkjaaGreatDoor
open Go.RowKit Go.Shelf
variable{W W' w:World}{B a1 d1 c1 a2 d2 c2 q cf vc g m s at_ a b fuel:Nat}{ps:List Piece}{key id dead:List Nat}{del:Bool}{p:Prop}{P:Program}{o:Oper}{ev:Operand -> Value}{listed:Array Bool}
section
attribute [local go_sem] Oper.semAt_some
attribute [-go_sem] Builtin.append_
abbrev Xv(id:ByteArray)(g m s:Nat)(del:Bool)(at_:Nat)(k v:Int):Array Value:=(DM id g m s del at_ k v)
theorem jV.below{k c:Nat}{b:az}(h:jV W B b k c a1 d1 c1 a2 d2 c2 q)(hb:Below W W W'):jV W' B b k c a1 d1 c1 a2 d2 c2 q:=(hb.block B (cS h).1).T h
def kindOf(del:Bool):Int:=if del then 0 else 3
def fN(del:Bool)(n:Int):Int:=if del then 0 else n
theorem JG{b:az}(hS:jV w B b ps.length cf a1 d1 c1 a2 d2 c2 q)(hF:aQ w b cf ps)(hm:Marks (aw ps)){C o kc:Nat}{ka:az}{n:Int}(hk:ay w ka key)(Mi:key.length<=1000)(hid:yR (cE key)=0)(h:wZ g m s del at_)(hv:ay w (some ⟨C,o,none⟩) (dS g m s del at_))(IP:21<=vc)(hn:del=false-> -9223372036854775808<=n/\n<9223372036854775808/\iy (aw ps) at_ (ew n)):
 Calls Tryz.prog 53 (BY (zp B) (.agg (il ka key.length kc (some ⟨C,o,none⟩) 21 vc))) w λ e w'=>e= .returned (.tuple (zo (.agg (Xv (cE key) g m s del at_ (kindOf del) (fN del n)))))/\Below w w w':=by
 obtain⟨w1,bY⟩:=bL (((w.alloc (.cells (il ka key.length kc (some ⟨C,o,none⟩) 21 vc) 101)).alloc (.cells vN 77)).alloc (.cells (acV (cE key)) 77));have cN:Below w w w1:=by rw[bY];go_grown
 have uX:=gT (w2:=w1) fq;have gC:w1.heap.size=w.heap.size+1+1+1:=by rw[bY];simp
 have HCV:= λ (o1 o2:Obj)=>fu (c:=kc) (hk.below (((ah _ w).alloc (cH) o1).alloc cP o2)) rfl;have Rn:=ag (NO h (hv.below cN) IP);have O5:=ag (λ V=>Gp (cE key) (by have:(cE key).size=key.length:=(by simp[cE,ByteArray.size]);omega) V);rw[hid]at O5;rw[bY]at Rn;have H1:=oT cN gC uX bY;have HBD:=ag (λ (V:World) (hV:Below w w V) (hd:del=false)=>TF (jV.below hS hV) (hF.below hV) hm at_ n (hn hd).1 (hn hd).2.1 (hn hd).2.2);unfold pQ at Rn;clear hk h hv IP hid Mi bY cN uX gC hS hF hm hn;cases del with
 |true=>
  clear HBD;show Calls _ _ _ _ λ e w'=>e= .returned (.tuple (zo (.agg (acW (cE key) g m s at_))))/\Below w w w';go_enter Tryz.func53,Tryz.ntmps53
  go_wp2_with first
   |(refine dG 45 ?_)
   |(refine dG 77 ?_)
   |(refine lU 77 ?_)
   |(refine lU 45 ?_)
   |((with_reducible refine Rn.O.mono ?_);rintro e w2 ⟨rfl,bG⟩;rw[<-H1.O.2.2.2]at bG;obtain⟨w3,gV⟩:=bL (w2.alloc (.cells (acX g m s at_) 45));have cu:Below w1 w1 w3:=by rw[gV];exact bG.alloc bG.size _
     have hn3:w3.heap[w2.heap.size]? =some (.cells (acX g m s at_) 45):=qK gV;have hx:=(cu.block _ ir).T H1.O.2.2.1.1;have hd:=(cu.block _ ir).T H1.O.2.2.1.2.2;have i2:=(af hx 2).T rfl;have b0:=(af hd 0).T rfl;simp only[eu,jX,cW]at i2 b0;have Eh:=aF hn3;have ek:=G2 cu hn3 hx hd (show w.heap.size+1+1<w2.heap.size by have:=bG.size;have:=H1.O.2.1;omega);rw[gV]at i2 b0 Eh;have nE:=ag gV;clear bG gV cu hn3 hx hd)
   |((with_reducible refine(O5.O _).mono ?_);rintro e w4 ⟨rfl,kd⟩;rw[kd];clear kd w4)
   |(refine fT 45 rfl _ _ rfl (w+1+1) 1 (acV (cE key)) (acX g m s at_) 77 rfl rfl (by rw[<-nE.O];exact ek.O.2.2.2.1) cP bU bz (λ w5 h1 h2 h3=>?_);rw[<-nE.O]at h2 h3;simp only[eu,jX,cW]at h1;have Zo:=(h2 w2 (cm ek.O.2.2.2.2)).T ek.O.2.1;have d3:=(af Zo 3).T rfl;have d4:=(af Zo 4).T rfl;simp only[eu,jX,cW]at d3 d4;have hz5:=(h2 (w+1) an).T ((ek.O.1.block _ ir).T H1.O.2.2.1.2.1);have afG:=aF h1;have dV:Below w w w5:=h3 w w an (H1.O.1.T (ek.O.1.mono H1.O.1.size));have jE:=eS h1 hz5 dV;clear h1 h2 h3 Zo hz5 dV)
   |(refine lz 77 (acW (cE key) g m s at_) jE.O.2.1 (λ w9 h1 h2 h3=>?_);have x0:=(af h1 0).T rfl;have x1:=(af h1 1).T rfl;have x2:=(af h1 2).T rfl;have x3:=(af h1 3).T rfl;have x4:=(af h1 4).T rfl;have x5:=(af h1 5).T rfl;have x6:=(af h1 6).T rfl;have x7:=(af h1 7).T rfl;have x8:=(af h1 8).T rfl;have x9:=(af h1 9).T rfl;have x10:=(af h1 10).T rfl;simp only[eu,jX,cW]at x0 x1 x2 x3 x4 x5 x6 x7 x8 x9 x10;have HZ:=ag (h3 w w an jE.O.2.2);clear h1 h2 h3)
   |fail
  refine bodyPost_ret (v:=.tuple (zo (.agg (acW (cE key) g m s at_)))) uu bp ⟨rfl,HZ.O⟩
 |false=>
  have HBE:=ag (λ (V:World) (hV:Below w w V)=>HBD.O V hV rfl);clear HBD;unfold gE at HBE;show Calls _ _ _ _ λ e w'=>e= .returned (.tuple (zo (.agg (acY (cE key) g m s at_ n))))/\Below w w w';go_enter Tryz.func53,Tryz.ntmps53
  go_wp2_with first
   |(refine dG 45 ?_)
   |(refine dG 77 ?_)
   |(refine lU 77 ?_)
   |(refine lU 45 ?_)
   |((with_reducible refine Rn.O.mono ?_);rintro e w2 ⟨rfl,bG⟩;rw[<-H1.O.2.2.2]at bG;obtain⟨w3,gV⟩:=bL (w2.alloc (.cells (ZW g m s at_) 45));have cu:Below w1 w1 w3:=by rw[gV];exact bG.alloc bG.size _
     have hn3:w3.heap[w2.heap.size]? =some (.cells (ZW g m s at_) 45):=qK gV;have hx:=(cu.block _ ir).T H1.O.2.2.1.1;have hd:=(cu.block _ ir).T H1.O.2.2.1.2.2;have i2:=(af hx 2).T rfl;have b0:=(af hd 0).T rfl;simp only[eu,jX,cW]at i2 b0;have Eh:=aF hn3;have ek:=G2 cu hn3 hx hd (show w.heap.size+1+1<w2.heap.size by have:=bG.size;have:=H1.O.2.1;omega);rw[gV]at i2 b0 Eh;have nE:=ag gV;clear bG gV cu hn3 hx hd)
   |((with_reducible refine(O5.O _).mono ?_);rintro e w4 ⟨rfl,kd⟩;rw[kd];clear kd w4)
   |(refine fT 45 rfl _ _ rfl (w+1+1) 1 (acV (cE key)) (ZW g m s at_) 77 rfl rfl (by rw[<-nE.O];exact ek.O.2.2.2.1) cP bU bz (λ w5 h1 h2 h3=>?_);rw[<-nE.O]at h2 h3;simp only[eu,jX,cW]at h1;have Zo:=(h2 w2 (cm ek.O.2.2.2.2)).T ek.O.2.1;have d3:=(af Zo 3).T rfl;have d4:=(af Zo 4).T rfl;simp only[eu,jX,cW]at d3 d4;have hz5:=(h2 (w+1) an).T ((ek.O.1.block _ ir).T H1.O.2.2.1.2.1);have afG:=aF h1;have dV:Below w w w5:=h3 w w an (H1.O.1.T (ek.O.1.mono H1.O.1.size));have jE:=eS h1 hz5 dV;have HBO:=ag (HBE.O _ dV);clear h1 h2 h3 Zo hz5 dV)
   |((with_reducible refine HBO.O.mono ?_);rintro e w6 ⟨rfl,lP⟩;have hd6:=(lP.block _ (cS jE.O.1).1).T jE.O.1;have hz6:=(lP.block _ (cS jE.O.2.1).1).T jE.O.2.1;have tl:=eS hd6 hz6 (jE.O.2.2.T (lP.mono jE.O.2.2.size));clear lP hd6 hz6)
   |(refine fT 49 rfl _ _ rfl (w+1+1) 6 #[.string (cE key),.int .u32 (g:Int),.int .u32 (m:Int),.int .u64 (s:Int),.bool false,.int .i64 (at_:Int),.int .i64 0,.int .i64 0,.string ⟨#[]⟩,.slice none 0 0,.slice none 0 0] (qv n) 77 rfl rfl tl.O.1 cP bU bz (λ w7 h1 h2 h3=>?_);simp only[eu,jX,cW]at h1;have Zz:=(h2 (w+1) an).T tl.O.2.1;have afH:=aF h1;have HB7:=dO Zz (h3 w w an tl.O.2.2);clear h1 h2 h3 Zz)
   |(refine lz 77 (acY (cE key) g m s at_ n) HB7.O.1 (λ w9 h1 h2 h3=>?_);have x0:=(af h1 0).T rfl;have x1:=(af h1 1).T rfl;have x2:=(af h1 2).T rfl;have x3:=(af h1 3).T rfl;have x4:=(af h1 4).T rfl;have x5:=(af h1 5).T rfl;have x6:=(af h1 6).T rfl;have x7:=(af h1 7).T rfl;have x8:=(af h1 8).T rfl;have x9:=(af h1 9).T rfl;have x10:=(af h1 10).T rfl;simp only[eu,jX,cW]at x0 x1 x2 x3 x4 x5 x6 x7 x8 x9 x10;have HZ:=ag (h3 w w an HB7.O.2);clear h1 h2 h3)
   |fail
  refine bodyPost_ret (v:=.tuple (zo (.agg (acY (cE key) g m s at_ n)))) uu bp ⟨rfl,HZ.O⟩
theorem _root_.List.Perm.T{α:Type _}{a b c:List α}(h:a.Perm b)(k:b.Perm c):a.Perm c:=h.trans k
structure bX where
 id:List Nat
 g:Nat
 m:Nat
 s:Nat
 del:Bool
 at_:Nat
 n:Int
def e8(q:Nat):List Nat:=(List.range 8).map λ j=>q/2^(56 - 8*j)%256
def bX.enc(x:bX):List Nat:=dS x.g x.m x.s x.del x.at_
def tf(x:bX):KV:=(x.id,x.enc)
def oQ(x:bX):KV:=(e8 x.s,x.id)
structure pR(all:List Nat)(q:Nat)(x:bX):Prop where
 id:yR (cE x.id)=0
 info:wZ x.g x.m x.s x.del x.at_
 le:x.s<=q
 body:x.del=false-> -9223372036854775808<=x.n/\x.n<9223372036854775808/\iy all x.at_ (ew x.n)
structure gD(all:List Nat)(a1 d1 c1 a2 d2 c2 q:Nat)(es:List bX):Prop where
 ids:∃its:List KV,its.Perm (es.map tf)/\fx all a1 d1 c1 its
 Xw:fx all a2 d2 c2 (es.map oQ)
 ok:∀x∈es,pR all q x
 many:es.length<=32
def xt(es:List bX)(x:bX):List bX:=(es.filter λ y=>decide (y.id≠x.id))++[x]
theorem K4(q:Nat):e8 q=fK 8 q:=by simp[e8,fK,lI]
theorem jh(q:Nat):(e8 q).length=8:=by simp[e8]
theorem N9(q:Nat):∀x∈e8 q,x<256:=by intro x hx;obtain⟨j,_,rfl⟩:=aM.1 hx;exact Nat.mod_lt _ de
theorem RG:∀(i a b:Nat),a%256^i<b%256^i->lj (fK i a) (fK i b)
 |0,a,b,h=>by simp[lL]at h
 |i+1,a,b,h=>by
  have key:∀x:Nat,x%256^(i+1)=x/256^i%256*256^i+x%256^i:= λ x=>by rw[cK,Nat.mod_mul,dr,jt]
  rw[key a,key b]at h;have hp:0<256^i:=Nat.pos_of_ne_zero cP;have ha:=Nat.mod_lt a hp;have hb:=Nat.mod_lt b hp;unfold lj fK;rw[cmpL];rcases iK (a/256^i%256) (b/256^i%256)with h1|h1|h1
  ·rw[if_pos h1]
  ·rw[if_neg an,if_neg an];exact RG i a b (by rw[h1]at h;omega)
  ·exfalso;have h2:(b/256^i%256+1)*256^i<=a/256^i%256*256^i:=fG _ h1;rw[fB]at h2;omega
theorem Dz(h:a<b)(hb:b<18446744073709551616):lj (e8 a) (e8 b):=by rw[K4,K4];refine RG 8 a b ?_;rw[cl (show a<256^8 by omega),cl (show b<256^8 by omega)];exact h
theorem K5(ha:a<18446744073709551616)(hb:b<18446744073709551616)(h:e8 a=e8 b):a=b:=by
 rcases iK a b with h1|h1|h1
 ·have:=Dz h1 hb;rw[h]at this;exact absurd this (jF _)
 ·exact h1
 ·have:=Dz h1 ha;rw[h]at this;exact absurd this (jF _)
theorem aeC(ha:a<18446744073709551616)(_:b<18446744073709551616)(h:lj (e8 a) (e8 b)):a<b:=by
 rcases iK a b with h1|h1|h1
 ·exact h1
 ·rw[h1]at h;exact absurd h (jF _)
 ·exact absurd h (yq (Dz h1 ha))
theorem JH{α β:Type}(f:α->β){l t:List β}(h:l.Perm t):∀es:List α,t=es.map f->∃ds:List α,ds.Perm es/\ds.map f=l:=by
 induction h with
 |nil=>intro es he;exact⟨[],by rw[List.map_eq_nil_iff.1 he.symm],rfl⟩
 |cons x _ ih=>
  intro es he;obtain⟨y,ys,rfl,rfl,e2⟩:=jo.1 he.symm;obtain⟨ds,h1,h2⟩:=ih ys e2.symm;exact⟨y::ds,h1.cons y,by simp[h2]⟩
 |swap x y l=>
  intro es he;obtain⟨u,us,rfl,rfl,e2⟩:=jo.1 he.symm;obtain⟨v,vs,rfl,rfl,e3⟩:=jo.1 e2;exact⟨v::u::vs,List.Perm.swap _ _ _,by simp[e3]⟩
 |trans _ _ ih1 ih2=>
  intro es he;obtain⟨ds,h1,h2⟩:=ih2 es he;obtain⟨ds',h3,h4⟩:=ih1 ds h2.symm;exact⟨ds',h3.T h1,h4⟩
theorem pR.more{all:List Nat}{q:Nat}{x:bX}(h:pR all q x)(m:List Nat){q':Nat}(hq:q<=q'):pR (all++m) q' x:=
 ⟨h.id,h.info,aj h.le hq, λ e=>⟨(h.body e).1,(h.body e).2.1,(h.body e).2.2.more m⟩⟩
theorem gD.more{all:List Nat}{a1 d1 c1 a2 d2 c2 q:Nat}{es:List bX}(h:gD all a1 d1 c1 a2 d2 c2 q es)(m:List Nat):gD (all++m) a1 d1 c1 a2 d2 c2 q es:=
 ⟨by obtain⟨its,h1,h2⟩:=h.ids;exact⟨its,h1,h2.more m⟩,h.Xw.more m, λ x hx=>(h.ok x hx).more m (cH),h.many⟩
theorem gD.zero(all:List Nat):gD all 0 0 0 0 0 0 0 []:=by have t:fx all 0 0 0 []:=⟨λ _=>⟨rfl,rfl⟩, λ h=>absurd rfl h,rfl, λ j a b ha _=>by simp at ha⟩;exact⟨⟨[],List.Perm.refl _,t⟩,t,by simp,by simp⟩
section
variable {all : List Nat} {a1 d1 c1 a2 d2 c2 q : Nat} {es : List bX}
theorem gD.nC(h:gD all a1 d1 c1 a2 d2 c2 q es):c1=es.length:=by obtain⟨its,h1,h2⟩:=h.ids;rw[h2.count,h1.length_eq,aR]
theorem gD.adD(h:gD all a1 d1 c1 a2 d2 c2 q es):∃ds:List bX,ds.Perm es/\fx all a1 d1 c1 (ds.map tf):=by obtain⟨its,h1,h2⟩:=h.ids;obtain⟨ds,h3,rfl⟩:=JH tf h1 es rfl;exact⟨ds,h3,h2⟩
theorem pR.s64{x:bX}(h:pR all q x):x.s<18446744073709551616:=cm h.info.s2
theorem gD.zM(h:gD all a1 d1 c1 a2 d2 c2 q es):es.Pairwise λ x y=>x.s<y.s:=by have h1:=uI.1 h.Xw.zM;rw[PW,cU]at h1;refine h1.imp_of_mem λ {x y} hx hy hl=>aeC (h.ok x hx).s64 (h.ok y hy).s64 hl
theorem gD.apart(h:gD all a1 d1 c1 a2 d2 c2 q es):es.Pairwise λ x y=>x.id≠y.id:=by
 obtain⟨ds,h1,h2⟩:=h.adD;have h3:=uI.1 h2.zM;rw[PW,cU]at h3;have h4:ds.Pairwise λ x y=>x.id≠y.id:=h3.imp λ {x y} hl e=>by have hl:lj x.id y.id:=hl;rw[e]at hl;exact jF _ hl
 exact(h1.pairwise_iff (λ {x y} h=> λ e=>h e.symm)).1 h4
theorem JI{α β:Type}{f:α->β}{l:List α}(h:l.Pairwise λ x y=>f x≠f y){x y:α}(hx:x∈l)(hy:y∈l)(e:f x=f y):x=y:=by
 induction l with
 |nil=>cases hx
 |cons z l ih=>
  rw[dH]at h;rcases aO.1 hx with e1|ZA
  ·rcases aO.1 hy with e2|hy'
   ·rw[e1,e2]
   ·rw[e1]at e;exact absurd e (h.1 y hy')
  ·rcases aO.1 hy with e2|hy'
   ·rw[e2]at e;exact absurd e.symm (h.1 x ZA)
   ·exact ih h.2 ZA hy'
theorem Xx{l:List KV}(h:PW l):l.Nodup:=h.imp λ {a b} hl e=>by rw[e]at hl;exact jF _ hl
theorem Oa{its:List KV}(x:bX)(hp:its.Perm (es.map tf))(hr:PW its)(ha:es.Pairwise λ x y=>x.id≠y.id):
 PW (iH its [⟨x.id,true,x.enc⟩])/\(iH its [⟨x.id,true,x.enc⟩]).Perm (((es.filter λ y=>decide (y.id≠x.id))++[x]).map tf):=by
 obtain⟨h1,h2⟩:=A1 (l:=[⟨x.id,true,x.enc⟩]) hr cP;refine⟨h1,(List.perm_ext_iff_of_nodup (Xx h1) ?_).2 λ kv=>?_⟩
 ·rw[List.Nodup,cU];rw[dp];refine⟨(ha.filter _).imp λ {y z} h e=>h (congrArg Prod.fst e),by simp, λ y hy z hz e=>?_⟩;rw[aE]at hz;subst hz;have:=(bT.1 hy).2;exact of_decide_eq_true this (congrArg Prod.fst e)
 ·rw[h2 kv];simp only[aE,forall_eq,aJ,aG,bF,kS,exists_eq_left,true_and];rw[hp.mem_iff];constructor
  ·rintro(⟨h3,h4⟩|h3)
   ·obtain⟨y,hy,rfl⟩:=aM.1 h3;exact .inl (aM.2 ⟨y,bT.2 ⟨hy,decide_eq_true λ e=>h4 e.symm⟩,rfl⟩)
   ·exact .inr h3
  ·rintro(h3|h3)
   ·obtain⟨y,hy,rfl⟩:=aM.1 h3;obtain⟨h4,h5⟩:=bT.1 hy;exact .inl ⟨aM.2 ⟨y,h4,rfl⟩, λ e=>of_decide_eq_true h5 e.symm⟩
   ·exact .inr h3
theorem TQ{l:List Ed}(x:bX)(hr:es.Pairwise λ x y=>x.s<y.s)(cL:∀y∈es,y.s<x.s)(hx:x.s<18446744073709551616)(ha:es.Pairwise λ x y=>x.id≠y.id)
 (hl:((∀y∈es,y.id≠x.id)/\l=[⟨e8 x.s,true,x.id⟩])\/∃w∈es,w.id=x.id/\l=[⟨e8 w.s,false,[]⟩,⟨e8 x.s,true,x.id⟩]):
 iH (es.map oQ) l=((es.filter λ y=>decide (y.id≠x.id))++[x]).map oQ:=by
 have UF:∀y∈es,y.s<18446744073709551616:= λ y hy=>Nat.lt_trans (cL y hy) hx;have hpw:PW (es.map oQ):=by rw[PW,cU];exact hr.imp_of_mem λ {y z} hy hz h=>Dz h (UF z hz)
 have hlp:l.Pairwise (λ a b=>lj a.key b.key):=by
  rcases hl with⟨_,rfl⟩|⟨w,hw,_,rfl⟩
  ·simp
  ·simp[Dz (cL w hw) hx]
 obtain⟨h1,h2⟩:=A1 hpw hlp;refine WS h1 ?_ λ kv=>?_
 ·rw[PW,cU,dp];refine⟨(hr.filter _).imp_of_mem λ {y z} hy hz h=>Dz h (UF z (bT.1 hz).1),by simp, λ y hy z hz=>?_⟩;rw[aE]at hz;subst hz;exact Dz (cL y (bT.1 hy).1) hx
 ·rw[h2 kv];simp only[aJ,aG,bF,kS,aE];rcases hl with⟨mr,rfl⟩|⟨w,hw,hid,rfl⟩
  ·simp only[aE,forall_eq,exists_eq_left,true_and];constructor
   ·rintro(⟨h3,h4⟩|h3)
    ·obtain⟨y,hy,rfl⟩:=aM.1 h3;exact .inl (aM.2 ⟨y,bT.2 ⟨hy,decide_eq_true (mr y hy)⟩,rfl⟩)
    ·exact .inr h3
   ·rintro(h3|h3)
    ·obtain⟨y,hy,rfl⟩:=aM.1 h3;obtain⟨h4,_⟩:=bT.1 hy;exact .inl ⟨aM.2 ⟨y,h4,rfl⟩, λ e=>by have:=K5 hx (UF y h4) e;have:=cL y h4;omega⟩
    ·exact .inr h3
  ·constructor
   ·rintro(⟨h3,h4⟩|⟨e,he,pH,rfl⟩)
    ·obtain⟨y,hy,rfl⟩:=aM.1 h3;refine .inl (aM.2 ⟨y,bT.2 ⟨hy,decide_eq_true λ e=>?_⟩,rfl⟩);have:y=w:=JI (f:=bX.id) ha hy hw (e.T hid.symm);subst this;exact h4 _ (bD ..) rfl
    ·rcases aO.1 he with rfl|he
     ·cases pH
     ·rw[aE]at he;subst he;exact .inr rfl
   ·rintro(h3|h3)
    ·obtain⟨y,hy,rfl⟩:=aM.1 h3;obtain⟨h4,h5⟩:=bT.1 hy;refine .inl ⟨aM.2 ⟨y,h4,rfl⟩, λ e he=>?_⟩;rcases aO.1 he with rfl|he
     ·intro e;have:=K5 (UF w hw) (UF y h4) e;have hs:y=w:=JI (f:=bX.s) (hr.imp λ {a b} h e=>an) h4 hw this.symm;subst hs;exact of_decide_eq_true h5 hid
     ·rw[aE]at he;subst he;intro e;have:=K5 hx (UF y h4) e;have:=cL y h4;omega
    ·exact .inr ⟨_,bM _ (bD ..),rfl,h3⟩
theorem xu(h:yR (cE id)=0):1<=id.length/\id.length<=24:=by
 unfold yR at h;have h2:(if vz (cE id)then(0:Int)else 290)=0:=h;have h3:vz (cE id)=true:=by
  cases hc:vz (cE id)with
  |true=>rfl
  |false=>rw[hc]at h2;simp at h2
 unfold vz oD K3 at h3;simp only[bQ,decide_eq_true_eq]at h3;have e:(cE id).size=id.length:=by simp[cE,ByteArray.size]
 have h4:=h3.1;rw[e]at h4;exact h4
end
end
section
attribute [-go_sem] Builtin.append_
theorem Ob:∀(k n:Nat),fK (k+1) n=fK k (n/256)++[n%256]
 |0,n=>by simp[fK]
 |k+1,n=>by
  have ih:=Ob k n;rw[fK,ih,fK,bS,cK,dr (256^k) 256,cQ]
theorem Xy:∀(k n:Nat) (w:World),k<=8->n<18446744073709551616->Calls Tryz.prog 59 #[.int .u64 (n:Int),.int .i64 (k:Int)] w λ e w'=>∃a c,e= .returned (.slice a k c)/\w'.ownsRow w 5 1 (.slice a k c) k (bE (fK k n))/\Below w w w'
 |0,n,w,_,_=>by
  go_enter Tryz.func59,Tryz.ntmps59;go_wp2;go_ret;exact⟨none,0,rfl,⟨rfl,.inl ⟨rfl,rfl⟩⟩,gb⟩
 |k+1,n,w,hk,hn=>by
  have ih:= λ w=>Xy k (n/256) w an an;have e1:((n/256:Nat):Int)=(n:Int)/256:=an;simp only[e1]at ih;have HI:=ag ih;have As:¬ ((k:Int)+1=0):=an;have YW:(k:Int)<=7:=an;clear ih e1;go_enter Tryz.func59,Tryz.ntmps59
  go_wp2_with first
   |((with_reducible refine(HI.O _).mono ?_);rintro e w2 ⟨a,c,rfl,bA,hb⟩;obtain⟨g',c',w5,eh,tK,Iz⟩:=gP (n₀:=w.heap.size) (n%256) ((n:Int)%256) an bA an hb.size;rw[<-Ob]at tK;have HN:=dO tK (hb.T Iz.below);clear bA hb tK Iz)
   |fail
  go_ret;exact⟨_,_,rfl,HN.O.1,HN.O.2⟩
theorem abi(k n:Nat)(w:World)(h1:1<=k)(hk:k<=8)(hn:n<18446744073709551616):Calls Tryz.prog 59 #[.int .u64 (n:Int),.int .i64 (k:Int)] w λ e w'=>∃B c,e= .returned (.slice (zp B) k c)/\ay w' (zp B) (fK k n)/\Below w w w':=by
 refine(Xy k n w hk hn).mono ?_;rintro e w' ⟨a,c,rfl,bA,hb⟩;rcases bg bA with⟨_,h,_⟩|⟨g,cur,rfl,_⟩
 ·omega
 ·exact⟨g,c,rfl,(dk bA (nQ k n)).1,hb⟩
theorem adE(n:Nat)(w:World)(hn:n<18446744073709551616):Calls Tryz.prog 59 #[.int .u64 (n:Int),.int .i64 4] w λ e w'=>∃B c,e= .returned (.slice (zp B) 4 c)/\ay w' (zp B) (fK 4 n)/\Below w w w':=abi 4 n w de de hn
theorem afI(n:Nat)(w:World)(hn:n<18446744073709551616):Calls Tryz.prog 59 #[.int .u64 (n:Int),.int .i64 8] w λ e w'=>∃B c,e= .returned (.slice (zp B) 8 c)/\ay w' (zp B) (fK 8 n)/\Below w w w':=abi 8 n w de de hn
theorem Xz(q:Nat)(hq:q<18446744073709551616)(w:World):Calls Tryz.prog 33 #[.int .u64 (q:Int)] w λ e w'=>∃B c,e= .returned (.slice (zp B) 8 c)/\ay w' (zp B) (e8 q)/\Below w w w':=by
 have H:=ag (afI q w hq);go_enter Tryz.func33,Tryz.ntmps33
 go_wp2_with first
  |((with_reducible refine H.O.mono ?_);rintro e w2 ⟨B,c,rfl,hs,hb⟩;have HN:=dO hs hb;clear hs hb)
  |fail
 go_ret;rw[K4];exact⟨B,c,rfl,HN.O.1,HN.O.2⟩
theorem aeD(s:Nat):fK 8 s=fK 4 (s/4294967296)++fK 4 (s%4294967296):=by simp only[fK,bS,bn,eK,and_true];omega
theorem Qd(h:wZ g m s del at_)(w:World):
 Calls Tryz.prog 32 #[.agg (pQ g m s del at_)] w λ e w'=>∃B c,e= .returned (.slice (zp B) 21 c)/\ay w' (zp B) (dS g m s del at_)/\Below w w w':=by
 have mU:at_<524288:=by
  cases hd:del with
  |true=>rw[h.d hd];decide
  |false=>exact(h.a hd).2
 have HG:=ag (λ W=>adE g W (cm h.g2));have HM:=ag (λ W=>adE m W (cm h.m2));have HS:=ag (λ W=>afI s W (cm h.s2));have HA:=ag (λ W=>adE at_ W an);have hwa:(at_:Int)<524288:=an;have hwg:(g:Int)<4294967296:=cm h.g2;have hwm:(m:Int)<4294967296:=cm h.m2;obtain⟨w1,bY⟩:=bL (w.alloc (.cells (pQ g m s del at_) 45));have cN:Below w w w1:=by rw[bY];go_grown
 have j5:w1.heap.size=w.heap.size+1:=by rw[bY];simp
 have eb:w1.heap[w.heap.size]? =some (.cells (pQ g m s del at_) 45):=qK bY;have Vx:=yt w1 (n₀:=w1.heap.size) (cH);have bG:Below w1 w1 (w1.alloc (.cells #[] 5)):=by go_grown
 have HX:Hid (∀V:World,Below w1 w1 V->V.cell? (za w 0)=some (.int .u32 (g:Int))/\V.cell? (za w 1)=some (.int .u32 (m:Int))/\V.cell? (za w 2)=some (.int .u64 (s:Int))/\V.cell? (za w 3)=some (.bool del)/\V.cell? (za w 4)=some (.int .i64 (at_:Int))):=ag λ V hV=>by have e:=(hV.block _ an).T eb;exact⟨(af e 0).T rfl,(af e 1).T rfl,(af e 2).T rfl,(af e 3).T rfl,(af e 4).T rfl⟩
 have H0:=dO Vx bG;have H1:=eS cN j5 bY;have Fy:Hid (∀v:Nat,v<256->∀x∈fK 4 g++fK 4 m++fK 8 s++[v]++fK 4 at_,x<256):=ag λ v hv x hx=>by
  simp only[aG,aE]at hx;rcases hx with(((hx|hx)|hx)|hx)|hx
  ·exact nQ _ _ _ hx
  ·exact nQ _ _ _ hx
  ·exact nQ _ _ _ hx
  ·omega
  ·exact nQ _ _ _ hx
 have HE:Hid (dS g m s del at_=fK 4 g++fK 4 m++fK 8 s++[if del then 1 else 0]++fK 4 at_):=ag (by unfold dS;rw[aeD];simp);unfold pQ;unfold pQ at H1;clear h Vx bG cN j5 bY eb mU;cases del
 all_goals
  go_enter Tryz.func32,Tryz.ntmps32
  go_wp2_with first
  |((with_reducible refine(HG.O _).mono ?_);rintro e v1 ⟨B1,k1,rfl,gC,yI⟩;rw[<-H1.O.2.2]at yI;obtain⟨g1,c1,u1,ID,C8,yL⟩:=fg (cc:=k1) (m:=4) (dC.row yI H0.O.1) gC (ie _ _) de an (aj H0.O.2.size yI.size);rw[H1.O.2.1]at ID;simp only[aN,Nat.reduceAdd,bn]at ID C8 yL;have N1:=dO C8 ((H0.O.2.T (yI.mono H0.O.2.size)).T yL.below);obtain⟨y0,y1,y2,y3,y4⟩:=HX.O u1 N1.O.2;clear gC yI C8 yL y0 y2 y3 y4)
  |((with_reducible refine(HM.O _).mono ?_);rintro e v2 ⟨B2,k2,rfl,lH,mu⟩;obtain⟨g2,c2,u2,Ck,oO,jk⟩:=fg (cc:=k2) (m:=4) (dC.row mu N1.O.1) lH (ie _ _) de an (aj N1.O.2.size mu.size);simp only[aN,Nat.reduceAdd,bn]at Ck oO jk;have N2:=dO oO ((N1.O.2.T (mu.mono N1.O.2.size)).T jk.below);obtain⟨y0,y1,y2,y3,y4⟩:=HX.O u2 N2.O.2;clear lH mu oO jk y0 y1 y3 y4)
  |((with_reducible refine(HS.O _).mono ?_);rintro e v3 ⟨B3,k3,rfl,mK,ED⟩;obtain⟨g3,c3,u3,we,nL,pz⟩:=fg (cc:=k3) (m:=8) (dC.row ED N2.O.1) mK (ie _ _) de an (aj N2.O.2.size ED.size);simp only[aN,Nat.reduceAdd,bn]at we nL pz;have N3:=dO nL ((N2.O.2.T (ED.mono N2.O.2.size)).T pz.below);obtain⟨y0,y1,y2,y3,y4⟩:=HX.O u3 N3.O.2;obtain⟨gA,cA,uA,ahL,hrA,TR⟩:=gP 0 0 rfl N3.O.1 an N3.O.2.size;obtain⟨gB,cB,uB,ahM,hrB,hgB⟩:=gP 1 1 rfl N3.O.1 an N3.O.2.size;simp only[Nat.reduceAdd]at ahL hrA TR ahM hrB hgB;have NA:=dO hrA (N3.O.2.T TR.below);have NB:=dO hrB (N3.O.2.T hgB.below);obtain⟨z0,z1,z2,z3,z4⟩:=HX.O uA NA.O.2;obtain⟨t0,t1,t2,t3,t4⟩:=HX.O uB NB.O.2;clear mK ED nL pz hrA TR hrB hgB y0 y1 y2 y4 z0 z1 z2 z3 t0 t1 t2 t3)
  |((with_reducible refine(HA.O _).mono ?_);rintro e v4 ⟨B4,k4,rfl,uh,hv4⟩
    first
     |obtain⟨g4,c4,u4,lu,yX,Er⟩:=fg (cc:=k4) (m:=4) (dC.row hv4 NA.O.1) uh (ie _ _) de an (aj NA.O.2.size hv4.size)
      simp only[Nat.reduceAdd]at lu yX Er;have N4:=dO yX ((NA.O.2.T (hv4.mono NA.O.2.size)).T Er.below)
     |obtain⟨g4,c4,u4,lu,yX,Er⟩:=fg (cc:=k4) (m:=4) (dC.row hv4 NB.O.1) uh (ie _ _) de an (aj NB.O.2.size hv4.size)
      simp only[Nat.reduceAdd]at lu yX Er;have N4:=dO yX ((NB.O.2.T (hv4.mono NB.O.2.size)).T Er.below)
    clear uh hv4 yX Er)
  |fail
  go_ret;refine⟨g4,c4,rfl,?_,H1.O.1.T (N4.O.2.mono H1.O.1.size)⟩;rw[HE.O];exact(dk N4.O.1 (Fy.O _ de)).1
theorem RH:∀(k n m:Nat),m<k->(fK k n)[m]? =some (n/256^(k - 1 - m)%256)
 |0,_,_,h=>an
 |k+1,n,0,_=>by rw[fK];simp
 |k+1,n,m+1,h=>by rw[fK,eV,RH k n m an,show k+1 - 1 - (m+1)=k - 1 - m by omega]
structure Hig(W:World)(R x k j:Nat):Prop where
 arr:∃M:Array Value,W.heap[R]? =some (.cells M 5)/\M.size=k/\∀t,t<j->M[k - 1 - t]? =some (.int .u8 ((x/256^t%256:Nat):Int))
theorem CQ(x k:Nat)(C1:1<=k)(YW:k<=8)(hx:x<18446744073709551616)(w:World):
 Calls Tryz.prog 135 #[.int .u64 (x:Int),.int .i64 (k:Int)] w λ e w'=>∃B c,e= .returned (.slice (zp B) k c)/\ay w' (zp B) (fK k x)/\Below w w w':=by
 obtain⟨M,hM1,hM2,G5⟩:=Po k k (cH) an;have Mv:Hid (Hig (w.alloc (.cells M 5)) w x k 0):=ag ⟨M,ai _ _,hM1, λ j hj=>an⟩;have O4:Hid (∀(j i:Nat) (W:World),i+1+j=k->Hig W w x k j->Below w w W->(∃v,W.cell? ⟨w.heap.size,i,none⟩=some v)/\W.frozen? ⟨w.heap.size,i,none⟩=false/\Hid (Hig (W.setCell ⟨w.heap.size,i,none⟩ (.int .u8 ((x/256^j%256:Nat):Int))) w x k (j+1)/\Below w w (W.setCell ⟨w.heap.size,i,none⟩ (.int .u8 ((x/256^j%256:Nat):Int))))):=ag λ j i W hi hd hb=>by
  obtain⟨M,h1,h2,h3⟩:=hd.arr;refine⟨⟨M[i]'an,by rw[af h1];exact br an⟩,ax h1 i,ag ⟨⟨M.setIfInBounds i (.int .u8 ((x/256^j%256:Nat):Int)),aU _ h1,by rw[eN];exact h2, λ t ht=>?_⟩,hb.setCell (p:=⟨w.heap.size,i,none⟩) (cH) _⟩⟩;by_cases mn:t=j
  ·subst mn;rw[show k - 1 - t=i by omega,bZ an]
  ·rw[cT an];exact h3 t an
 have HK:=dO C1 hx;have hk:(k:Int)<=8:=an;have As:(1:Int)<=(k:Int):=an;clear hM1 hM2 hx C1;go_enter Tryz.func135,Tryz.ntmps135
 go_wp2_with fail
 go_loopw [0,6] (λ xv iv wr=>∃(j y:Nat) (z:Int),j<=k/\iv= .int .i64 z/\xv= .int .u64 (y:Int)/\Hid (y=x/256^j/\z+1+(j:Int)=(k:Int))/\Hid (Hig wr w x k j/\Below w w wr)) (λ _ iv _=>(intOf iv+1).toNat)
 case atStart=>exact⟨0,x,(k:Int) - 1,aD _,rfl,rfl,ag ⟨by simp,an⟩,ag ⟨Mv.O,(ah _ w).alloc (cH) _⟩⟩
 case round=>
  obtain⟨j,y,z,hj,rfl,rfl,hy,hw⟩:=hrel;by_cases cL:0<=z
  ·obtain⟨i,rfl⟩:∃i:Nat,z=(i:Int):=⟨z.toNat,an⟩;obtain⟨⟨v0,PZ⟩,hf0,nW⟩:=O4.O j i wr (cm hy.O.2) hw.O.1 hw.O.2;obtain⟨b,hb⟩:=bL (x/256^j%256);obtain⟨y2,I5⟩:=bL (y/256);rw[<-hb]at nW;have e1:(y:Int)%256=(b:Int):=by rw[hb,<-hy.O.1];omega
   have e2:(y:Int)/256=(y2:Int):=an;have ug:(b:Int)<256:=by rw[hb];omega
   have hi9:(i:Int)<(k:Int):=cm hy.O.2;have HY:Hid (y2=x/256^(j+1)/\(i:Int) - 1+1+((j+1:Nat):Int)=(k:Int)):=ag ⟨by rw[I5,hy.O.1,cK,cQ],by have:=hy.O.2;omega⟩;have hy9:(y2:Int)<18446744073709551616:=by
    have h1:=HK.O.2;have h2:y2<=x:=by rw[I5,hy.O.1];exact aj (jM _ _) (jM _ _)
    omega
   clear hb I5 cL
   go_wp2_with fail
   exact⟨⟨j+1,y2,(i:Int) - 1,by have:=HY.O.2;omega,rfl,rfl,HY,nW⟩,by simp[intOf]⟩
  ·have Y0:j=k:=cm hy.O.2;have d0:decide (0<=z)=false:=by simpa using cL
   have ly:Hid (ay wr (zp w) (fK k x)):=ag (by
    obtain⟨M,h1,h2,h3⟩:=hw.O.1.arr;refine⟨nQ k x,.inr ⟨_,_,rfl, λ m b hb=>?_⟩⟩;rw[af h1,aN];have hm:m<k:=by have:=(aC.1 hb).1;rwa [ie]at this
    rw[RH k x m hm]at hb;cases hb;have:=h3 (k - 1 - m) an
    rwa [show k - 1 - (k - 1 - m)=m by omega]at this)
   clear hy
   go_wp2_with fail
   go_ret;exact⟨w.heap.size,⟨k,rfl⟩,ly.O,hw.O.2⟩
end
section
attribute [local go_sem] Oper.semAt_some
attribute [-go_sem] Builtin.append_
theorem XV{a b:ByteArray}(h:a=b):(a.toList==b.toList)=true:=by rw[h];simp
theorem JT{a b:ByteArray}(h:a≠b):(a.toList==b.toList)=false:=by
 cases hc:(a.toList==b.toList)with
 |false=>rfl
 |true=>
  exfalso;rw[gW,gW,beq_iff_eq]at hc;exact h (ByteArray.ext (Array.toList_inj.mp hc))
def nD(x:bX):List Value:=(DM (cE x.id) x.g x.m x.s x.del x.at_ (kindOf x.del) (fN x.del x.n))
theorem GD(x:bX):(nD x).length=11:=rfl
theorem XW(x:bX):∀u∈nD x,u.oneCell'=true:=by simp[nD,Value.oneCell']
theorem XX:(Tryz.prog.info? 57).map (λ i=>(i.zero,i.size,i.bytes))=some (some (.agg vN),11,128):=bU
theorem XY{a:az}{es:List bX}(c:Nat)(id:ByteArray)(h:cV nD 11 w a es)(hl:es.length<=1000):
 Calls Tryz.prog 7 #[.slice a es.length c,.string id] w λ e w'=>(∃r:Int,e= .returned (.int .i64 r)/\((r= -1/\∀x∈es,cE x.id≠id)\/∃(j:Nat) (x:bX),es[j]? =some x/\cE x.id=id/\r=(j:Int)))/\w'=w:=by
 obtain⟨n,hn⟩:=bL es.length;have kH:(n:Int)<=1000:=an;have H:=dO h hn;rw[<-hn];clear h hl hn;go_enter Tryz.func7,Tryz.ntmps7
 go_wp2_with fail
 go_loopw [5] (λ iv wr=>∃j:Nat,j<=n/\iv= .int .i64 (j:Int)/\Hid (∀x∈es.take j,cE x.id≠id)/\Hid (wr=w)) (λ iv _=>n - (intOf iv).toNat)
 case atStart=>exact⟨0,aD _,rfl,ag cP,ag rfl⟩
 case round=>
  obtain⟨j,hj,rfl,mr,hw⟩:=hrel;by_cases cL:j<n
  ·have mn:(j:Int)<(n:Int):=an;obtain⟨y,hy⟩:∃y,es[j]? =some y:=⟨_,aB (cm H.O.2)⟩;obtain⟨B,o,hA⟩:=H.O.1.some_ (cm H.O.2);have Ak:w.rangeAt B (o+j*11) (nD y):=by
    have h1:=H.O.1;rw[hA]at h1;exact h1.get hy
   have c0:=Ak 0 _ rfl;rw[<-hw.O,bb]at c0;subst hA;by_cases he:cE y.id=id
   ·have ma:=XV he;have HE:=dO hy he;clear Ak hy he cL
    go_wp2_with fail
    go_ret;exact⟨⟨j,rfl,.inr ⟨j,y,HE.O.1,HE.O.2,rfl⟩⟩,hw.O⟩
   ·have ma:=JT he;have HN:Hid (∀x∈es.take (j+1),cE x.id≠id):=ag (by
     intro x hx;rw[aL,hy]at hx;rcases aG.1 hx with hx|hx
     ·exact mr.O x hx
     ·have:x=y:=by simpa using hx
      rw[this];exact he)
    clear Ak hy he cL
    go_wp2_with fail
    exact⟨⟨j+1,an,by simp,HN,hw⟩,by simp[intOf];omega⟩
  ·obtain rfl:j=n:=an;have vW:¬ (j:Int)<(j:Int):=an
   go_wp2_with fail
   go_ret;refine⟨⟨-1,rfl,.inl ⟨rfl, λ x hx=>mr.O x ?_⟩⟩,hw.O⟩;rw[H.O.2,bd];exact hx
abbrev X4(x:bX):Value:=.agg (Xv (cE x.id) x.g x.m x.s x.del x.at_ (kindOf x.del) (fN x.del x.n))
def FD(es:List bX)(id:List Nat)(W:World)(ka:az)(n:Nat)(va:az)(vn vc:Nat)(z:Int):Prop:=
 (z=0/\∃x,x∈es/\x.id=id/\n=x.id.length/\vn=21/\21<=vc/\ay W ka x.id/\∃C o,va=some ⟨C,o,none⟩/\ay W (some ⟨C,o,none⟩) x.enc)\/(z=4/\∀x∈es,x.id≠id)
theorem FD.below{es:List bX}{id:List Nat}{W W':World}{ka:az}{n:Nat}{va:az}{vn vc:Nat}{z:Int}(h:FD es id W ka n va vn vc z)(hb:Below W W W'):FD es id W' ka n va vn vc z:=
 h.imp (λ h=>⟨h.1,h.2.imp λ x hx=>⟨hx.1,hx.2.1,hx.2.2.1,hx.2.2.2.1,hx.2.2.2.2.1,hx.2.2.2.2.2.1.below hb,hx.2.2.2.2.2.2.imp λ C h=>h.imp λ o h=>⟨h.1,h.2.below hb⟩⟩⟩) (λ h=>h)
theorem FD.Di{es:List bX}{ka:az}{n:Nat}{va:az}{vn:Nat}{z:Int}(h:FD es id W ka n va vn vc z){R:Nat}(hj:∀j,j≠R->W'.heap[j]? =W.heap[j]?)(hR:W.heap[R]? =some (.cells oH 101)):FD es id W' ka n va vn vc z:=by have key:∀(a:az) (xs:List Nat),ay W a xs->ay W' a xs:= λ a xs h=>gQ hj hR uo h;exact h.imp (λ h=>⟨h.1,h.2.imp λ x hx=>⟨hx.1,hx.2.1,hx.2.2.1,hx.2.2.2.1,hx.2.2.2.2.1,key _ _ hx.2.2.2.2.2.1,hx.2.2.2.2.2.2.imp λ C h=>h.imp λ o h=>⟨h.1,key _ _ h.2⟩⟩⟩) (λ h=>h)
theorem BG(x:bX):x.enc.length=21:=by simp[bX.enc,dS,ie]
theorem X5{b:az}(hF:aQ w b cf ps)(hm:Marks (aw ps)){es:List bX}(hC:gD (aw ps) a1 d1 c1 a2 d2 c2 q es){ka:az}(kc:Nat)(hk:ay w ka key)(C1:1<=key.length)(u9:key.length<=1000)(tw:key.length<=kc):
 Calls Tryz.prog 65 #[bN b ps.length cf,ij a1 d1 c1,.slice ka key.length kc] w λ e w'=>∃(OB:az) (n' RV:Nat) (va:az) (vn vc:Nat) (z:Int),e= .returned (.tuple (aeW (.agg (il OB n' RV va vn vc)) z))/\Below w w w'/\FD es key w' OB n' va vn vc z:=by
 obtain⟨its,hp,ht⟩:=hC.ids;have hl:its.length<=1000:=by rw[hp.length_eq,aR];have:=hC.many;omega
 refine(W8 hF hm ht hl kc hk C1 u9 tw).mono λ e w' ⟨hb,h⟩=>?_;rcases h with⟨y,h1,h2,rfl,h3,h4,h5⟩|⟨h1,rfl⟩
 ·obtain⟨x,hx,hxe⟩:=aM.1 (hp.mem_iff.1 h2);have e1:y.key=x.id:=(congrArg Prod.fst hxe).symm;have e2:y.val=x.enc:=(congrArg Prod.snd hxe).symm;have e3:y.val.length=21:=by rw[e2,BG]
  obtain⟨C,o,hco⟩:∃C o,y.va=some ⟨C,o,none⟩:=by
   rcases h4.2 with h0|⟨C,o,h0,_⟩
   ·rw[h0]at e3;cases e3
   ·exact⟨C,o,h0⟩
  refine⟨y.ka,y.key.length,y.kc,y.va,y.val.length,y.vc,0,rfl,hb,.inl ⟨rfl,x,hx,by rw[<-e1];exact h1,by rw[e1],e3,an,by rw[<-e1];exact h3,C,o,hco,?_⟩⟩;rw[<-e2,<-hco];exact h4
 ·exact⟨none,0,0,none,0,0,4,rfl,hb,.inr ⟨rfl, λ x hx e=>h1 (tf x) (hp.mem_iff.2 (aM.2 ⟨x,hx,rfl⟩)) e⟩⟩
theorem xD(h:p:=by
 exact⟨(af h 0).T rfl,(af h 1).T rfl,(af h 2).T rfl,(af h 3).T rfl,(af h 4).T rfl,(af h 5).T rfl,(af h 6).T rfl,(af h 7).T rfl,(af h 8).T rfl,(af h 9).T rfl,(af h 10).T rfl,(af h 11).T rfl,(af h 12).T rfl⟩
 ):p:=h
theorem rO(h:p:=by
 have HX:=dO mr nz.O.2;clear mr nz
 go_wp2_with first
  |(refine lz 77 vN HX.O.2.1 (λ w9 h1 h2 h3=>?_);have x0:=(af h1 0).T rfl;have x1:=(af h1 1).T rfl;have x2:=(af h1 2).T rfl;have x3:=(af h1 3).T rfl;have x4:=(af h1 4).T rfl;have x5:=(af h1 5).T rfl;have x6:=(af h1 6).T rfl;have x7:=(af h1 7).T rfl;have x8:=(af h1 8).T rfl;have x9:=(af h1 9).T rfl;have x10:=(af h1 10).T rfl;simp only[eu,jX,cW]at x0 x1 x2 x3 x4 x5 x6 x7 x8 x9 x10;have HE:=ag (h3 w w an HX.O.2.2.1);clear h1 h2 h3)
  |fail
 refine bodyPost_ret (v:=.tuple (U3 (.agg vN))) uu bp ⟨HE.O,.inr ⟨HX.O.1,rfl⟩⟩
 ):p:=h
theorem rP(h:p:=by
 have O4:=ag (HR.O w7 x nz.O.2.2.1 hx C o _ RV _ hk7 hv7 IP);have HX:=dO (Sm hx Hi) nz.O.2;clear hx Hi IP hk7 hv7 nz;unfold X4 Xv at O4
 go_wp2_with first
  |(refine dG 101 ?_)
  |((with_reducible refine O4.O.mono ?_);rintro e w8 ⟨rfl,BR⟩;have HB8:=dO ((BR.block _ (cS HX.O.2.1).1).T HX.O.2.1) (HX.O.2.2.1.T (BR.mono HX.O.2.2.1.size));clear BR)
  |(refine lz 77 (DM (cE x.id) x.g x.m x.s x.del x.at_ (kindOf x.del) (fN x.del x.n)) HB8.O.1 (λ w9 h1 h2 h3=>?_);have x0:=(af h1 0).T rfl;have x1:=(af h1 1).T rfl;have x2:=(af h1 2).T rfl;have x3:=(af h1 3).T rfl;have x4:=(af h1 4).T rfl;have x5:=(af h1 5).T rfl;have x6:=(af h1 6).T rfl;have x7:=(af h1 7).T rfl;have x8:=(af h1 8).T rfl;have x9:=(af h1 9).T rfl;have x10:=(af h1 10).T rfl;simp only[eu,jX,cW]at x0 x1 x2 x3 x4 x5 x6 x7 x8 x9 x10;have HE:=ag (h3 w w an HB8.O.2);clear h1 h2 h3)
  |fail
 refine bodyPost_ret (v:=.tuple (zo (.agg (DM (cE x.id) x.g x.m x.s x.del x.at_ (kindOf x.del) (fN x.del x.n))))) uu bp ⟨HE.O,.inl ⟨x,HX.O.1.1,HX.O.1.2,rfl⟩⟩
 ):p:=h
theorem X6{b:az}(hS:jV w B b ps.length cf a1 d1 c1 a2 d2 c2 q)(hFl:aQ w b cf ps)(hm:Marks (aw ps)){es:List bX}(hC:gD (aw ps) a1 d1 c1 a2 d2 c2 q es)(s:ByteArray)(hid:yR s=0):
 Calls Tryz.prog 37 (J8 (zp B) s) w λ e w'=>Below w w w'/\((∃x,x∈es/\x.id=kE s/\e= .returned (.tuple (zo (.agg (DM (cE x.id) x.g x.m x.s x.del x.at_ (kindOf x.del) (fN x.del x.n))))))\/((∀x∈es,x.id≠kE s)/\e= .returned (.tuple (U3 (.agg vN))))):=by
 have zO:1<=s.size/\s.size<=24:=by have:=xu (id:=kE s) (by rw[pS];exact hid);rw[iA]at this;exact this
 obtain⟨w1,bY⟩:=bL (w.alloc (.cells vN 77));have cN:Below w w w1:=by rw[bY];go_grown
 have kH:w1.heap[w.heap.size]? =some (.cells vN 77):=qK bY;have gC:w1.heap.size=w.heap.size+1:=by rw[bY];simp
 obtain⟨cA,wA,hcA,UW,TR,Hg,Zb⟩:=nr s w1;obtain⟨wI,X7⟩:=bL (w1.alloc (.cells oH 101));have UX:Below w1 w1 wI:=by rw[X7];go_grown
 have hnI:wI.heap[w1.heap.size]? =some (.cells oH 101):=qK X7;have UY:wI.heap.size=w1.heap.size+1:=by rw[X7];simp
 obtain⟨cC,wC,hcC,hkC,hgC,hbC,hsC⟩:=nr s wI;rw[gC]at hcA UW hnI UY;rw[UY]at hcC hkC;have ZH:=ag X7;clear X7;have HBa:=ag cN;have Cu:=ag (cN.T (Hg.mono cN.size));have HBI:=ag (cN.T (UX.mono cN.size));have HBC:=ag (HBI.O.T (hbC.mono HBI.O.size));have HS:Hid (wA.heap.size=w.heap.size+1+1):=ag an;have HSC:Hid (wC.heap.size=w.heap.size+1+1+1/\wI.heap.size=w.heap.size+1+1):=ag an;have HF:Hid (∀W,Below w w W->W.cell? (za B 0)=some (.slice none 0 0)/\W.cell? (za B 1)=some (.slice b ps.length cf)/\W.cell? (za B 2)=some (.int .i64 (-1))/\W.cell? (za B 3)=some (.int .i64 (-1))/\W.cell? (za B 4)=some (.bool false)/\W.cell? (za B 5)=some (.int .i64 (a1:Int))/\W.cell? (za B 6)=some (.int .i64 (d1:Int))/\W.cell? (za B 7)=some (.int .i64 (c1:Int))/\W.cell? (za B 8)=some (.int .i64 0)/\W.cell? (za B 9)=some (.int .i64 0)/\W.cell? (za B 10)=some (.int .u64 0)/\W.cell? (za B 11)=some (.int .i64 0)/\W.cell? (za B 12)=some (.int .i64 0)):=ag λ W hb=>by have h:=jV.below hS hb;exact xD
 have HG:Hid (∀(V:World) (ka:az) (kc:Nat),Below w w V->ay V ka (kE s)->s.size<=kc->Calls Tryz.prog 65 #[bN b ps.length cf,ij a1 d1 c1,.slice ka s.size kc] V λ e w'=>∃(OB:az) (n' RV:Nat) (va:az) (vn vc:Nat) (z:Int),e= .returned (.tuple (aeW (.agg (il OB n' RV va vn vc)) z))/\Below V V w'/\FD es (kE s) w' OB n' va vn vc z):=ag λ V ka kc hV hk tw=>by have:=X5 (hFl.below hV) hm hC kc hk (by rw[iA];exact zO.1) (by rw[iA];omega) (by rw[iA];exact tw);rw[iA]at this;exact this
 have HR:Hid (∀(V:World) (x:bX),Below w w V->x∈es->∀(C o:Nat) (ka:az) (kc vc:Nat),ay V ka x.id->ay V (some ⟨C,o,none⟩) x.enc->21<=vc->Calls Tryz.prog 53 (BY (zp B) (.agg (il ka x.id.length kc (some ⟨C,o,none⟩) 21 vc))) V λ e w'=>e= .returned (.tuple #[X4 x,.bool true])/\Below V V w'):=ag λ V x hV hx C o ka kc vc hk hv IP=>by have hd:=hC.ok x hx;exact JG (hS.below hV) (hFl.below hV) hm hk (by have:=(xu hd.id).2;omega) hd.id hd.info hv IP hd.body
 unfold bN ij at HG;clear hS hFl hm hC hid zO Zb hsC UY;go_enter Tryz.func37,Tryz.ntmps37
 go_wp2_with fail
 rw[<-bY];clear bY;obtain⟨f0,f1,f2,f3,f4,f5,f6,f7,f8,f9,f10,f11,f12⟩:=HF.O _ HBa.O;refine bP 18 ?_;refine tP [0,1,2,3,4,5,6,7,8,9] ?_
 iterate 10 refine tO ?_
 refine au 8 rfl ?_;refine G6 10 15 [9] [] (λ K hK=>?_) λ K hK=>?_;go_simp;clear f0 f1 f2 f3 f4 f5 f6 f7 f8 f9 f10 f11 f12;obtain⟨f0,f1,f2,f3,f4,f5,f6,f7,f8,f9,f10,f11,f12⟩:=HF.O _ Cu.O;refine nP hK ?_;clear hK K;refine G6 11 15 [0,1,2,3,4,5,6,7,8,9,10] [9] (λ K hK=>?_) λ K hK=>?_;go_simp;have jG:=ag (Cu.O);(with_reducible refine(HG.O _ _ _ jG.O (UW) (TR)).mono ?_);rintro e w3 ⟨OB,n',RV,va,vn,vc,z,rfl,cu,hz⟩;have ek:=dO (jG.O.T (cu.mono jG.O.size)) cu;have HZ:=ag hz;clear cu hz;refine nP hK ?_;clear hK K;refine tP [12,13,14] ?_
 iterate 3 refine tO ?_
 refine au 3 rfl ?_;refine sP 15 [0,1,2,3,4,5,6,7,8,9,10] λ K hK=>?_;go_simp;obtain⟨w5,kY⟩:=bL (w3.alloc (.cells oH 101));have dV:Below w3 w3 w5:=by rw[kY];go_grown
 have HA:Hid (w5.heap[w3.heap.size]? =some (.cells oH 101)/\w5.heap[w.heap.size]? =some (.cells vN 77)/\Below w w w5/\FD es (kE s) w5 OB n' va vn vc z):=ag ⟨by rw[kY];exact ai _ _,(dV.block _ (iX ek.O.2.size HS.O)).T ((ek.O.2.block _ (cm HS.O)).T ((Hg.block _ an).T kH)),ek.O.1.T (dV.mono ek.O.1.size),HZ.O.below dV⟩;rw[<-kY];have HL:Hid (w.heap.size<w3.heap.size):=ag (iX ek.O.2.size HS.O);clear kY dV;refine nP hK ?_;clear hK K;refine sP 16 [0,1,2,3,4,5,6,7,8,9,10,11,12,13,15] λ K hK=>?_;refine DO ?_;refine pN 101 (il OB n' RV va vn vc) HA.O.1 (λ w7 g1 g2 g3=>?_);have nz:Hid (_/\_/\_/\FD es (kE s) w7 OB n' va vn vc z):=oT g1 ((g2 w (cm HL.O)).T HA.O.2.1) (g3 w w (cm HL.O) HA.O.2.2.1) (HA.O.2.2.2.Di (λ j hj=>g2 j hj) HA.O.1);clear g1 g2 g3;refine nP hK ?_;clear hK K;refine tP [17] ?_;refine tO ?_;refine au 0 rfl ?_;refine dP ?_;go_simp;have Cv:=aF nz.O.1;rcases nz.O.2.2.2 with⟨rfl,x,hx,Hi,rfl,rfl,IP,hk7,C,o,rfl,hv7⟩|⟨rfl,mr⟩
 ·exact rP
 ·exact rO
 go_simp;obtain⟨wJ,X8⟩:=bL (wA.alloc (.cells oH 101));have HBJ:Hid (Below wA wA wJ):=ag (by rw[X8];go_grown);have HNJ:Hid (wJ.heap[wA.heap.size]? =some (.cells oH 101)):=ag (qK X8);have HSJ:Hid (wJ.heap.size=wA.heap.size+1):=ag (by rw[X8];simp);rw[<-X8];clear X8;clear f0 f1 f2 f3 f4 f5 f6 f7 f8 f9 f10 f11 f12;obtain⟨f0,f1,f2,f3,f4,f5,f6,f7,f8,f9,f10,f11,f12⟩:=HF.O _ (Cu.O.T (HBJ.O.mono Cu.O.size));refine nP hK ?_;clear hK K;refine sP 11 [0,1,2,3,4,5,6,7,8,9,10] λ K hK=>?_;go_simp;have jG:=ag (Cu.O.T (HBJ.O.mono Cu.O.size));(with_reducible refine(HG.O _ _ _ jG.O (UW.below HBJ.O) (TR)).mono ?_);rintro e w3 ⟨OB,n',RV,va,vn,vc,z,rfl,cu,hz⟩;have ek:=dO (jG.O.T (cu.mono jG.O.size)) cu;have HZ:=ag hz;clear cu hz;have HA:Hid (w3.heap[wA.heap.size]? =some (.cells oH 101)/\w3.heap[w.heap.size]? =some (.cells vN 77)/\Below w w w3/\FD es (kE s) w3 OB n' va vn vc z):=ag ⟨(ek.O.2.block _ (cm HSJ.O)).T HNJ.O,(ek.O.2.block _ (iX HSJ.O HS.O)).T ((HBJ.O.block _ (cm HS.O)).T ((Hg.block _ an).T kH)),ek.O.1,HZ.O⟩;refine nP hK ?_;clear hK K;refine tP [12,13,14] ?_
 iterate 3 refine tO ?_
 refine au 2 rfl ?_;refine sP 16 [0,1,2,3,4,5,6,7,8,9,10,11,12,13,15] λ K hK=>?_;refine DO ?_;refine pN 101 (il OB n' RV va vn vc) HA.O.1 (λ w7 g1 g2 g3=>?_);have nz:Hid (_/\_/\_/\FD es (kE s) w7 OB n' va vn vc z):=oT g1 ((g2 w (cm HS.O)).T HA.O.2.1) (g3 w w (cm HS.O) HA.O.2.2.1) (HA.O.2.2.2.Di (λ j hj=>g2 j hj) HA.O.1);clear g1 g2 g3;refine nP hK ?_;clear hK K;refine tP [17] ?_;refine tO ?_;refine au 0 rfl ?_;refine dP ?_;go_simp;have Cv:=aF nz.O.1;rcases nz.O.2.2.2 with⟨rfl,x,hx,Hi,rfl,rfl,IP,hk7,C,o,rfl,hv7⟩|⟨rfl,mr⟩
 ·exact rP
 ·exact rO
 go_simp;rw[<-ZH.O];clear f0 f1 f2 f3 f4 f5 f6 f7 f8 f9 f10 f11 f12;obtain⟨f0,f1,f2,f3,f4,f5,f6,f7,f8,f9,f10,f11,f12⟩:=HF.O _ HBI.O;refine nP hK ?_;clear hK K;refine sP 10 [9] λ K hK=>?_;go_simp;clear f0 f1 f2 f3 f4 f5 f6 f7 f8 f9 f10 f11 f12;obtain⟨f0,f1,f2,f3,f4,f5,f6,f7,f8,f9,f10,f11,f12⟩:=HF.O _ HBC.O;refine nP hK ?_;clear hK K;refine sP 11 [0,1,2,3,4,5,6,7,8,9,10] λ K hK=>?_;go_simp;have jG:=ag (HBC.O);(with_reducible refine(HG.O _ _ _ jG.O (hkC) (hgC)).mono ?_);rintro e w3 ⟨OB,n',RV,va,vn,vc,z,rfl,cu,hz⟩;have ek:=dO (jG.O.T (cu.mono jG.O.size)) cu;have HZ:=ag hz;clear cu hz;have HA:Hid (w3.heap[w.heap.size+1]? =some (.cells oH 101)/\w3.heap[w.heap.size]? =some (.cells vN 77)/\Below w w w3/\FD es (kE s) w3 OB n' va vn vc z):=ag ⟨(ek.O.2.block _ (cm HSC.O)).T ((hbC.block _ (cm HSC.O)).T hnI),(ek.O.2.block _ (cm HSC.O)).T ((hbC.block _ (cm HSC.O)).T ((UX.block _ an).T kH)),ek.O.1,HZ.O⟩;refine nP hK ?_;clear hK K;refine tP [12,13,14] ?_
 iterate 3 refine tO ?_
 refine au 2 rfl ?_;refine sP 16 [0,1,2,3,4,5,6,7,8,9,10,11,12,13,15] λ K hK=>?_;refine DO ?_;refine pN 101 (il OB n' RV va vn vc) HA.O.1 (λ w7 g1 g2 g3=>?_);have nz:Hid (_/\_/\_/\FD es (kE s) w7 OB n' va vn vc z):=oT g1 ((g2 w an).T HA.O.2.1) (g3 w w an HA.O.2.2.1) (HA.O.2.2.2.Di (λ j hj=>g2 j hj) HA.O.1);clear g1 g2 g3;refine nP hK ?_;clear hK K;refine tP [17] ?_;refine tO ?_;refine au 0 rfl ?_;refine dP ?_;go_simp;have Cv:=aF nz.O.1;rcases nz.O.2.2.2 with⟨rfl,x,hx,Hi,rfl,rfl,IP,hk7,C,o,rfl,hv7⟩|⟨rfl,mr⟩
 ·exact rP
 ·exact rO
end
theorem BJ(ty:TypeId)(x:Operand)(ho:o.op= .load ty x)(b ofs:Nat)(hx:ev x= .pointer (some ⟨b,ofs,none⟩))(cs:List Value)(d:TypeDesc)(hc:W.rangeAt b ofs cs)(hu:P.underlying ty=some d)(hd:d.isRow=true)(hi:(P.info? ty).map (·.size)=some cs.length):
 (execOp ev o).run P W= .ok (.value (.agg cs.toArray)) W:=by
 have h:=run_loadAt_mid W b ofs ty cs d hc hu hd hi;unfold execOp;simp[ho,hx,h,Result.andThen]
theorem abo{ty:TypeId}{x:Operand}{ofs:Nat}{cs:List Value}(ho:o.op= .load ty x:=by rfl)(hx:ev x= .pointer (some ⟨b,ofs,none⟩):=by rfl)(hc:W.rangeAt b ofs cs:=by assumption)(hu:(P.underlying ty).any TypeDesc.isRow=true:=by kernel_rfl)(hi:(P.info? ty).map (·.size)=some cs.length:=by kernel_rfl):(execOp ev o).run P W= .ok (.value (.agg cs.toArray)) W:=by
 cases hd:P.underlying ty with
 |none=>rw[hd]at hu;cases hu
 |some d=>rw[hd]at hu;exact BJ ty x ho b ofs hx cs d hc hd hu hi
section
variable {P : Program} {ops : Array Oper} {Q : Exit -> Act -> World -> Prop} {md : Region.Mode}
theorem tOm{i:Nat}{is:List (Nat×Bool)}{ob:oI}{a:Act}{v:Value}{q:Prop}(hq:q)(ho:ops[i]? =some o:=by exact rfl)(hw:Region.wanted o (yielded ops a.tmps)=true:=by kernel_rfl)(hv:(execOp a.eval o).run P w= .ok (.value v) w:=by first|exact abo|(go_simp<;>with_reducible rfl))
 (h:q->mB P md ops Q dead is (fuel - 1) ((i, λ w'=>(execOp a.eval o).run P w'= .ok (.value v) w')::ob) (listed.setIfInBounds i true) (a.put o.dst v) w:=by intro h;(try simp only[Act.put,dq,eA,fk,gJ,gg,gd]);exact h):mB P md ops Q dead ((i,true)::is) fuel ob listed a w:=rh ho hw v hv (h hq)
theorem nPm{K':Act->World->Prop}{ob:oI}{a:Act}(hK:Shut (∀a w,vu dead ob w->Cg P md ops Q fuel dead ob listed a w->K' a w))(h:Cg P md ops Q fuel dead ob listed a w)(ho:vu dead ob w:=by(repeat(refine⟨?_,?_⟩;·(first|exact trivial|((try dsimp only);exact abo)|((try dsimp only);go_simp))));exact trivial):K' a w:=hK.out a w ho h
end
end Go.Proofs.YtbiififbfefkjaaGreatDoor

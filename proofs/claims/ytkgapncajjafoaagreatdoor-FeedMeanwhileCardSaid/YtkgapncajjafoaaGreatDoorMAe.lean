/- The store, part 5. -/
import Derived.Test.YtkgapncajjafoaaGreatDoorMAa
import Derived.Test.YtkgapncajjafoaaGreatDoorMAd
import Derived.Laws.EntriesVeiled
set_option linter.unusedSimpArgs false
set_option linter.unusedVariables false
set_option maxRecDepth 100000
set_option maxHeartbeats 16000000
namespace Go.Proofs.YtkgapncajjafoaaGreatDoor
open Go.RowKit Go.Shelf
variable{W W' W0 w w2 w3 w4:World}{R K N X j c n₀ k sz ez B o:Nat}{cs:Array Value}{t e:TypeId}{a b:Option Addr}{xs rest:List Nat}{vs:List Value}{ys:List an}{v0 v1 v2:Value}{ps:List Piece}
section
attribute [-go_sem] Builtin.append_
theorem dR(hk:∀j,j≠R->W'.heap[j]? =W.heap[j]?){fz:Nat×Nat}(hR:W.heap[R]? =some (.cells cs t fz))(ht1:∀(j x:Nat),cs[j]? ≠some (.int .u8 (x:Int)))(h:ai W a xs):ai W' a xs:=by
 have hc:∀(p:Addr) (v:Value),p.block≠R->W.cell? p=some v->W'.cell? p=some v:= λ p v hp hv=>(World.cell?_of_block (hk p.block hp)).T hv
 refine⟨h.1,?_⟩
 rcases h.2 with h0|⟨B,o,e,bq⟩
 ·exact .inl h0
 ·refine .inr ⟨B,o,e, λ j x hj=>?_⟩
  by_cases hB:B=R
  ·have:=bq j x hj
   rw[hB,show W.cell? (za R (o+j))=cs[o+j]? by simp[World.cell?,hR]]at this
   exact absurd this (ht1 _ _)
  ·exact hc ⟨B,o+j,none⟩ _ hB (bq j x hj)
def qK(K R:Nat):Value:=.func (.func 161) #[] (iS (zp K) (zp R))
def Af(T:Nat):Value:=.func (.func 162) #[] (dW (zp T))
structure vj(V:Vw)(W0 W:World)(R K T N X:Nat)(xs:List Nat)(cs:Array Value)(t:TypeId)(bl:List (Option Addr×List Nat)):Prop where
 rest:dA V W R xs
 ok:Boxed W K 4 (.bool true)
 take:Boxed W T 241 (qK K R)
 num:Boxed W N 307 (Af T)
 ne:R≠K/\R≠T/\R≠N/\X≠R/\X≠K/\X≠T/\X≠N
 small:xs.length<=1000000
 x:W.heap[X]? =some (.cells cs t)
 x8:∀(j x:Nat),cs[j]? ≠some (.int .u8 (x:Int))
 only:bm R W0 W
 new:W0.heap.size<=X
 bytes:∀p∈bl,cE V p.1 p.2
theorem vj.facts{V:Vw}{T:Nat}{bl:List (Option Addr×List Nat)}(h:vj V W0 W R K T N X xs cs t bl):
 W.cell? (za T 0)=some (.func (.func 161) #[] (iS (zp K) (zp R)))/\W.cell? (za N 0)=some (.func (.func 162) #[] (dW (zp T)))/\W.cell? (za K 0)=some (.bool true)/\∀j,W.frozen? ⟨X,j,none⟩=false:=
 ⟨Boxed.cell h.take,Boxed.cell h.num,Boxed.cell h.ok,ak h.x⟩
theorem vj.cell{V:Vw}{T:Nat}{bl:List (Option Addr×List Nat)}(h:vj V W0 W R K T N X xs cs t bl)(j:Nat)(v:Value)(hj:cs[j]? =some v):W.cell? ⟨X,j,none⟩=some v:=(aa h.x j).T hj
theorem vj.step{V:Vw}{T:Nat}{ys:List Nat}{bl:List (Option Addr×List Nat)}(h:vj V W0 W R K T N X xs cs t bl)(hr:dA V W' R ys)(ho:bm R W W')(hs:ys.length<=1000000):vj V W0 W' R K T N X ys cs t bl:=by
 obtain⟨n1,n2,n3,n4,n5,n6,n7⟩:=h.ne
 obtain⟨B,o,c,hb,_⟩:=h.rest
 exact⟨hr,ho.boxed h.ok (Ne.symm n1),ho.boxed h.take (Ne.symm n2),ho.boxed h.num (Ne.symm n3),h.ne,hs,(ho.block X (aX h.x).1 n4).T h.x,h.x8,h.only.T ho,h.new,h.bytes⟩
theorem vj.qu{V:Vw}{T:Nat}{bl:List (Option Addr×List Nat)}(ws:List Nat)(h:vj V W0 W R K T N X (ws++xs) cs t bl)(m:Int)(hm:m=(ws.length:Int))(hn8:ws.length<=8):
 Calls Tryz.prog 162 #[.int .i64 m,.pointer (zp T)] W λ e w'=>e= .returned (.int .u64 (numOf ws:Nat))/\vj V W0 w' R K T N X xs cs t bl:=by
 have hs:=h.small
 rw[List.length_append]at hs
 subst hm
 refine(Rx ws.length h.rest h.ok h.take hn8 aR h.small).mono ?_
 rintro e w' ⟨rfl,hr,ho⟩
 rw[List.take_append_of_le_length ag,List.take_of_length_le ag]
 rw[List.drop_append_of_le_length ag,List.drop_of_length_le ag,List.nil_append]at hr
 exact⟨rfl,h.step hr ho ag⟩
theorem vj.Ny{V:Vw}{T:Nat}{bl:List (Option Addr×List Nat)}(ws:List Nat)(h:vj V W0 W R K T N X (ws++xs) cs t bl):
 Calls Tryz.prog 161 (Yw ws.length (zp K) (zp R)) W λ e w'=>∃a,e= .returned (.slice a ws.length ws.length)/\vj V W0 w' R K T N X xs cs t (bl++[(a,ws)]):=by
 have hs:=h.small
 rw[List.length_append]at hs
 refine(DY ws.length h.rest h.ok aR h.small).mono ?_
 rintro e w' ⟨a,rfl, -,hb,hr,ho⟩
 rw[List.take_append_of_le_length (aW),List.take_of_length_le (aW)]at hb
 rw[List.drop_append_of_le_length (aW),List.drop_of_length_le (aW),List.nil_append]at hr
 have:=h.step hr ho ag
 refine⟨a,rfl,{this with bytes:= λ p hp=>?_}⟩
 rcases List.mem_append.1 hp with hp|hp
 ·exact this.bytes p hp
 ·rw[List.mem_singleton]at hp;subst hp;exact hb
theorem vj.store{V:Vw}{T:Nat}{bl:List (Option Addr×List Nat)}(h:vj V W0 W R K T N X xs cs t bl)(j:Nat)(v:Value)(hv:∀x:Nat,v≠.int .u8 (x:Int))(cs':Array Value)(he:cs.setIfInBounds j v=cs'):vj V W0 (W.setCell ⟨X,j,none⟩ v) R K T N X xs cs' t bl:=by
 subst he
 obtain⟨n1,n2,n3,n4,n5,n6,n7⟩:=h.ne
 have hk:∀i,i≠X->(W.setCell ⟨X,j,none⟩ v).heap[i]? =W.heap[i]? := λ i hi=>Below.heap_setCell W ⟨X,j,none⟩ v i hi
 obtain⟨B,o,c,hb,hc,zo,Rw⟩:=h.rest
 refine⟨⟨B,o,c,(hk R (Ne.symm n4)).T hb,hc,dR hk h.x h.x8 zo,Rw⟩,(hk K (Ne.symm n5)).T h.ok,(hk T (Ne.symm n6)).T h.take,(hk N (Ne.symm n7)).T h.num,h.ne,h.small,aq v h.x, λ i x e=>?_,?_,h.new,h.bytes⟩
 ·rw[Array.getElem?_setIfInBounds]at e
  split at e
  ·split at e
   ·exact hv x (Option.some.inj e)
   ·cases e
  ·exact h.x8 i x e
 ·exact⟨h.only.os,h.only.tape,h.only.output,by have:=h.only.size;simpa[World.setCell]using this, λ k zq oN=>(hk k (aM h.new)).T (h.only.block k zq oN)⟩
theorem vj.drew{V:Vw}{W0 W:World}{R K T N X:Nat}{xs:List Nat}{cs:Array Value}{t:TypeId}{bl:List (Option Addr×List Nat)}(h:vj V W0 W R K T N X xs cs t bl):vj V W0 W.drew R K T N X xs cs t bl:=
 ⟨h.rest,h.ok,h.take,h.num,h.ne,h.small,h.x,h.x8,⟨h.only.os,h.only.tape,h.only.output,h.only.size,h.only.block⟩,h.new,h.bytes⟩
theorem vj.start{V:Vw}{T:Nat}(hr:dA V W0 R xs)(hk:Boxed W0 K 4 (.bool true))(ht:Boxed W0 T 241 (qK K R))(hn:Boxed W0 N 307 (Af T))(bS:R≠K/\R≠T/\R≠N)(hs:xs.length<=1000000)(cs:Array Value)(t:TypeId)(h8:∀(j x:Nat),cs[j]? ≠some (.int .u8 (x:Int))):
 vj V W0 (W0.alloc (.cells cs t)) R K T N W0.heap.size xs cs t []:=by
 obtain⟨B,o,c,h1,h2,h3,h4⟩:=id hr
 have hb:Below W0 W0 (W0.alloc (.cells cs t)):=(dp).alloc (aW) _
 exact⟨hr.below hb,hk.alloc _,ht.alloc _,hn.alloc _,⟨bS.1,bS.2.1,bS.2.2,Nat.ne_of_gt h1.lt,Nat.ne_of_gt hk.lt,Nat.ne_of_gt ht.lt,Nat.ne_of_gt hn.lt⟩,hs,World.alloc_heap_new W0 _,h8,bm.aA hb,aW,by simp⟩
theorem GJ(x:an)(r:List Nat):fi x++r=[x.key.length]++(x.key++([x.val.length]++(x.val++([0]++(dL 8 0++r))))):=by simp[fi,nj,dL]
theorem mR(c:Nat):numOf [c]=c:=by simp[numOf]
theorem Nz{V:Vw}{T:Nat}(x:an)(r:List Nat)(hr:dA V w R (fi x++r))(hk:Boxed w K 4 (.bool true))(ht:Boxed w T 241 (qK K R))(hn:Boxed w N 307 (Af T))(bS:R≠K/\R≠T/\R≠N)(hs:(fi x++r).length<=1000000):
 Calls Tryz.prog 164 (xa (zp T) (zp N) (zp K)) w λ e w'=>∃y:an,y.key=x.key/\y.val=x.val/\e= .returned (.tuple #[y.v,.bool true])/\cE V y.ka y.key/\(cE V y.va y.val/\y.vc=y.val.length)/\dA V w' R r/\bm R w w':=by
 have hl:=hs
 rw[GJ]at hr hs
 have D0:=af (vj.start hr hk ht hn bS hs iT 114 (by intro j x;rcases j with _|_|_|_|j<;>simp))
 have zq:x.key.length<=1000000:=by simp[fi]at hl;omega
 have oN:x.val.length<=1000000:=by simp[fi]at hl;omega
 have aH:IntKind.i64.wrap (x.key.length:Int)=(x.key.length:Int):=by rw[IntKind.wrap_i64];omega
 have da:IntKind.i64.wrap (x.val.length:Int)=(x.val.length:Int):=by rw[IntKind.wrap_i64];omega
 clear hr hk ht hn bS hs hl
 obtain⟨f1,f2,f3,f4⟩:=D0.O.facts
 have x0:=D0.O.cell 0 (.slice none 0 0) rfl;have x1:=D0.O.cell 1 (.slice none 0 0) rfl;have x2:=D0.O.cell 2 (.bool false) rfl;have x3:=D0.O.cell 3 (.int .i64 0) rfl
 go_enter Tryz.func164,Tryz.ntmps164
 go_wp2_with fail
 have D1:=af D0.O.drew
 clear f1 f2 f3 f4 x0 x1 x2 x3;obtain⟨f1,f2,f3,f4⟩:=D1.O.facts;have x0:=D1.O.cell 0 (.slice none 0 0) rfl;have x1:=D1.O.cell 1 (.slice none 0 0) rfl;have x2:=D1.O.cell 2 (.bool false) rfl;have x3:=D1.O.cell 3 (.int .i64 0) rfl
 generalize lF:World.drew _=W1 at D1 f1 f2 f3 f4 x0 x1 x2 x3
 refine eL 6 (λ w'=>w'.cell? (za T 0)=some (.func (.func 161) #[] (iS (zp K) (zp R)))/\w'.cell? (za N 0)=some (.func (.func 162) #[] (dW (zp T)))) aO ⟨by rw[lF];exact f1,by rw[lF];exact f2⟩ (λ hS=>?_)
 rw[lF]at hS⊢
 clear lF
 refine tT 0 hS ?_
 refine tT 1 hS ?_
 refine sT 2 λ K hK=>?_
 go_simp
 (with_reducible refine(D1.O.qu _ 1 rfl aR).mono ?_);rintro e w2 ⟨rfl,hd⟩;have D2:=af hd;clear hd;clear f1 f2 f3 f4 x0 x1 x2 x3;obtain⟨f1,f2,f3,f4⟩:=D2.O.facts;have x0:=D2.O.cell 0 (.slice none 0 0) rfl;have x1:=D2.O.cell 1 (.slice none 0 0) rfl;have x2:=D2.O.cell 2 (.bool false) rfl;have x3:=D2.O.cell 3 (.int .i64 0) rfl;rw[mR]
 refine bF hK ?_ (λ hS=>?_)
 ·exact⟨f1,f2⟩
 clear hK K
 refine tT 3 hS ?_
 refine sT 4 λ K hK=>?_
 go_simp
 (with_reducible refine(D2.O.Ny _).mono ?_);rintro e w3 ⟨a1,rfl,hd⟩;have D3:=af hd;clear hd;clear f1 f2 f3 f4 x0 x1 x2 x3;obtain⟨f1,f2,f3,f4⟩:=D3.O.facts;have x0:=D3.O.cell 0 (.slice none 0 0) rfl;have x1:=D3.O.cell 1 (.slice none 0 0) rfl;have x2:=D3.O.cell 2 (.bool false) rfl;have x3:=D3.O.cell 3 (.int .i64 0) rfl
 refine bF hK ?_ (λ hS=>?_)
 ·exact⟨f1,f2⟩
 clear hK K
 refine tT 5 hS ?_
 refine sT 6 λ K hK=>?_
 go_simp
 refine iM hK ?_
 clear hK K
 refine fC aO ?_ _
 have D4:=af (D3.O.store 0 (.slice a1 x.key.length x.key.length) aR #[.slice a1 x.key.length x.key.length,.slice none 0 0,.bool false,.int .i64 0] rfl);clear f1 f2 f3 f4 x0 x1 x2 x3;obtain⟨f1,f2,f3,f4⟩:=D4.O.facts;have x0:=D4.O.cell 0 (.slice a1 x.key.length x.key.length) rfl;have x1:=D4.O.cell 1 (.slice none 0 0) rfl;have x2:=D4.O.cell 2 (.bool false) rfl;have x3:=D4.O.cell 3 (.int .i64 0) rfl
 go_wp2_with fail
 have D5:=af D4.O.drew
 clear f1 f2 f3 f4 x0 x1 x2 x3;obtain⟨f1,f2,f3,f4⟩:=D5.O.facts;have x0:=D5.O.cell 0 (.slice a1 x.key.length x.key.length) rfl;have x1:=D5.O.cell 1 (.slice none 0 0) rfl;have x2:=D5.O.cell 2 (.bool false) rfl;have x3:=D5.O.cell 3 (.int .i64 0) rfl
 generalize lF:World.drew _=W5 at D5 f1 f2 f3 f4 x0 x1 x2 x3
 refine eL 6 (λ w'=>w'.cell? (za T 0)=some (.func (.func 161) #[] (iS (zp K) (zp R)))/\w'.cell? (za N 0)=some (.func (.func 162) #[] (dW (zp T)))) aO ⟨by rw[lF];exact f1,by rw[lF];exact f2⟩ (λ hS=>?_)
 rw[lF]at hS⊢
 clear lF
 refine tT 0 hS ?_
 refine tT 1 hS ?_
 refine sT 2 λ K hK=>?_
 go_simp
 (with_reducible refine(D5.O.qu _ 1 rfl aR).mono ?_);rintro e w6 ⟨rfl,hd⟩;have D6:=af hd;clear hd;clear f1 f2 f3 f4 x0 x1 x2 x3;obtain⟨f1,f2,f3,f4⟩:=D6.O.facts;have x0:=D6.O.cell 0 (.slice a1 x.key.length x.key.length) rfl;have x1:=D6.O.cell 1 (.slice none 0 0) rfl;have x2:=D6.O.cell 2 (.bool false) rfl;have x3:=D6.O.cell 3 (.int .i64 0) rfl;rw[mR]
 refine bF hK ?_ (λ hS=>?_)
 ·exact⟨f1,f2⟩
 clear hK K
 refine tT 3 hS ?_
 refine sT 4 λ K hK=>?_
 go_simp
 (with_reducible refine(D6.O.Ny _).mono ?_);rintro e w7 ⟨a2,rfl,hd⟩;have D7:=af hd;clear hd;clear f1 f2 f3 f4 x0 x1 x2 x3;obtain⟨f1,f2,f3,f4⟩:=D7.O.facts;have x0:=D7.O.cell 0 (.slice a1 x.key.length x.key.length) rfl;have x1:=D7.O.cell 1 (.slice none 0 0) rfl;have x2:=D7.O.cell 2 (.bool false) rfl;have x3:=D7.O.cell 3 (.int .i64 0) rfl
 refine bF hK ?_ (λ hS=>?_)
 ·exact⟨f1,f2⟩
 clear hK K
 refine tT 5 hS ?_
 refine sT 6 λ K hK=>?_
 go_simp
 refine iM hK ?_
 clear hK K
 refine fC aO ?_ _
 have D8:=af (D7.O.store 1 (.slice a2 x.val.length x.val.length) aR (dv a1 x.key.length x.key.length a2 x.val.length x.val.length) rfl);clear f1 f2 f3 f4 x0 x1 x2 x3;obtain⟨f1,f2,f3,f4⟩:=D8.O.facts;have x0:=D8.O.cell 0 (.slice a1 x.key.length x.key.length) rfl;have x1:=D8.O.cell 1 (.slice a2 x.val.length x.val.length) rfl;have x2:=D8.O.cell 2 (.bool false) rfl;have x3:=D8.O.cell 3 (.int .i64 0) rfl
 go_wp2_with first
  |((with_reducible refine(D8.O.qu _ 1 rfl aR).mono ?_);rintro e w9 ⟨rfl,hd⟩;have D9:=af hd;clear hd;clear f1 f2 f3 f4 x0 x1 x2 x3;obtain⟨f1,f2,f3,f4⟩:=D9.O.facts;have x0:=D9.O.cell 0 (.slice a1 x.key.length x.key.length) rfl;have x1:=D9.O.cell 1 (.slice a2 x.val.length x.val.length) rfl;have x2:=D9.O.cell 2 (.bool false) rfl;have x3:=D9.O.cell 3 (.int .i64 0) rfl;rw[show numOf [0]=0 by decide];have Eb:=af (D9.O.store 2 (.bool false) aR (dv a1 x.key.length x.key.length a2 x.val.length x.val.length) rfl);obtain⟨g1,g2,g3,g4⟩:=Eb.O.facts;have y0:=Eb.O.cell 0 (.slice a1 x.key.length x.key.length) rfl;have y1:=Eb.O.cell 1 (.slice a2 x.val.length x.val.length) rfl;have y2:=Eb.O.cell 2 (.bool false) rfl;have y3:=Eb.O.cell 3 (.int .i64 0) rfl)
  |((with_reducible refine(Eb.O.qu _ 8 rfl (by simp[dL])).mono ?_);rintro e w11 ⟨rfl,hd⟩;have Ec:=af hd;clear hd;clear f1 f2 f3 f4 x0 x1 x2 x3;obtain⟨f1,f2,f3,f4⟩:=Ec.O.facts;have x0:=Ec.O.cell 0 (.slice a1 x.key.length x.key.length) rfl;have x1:=Ec.O.cell 1 (.slice a2 x.val.length x.val.length) rfl;have x2:=Ec.O.cell 2 (.bool false) rfl;have x3:=Ec.O.cell 3 (.int .i64 0) rfl;rw[show numOf (dL 8 0)=0 by decide];have C7:=af (Ec.O.store 3 (.int .i64 0) aR (dv a1 x.key.length x.key.length a2 x.val.length x.val.length) rfl);obtain⟨g1,g2,g3,g4⟩:=C7.O.facts;have y0:=C7.O.cell 0 (.slice a1 x.key.length x.key.length) rfl;have y1:=C7.O.cell 1 (.slice a2 x.val.length x.val.length) rfl;have y2:=C7.O.cell 2 (.bool false) rfl;have y3:=C7.O.cell 3 (.int .i64 0) rfl)
  |fail
 have C8:=af C7.O.drew
 clear g1 g2 g3 g4 y0 y1 y2 y3;clear f1 f2 f3 f4 x0 x1 x2 x3;obtain⟨f1,f2,f3,f4⟩:=C8.O.facts;have x0:=C8.O.cell 0 (.slice a1 x.key.length x.key.length) rfl;have x1:=C8.O.cell 1 (.slice a2 x.val.length x.val.length) rfl;have x2:=C8.O.cell 2 (.bool false) rfl;have x3:=C8.O.cell 3 (.int .i64 0) rfl
 generalize lF:World.drew _=W13 at C8 f1 f2 f3 f4 x0 x1 x2 x3
 refine eL 3 (λ w'=>w'.cell? (za w 0)=some (.slice a1 x.key.length x.key.length)/\w'.cell? (za w 1)=some (.slice a2 x.val.length x.val.length)/\w'.cell? (za w 2)=some (.bool false)/\w'.cell? (za w 3)=some (.int .i64 0)/\w'.cell? (za K 0)=some (.bool true)) aO (by rw[lF];exact⟨x0,x1,x2,x3,f3⟩) (λ hS=>?_)
 rw[lF]at hS⊢
 clear lF
 have DZ:=af ((((C8.O.store 0 (.slice a1 x.key.length x.key.length) aR (dv a1 x.key.length x.key.length a2 x.val.length x.val.length) rfl).store 1 (.slice a2 x.val.length x.val.length) aR (dv a1 x.key.length x.key.length a2 x.val.length x.val.length) rfl).store 2 (.bool false) aR (dv a1 x.key.length x.key.length a2 x.val.length x.val.length) rfl).store 3 (.int .i64 0) aR (dv a1 x.key.length x.key.length a2 x.val.length x.val.length) rfl)
 refine tT 0 hS ?_
 refine tT 1 hS ?_
 refine sT 2 λ K hK=>?_
 go_simp
 refine bF hK ?_ (λ hS=>?_)
 ·exact⟨DZ.O.cell 0 (.slice a1 x.key.length x.key.length) rfl,DZ.O.cell 1 (.slice a2 x.val.length x.val.length) rfl,DZ.O.cell 2 (.bool false) rfl,DZ.O.cell 3 (.int .i64 0) rfl,DZ.O.facts.2.2.1⟩
 clear hK K
 refine sT 3 λ K hK=>?_
 go_simp
 refine iM hK ?_
 clear hK K
 refine fC aO ?_ _
 go_wp2_with fail
 refine bodyPost_ret (v:=.tuple (lD (.agg (dv a1 x.key.length x.key.length a2 x.val.length x.val.length)))) ?_ (by rfl) ?_
 ·have z0:=DZ.O.cell 0 (.slice a1 x.key.length x.key.length) rfl;have z1:=DZ.O.cell 1 (.slice a2 x.val.length x.val.length) rfl;have z2:=DZ.O.cell 2 (.bool false) rfl;have z3:=DZ.O.cell 3 (.int .i64 0) rfl
  rw[results_cell_tmp rfl]
  go_simp
 ·exact⟨⟨a1,x.key,x.key.length,a2,x.val,x.val.length⟩,rfl,rfl,rfl,DZ.O.bytes (a1,x.key) aR,⟨DZ.O.bytes (a2,x.val) aR,rfl⟩,DZ.O.rest,DZ.O.only⟩
theorem GK(x:aw)(r:List Nat):fw x++r=[x.key.length]++(x.key++(dL 4 x.at_++(dL 4 x.count++(dL 4 0++(dL 8 0++(dL 8 0++(dL 8 0++(dL 8 0++r)))))))):=by simp[fw,nj]
theorem Ee:∀(i n m:Nat),(dL i n).foldl (λ x c=>x*256+c) m=m*256^i+n%256^i
 |0,n,m=>by simp[dL,Nat.mod_one]
 |i+1,n,m=>by
  rw[dL,List.foldl_cons,Ee i n,Nat.pow_succ,Nat.mod_mul,Nat.add_mul,Nat.mul_assoc,Nat.mul_comm 256]
  rw[Nat.mul_comm (256^i) (n/256^i%256)]
  omega
theorem xG(i n:Nat)(h:n<256^i):numOf (dL i n)=n:=by
 rw[numOf,Ee,Nat.mod_eq_of_lt h];simp
theorem NA{V:Vw}{T:Nat}(x:aw)(r:List Nat)(hr:dA V w R (fw x++r))(hk:Boxed w K 4 (.bool true))(ht:Boxed w T 241 (qK K R))(hn:Boxed w N 307 (Af T))(bS:R≠K/\R≠T/\R≠N)(hs:(fw x++r).length<=1000000)(bB:x.at_<1000000)(ek:x.count<1000000):
 Calls Tryz.prog 166 (xa (zp T) (zp N) (zp K)) w λ e w'=>∃y:aw,y.key=x.key/\y.at_=x.at_/\y.count=x.count/\e= .returned (.tuple #[y.v,.bool true])/\cE V y.ka y.key/\dA V w' R r/\bm R w w':=by
 have hl:=hs
 rw[GK]at hr hs
 have D0:=af (vj.start hr hk ht hn bS hs BJ 175 (by intro j x;rcases j with _|_|_|_|_|_|_|_|j<;>simp))
 have zq:x.key.length<=1000000:=by simp[fw]at hl;omega
 have aH:IntKind.i64.wrap (x.key.length:Int)=(x.key.length:Int):=by rw[IntKind.wrap_i64];omega
 have da:IntKind.i64.wrap (x.at_:Int)=(x.at_:Int):=by rw[IntKind.wrap_i64];omega
 have cL:IntKind.i64.wrap (x.count:Int)=(x.count:Int):=by rw[IntKind.wrap_i64];omega
 have nh:IntKind.i64.wrap 0=0:=by decide
 have aQ:=af (xG 4 x.at_ ag)
 have aC:=af (xG 4 x.count ag)
 clear hr hk ht hn bS hs hl
 obtain⟨f1,f2,f3,f4⟩:=D0.O.facts
 have x0:=D0.O.cell 0 (.slice none 0 0) rfl;have x1:=D0.O.cell 1 (.int .i64 0) rfl;have x2:=D0.O.cell 2 (.int .i64 0) rfl;have x3:=D0.O.cell 3 (.int .i64 0) rfl;have x4:=D0.O.cell 4 (.int .i64 0) rfl;have x5:=D0.O.cell 5 (.int .u64 0) rfl;have x6:=D0.O.cell 6 (.int .i64 0) rfl;have x7:=D0.O.cell 7 (.int .i64 0) rfl
 go_enter Tryz.func166,Tryz.ntmps166
 go_wp2_with fail
 have D1:=af D0.O.drew
 clear f1 f2 f3 f4 x0 x1 x2 x3 x4 x5 x6 x7;obtain⟨f1,f2,f3,f4⟩:=D1.O.facts;have x0:=D1.O.cell 0 (.slice none 0 0) rfl;have x1:=D1.O.cell 1 (.int .i64 0) rfl;have x2:=D1.O.cell 2 (.int .i64 0) rfl;have x3:=D1.O.cell 3 (.int .i64 0) rfl;have x4:=D1.O.cell 4 (.int .i64 0) rfl;have x5:=D1.O.cell 5 (.int .u64 0) rfl;have x6:=D1.O.cell 6 (.int .i64 0) rfl;have x7:=D1.O.cell 7 (.int .i64 0) rfl
 generalize lF:World.drew _=W1 at D1 f1 f2 f3 f4 x0 x1 x2 x3 x4 x5 x6 x7
 refine eL 6 (λ w'=>w'.cell? (za T 0)=some (.func (.func 161) #[] (iS (zp K) (zp R)))/\w'.cell? (za N 0)=some (.func (.func 162) #[] (dW (zp T)))) aO ⟨by rw[lF];exact f1,by rw[lF];exact f2⟩ (λ hS=>?_)
 rw[lF]at hS⊢
 clear lF
 refine tT 0 hS ?_
 refine tT 1 hS ?_
 refine sT 2 λ K hK=>?_
 go_simp
 (with_reducible refine(D1.O.qu _ 1 rfl aR).mono ?_);rintro e w2 ⟨rfl,hd⟩;have D2:=af hd;clear hd;clear f1 f2 f3 f4 x0 x1 x2 x3 x4 x5 x6 x7;obtain⟨f1,f2,f3,f4⟩:=D2.O.facts;have x0:=D2.O.cell 0 (.slice none 0 0) rfl;have x1:=D2.O.cell 1 (.int .i64 0) rfl;have x2:=D2.O.cell 2 (.int .i64 0) rfl;have x3:=D2.O.cell 3 (.int .i64 0) rfl;have x4:=D2.O.cell 4 (.int .i64 0) rfl;have x5:=D2.O.cell 5 (.int .u64 0) rfl;have x6:=D2.O.cell 6 (.int .i64 0) rfl;have x7:=D2.O.cell 7 (.int .i64 0) rfl;rw[mR]
 refine bF hK ?_ (λ hS=>?_)
 ·exact⟨f1,f2⟩
 clear hK K
 refine tT 3 hS ?_
 refine sT 4 λ K hK=>?_
 go_simp
 (with_reducible refine(D2.O.Ny _).mono ?_);rintro e w3 ⟨a1,rfl,hd⟩;have D3:=af hd;clear hd;clear f1 f2 f3 f4 x0 x1 x2 x3 x4 x5 x6 x7;obtain⟨f1,f2,f3,f4⟩:=D3.O.facts;have x0:=D3.O.cell 0 (.slice none 0 0) rfl;have x1:=D3.O.cell 1 (.int .i64 0) rfl;have x2:=D3.O.cell 2 (.int .i64 0) rfl;have x3:=D3.O.cell 3 (.int .i64 0) rfl;have x4:=D3.O.cell 4 (.int .i64 0) rfl;have x5:=D3.O.cell 5 (.int .u64 0) rfl;have x6:=D3.O.cell 6 (.int .i64 0) rfl;have x7:=D3.O.cell 7 (.int .i64 0) rfl
 refine bF hK ?_ (λ hS=>?_)
 ·exact⟨f1,f2⟩
 clear hK K
 refine tT 5 hS ?_
 refine sT 6 λ K hK=>?_
 go_simp
 refine iM hK ?_
 clear hK K
 refine fC aO ?_ _
 have D4:=af (D3.O.store 0 (.slice a1 x.key.length x.key.length) aR #[.slice a1 x.key.length x.key.length,.int .i64 0,.int .i64 0,.int .i64 0,.int .i64 0,.int .u64 0,.int .i64 0,.int .i64 0] rfl);clear f1 f2 f3 f4 x0 x1 x2 x3 x4 x5 x6 x7;obtain⟨f1,f2,f3,f4⟩:=D4.O.facts;have x0:=D4.O.cell 0 (.slice a1 x.key.length x.key.length) rfl;have x1:=D4.O.cell 1 (.int .i64 0) rfl;have x2:=D4.O.cell 2 (.int .i64 0) rfl;have x3:=D4.O.cell 3 (.int .i64 0) rfl;have x4:=D4.O.cell 4 (.int .i64 0) rfl;have x5:=D4.O.cell 5 (.int .u64 0) rfl;have x6:=D4.O.cell 6 (.int .i64 0) rfl;have x7:=D4.O.cell 7 (.int .i64 0) rfl
 go_wp2_with fail
 have D5:=af D4.O.drew
 clear f1 f2 f3 f4 x0 x1 x2 x3 x4 x5 x6 x7;obtain⟨f1,f2,f3,f4⟩:=D5.O.facts;have x0:=D5.O.cell 0 (.slice a1 x.key.length x.key.length) rfl;have x1:=D5.O.cell 1 (.int .i64 0) rfl;have x2:=D5.O.cell 2 (.int .i64 0) rfl;have x3:=D5.O.cell 3 (.int .i64 0) rfl;have x4:=D5.O.cell 4 (.int .i64 0) rfl;have x5:=D5.O.cell 5 (.int .u64 0) rfl;have x6:=D5.O.cell 6 (.int .i64 0) rfl;have x7:=D5.O.cell 7 (.int .i64 0) rfl
 generalize lF:World.drew _=W5 at D5 f1 f2 f3 f4 x0 x1 x2 x3 x4 x5 x6 x7
 refine eL 16 (λ w'=>w'.cell? (za T 0)=some (.func (.func 161) #[] (iS (zp K) (zp R)))/\w'.cell? (za N 0)=some (.func (.func 162) #[] (dW (zp T)))) aO ⟨by rw[lF];exact f1,by rw[lF];exact f2⟩ (λ hS=>?_)
 rw[lF]at hS⊢
 clear lF
 refine tT 0 hS ?_
 refine tT 3 hS ?_
 refine tT 6 hS ?_
 refine sT 1 λ K hK=>?_
 go_simp
 (with_reducible refine(D5.O.qu _ 4 rfl (by simp[dL])).mono ?_);rintro e w6 ⟨rfl,hd⟩;have D6:=af hd;clear hd;clear f1 f2 f3 f4 x0 x1 x2 x3 x4 x5 x6 x7;obtain⟨f1,f2,f3,f4⟩:=D6.O.facts;have x0:=D6.O.cell 0 (.slice a1 x.key.length x.key.length) rfl;have x1:=D6.O.cell 1 (.int .i64 0) rfl;have x2:=D6.O.cell 2 (.int .i64 0) rfl;have x3:=D6.O.cell 3 (.int .i64 0) rfl;have x4:=D6.O.cell 4 (.int .i64 0) rfl;have x5:=D6.O.cell 5 (.int .u64 0) rfl;have x6:=D6.O.cell 6 (.int .i64 0) rfl;have x7:=D6.O.cell 7 (.int .i64 0) rfl;rw[aQ.O]
 refine bF hK ?_ (λ hS=>?_)
 ·exact⟨f1,f2⟩
 clear hK K
 refine tT 2 hS ?_
 refine tT 9 hS ?_
 refine sT 4 λ K hK=>?_
 go_simp
 (with_reducible refine(D6.O.qu _ 4 rfl (by simp[dL])).mono ?_);rintro e w7 ⟨rfl,hd⟩;have D7:=af hd;clear hd;clear f1 f2 f3 f4 x0 x1 x2 x3 x4 x5 x6 x7;obtain⟨f1,f2,f3,f4⟩:=D7.O.facts;have x0:=D7.O.cell 0 (.slice a1 x.key.length x.key.length) rfl;have x1:=D7.O.cell 1 (.int .i64 0) rfl;have x2:=D7.O.cell 2 (.int .i64 0) rfl;have x3:=D7.O.cell 3 (.int .i64 0) rfl;have x4:=D7.O.cell 4 (.int .i64 0) rfl;have x5:=D7.O.cell 5 (.int .u64 0) rfl;have x6:=D7.O.cell 6 (.int .i64 0) rfl;have x7:=D7.O.cell 7 (.int .i64 0) rfl;rw[aC.O]
 refine bF hK ?_ (λ hS=>?_)
 ·exact⟨f1,f2⟩
 clear hK K
 refine tT 5 hS ?_
 refine sT 7 λ K hK=>?_
 go_simp
 (with_reducible refine(D7.O.qu _ 4 rfl (by simp[dL])).mono ?_);rintro e w8 ⟨rfl,hd⟩;have D8:=af hd;clear hd;clear f1 f2 f3 f4 x0 x1 x2 x3 x4 x5 x6 x7;obtain⟨f1,f2,f3,f4⟩:=D8.O.facts;have x0:=D8.O.cell 0 (.slice a1 x.key.length x.key.length) rfl;have x1:=D8.O.cell 1 (.int .i64 0) rfl;have x2:=D8.O.cell 2 (.int .i64 0) rfl;have x3:=D8.O.cell 3 (.int .i64 0) rfl;have x4:=D8.O.cell 4 (.int .i64 0) rfl;have x5:=D8.O.cell 5 (.int .u64 0) rfl;have x6:=D8.O.cell 6 (.int .i64 0) rfl;have x7:=D8.O.cell 7 (.int .i64 0) rfl;rw[show numOf (dL 4 0)=0 by decide];have D9:=af (D8.O.store 1 (.int .i64 (x.at_:Int)) aR #[.slice a1 x.key.length x.key.length,.int .i64 (x.at_:Int),.int .i64 0,.int .i64 0,.int .i64 0,.int .u64 0,.int .i64 0,.int .i64 0] rfl);obtain⟨Zz,ZA,g03,g04⟩:=D9.O.facts;have y00:=D9.O.cell 0 (.slice a1 x.key.length x.key.length) rfl;have y01:=D9.O.cell 1 (.int .i64 (x.at_:Int)) rfl;have y02:=D9.O.cell 2 (.int .i64 0) rfl;have y03:=D9.O.cell 3 (.int .i64 0) rfl;have y04:=D9.O.cell 4 (.int .i64 0) rfl;have y05:=D9.O.cell 5 (.int .u64 0) rfl;have y06:=D9.O.cell 6 (.int .i64 0) rfl;have y07:=D9.O.cell 7 (.int .i64 0) rfl;have Eb:=af (D9.O.store 2 (.int .i64 (x.count:Int)) aR (gv a1 x.key.length x.key.length x.at_ x.count) rfl);obtain⟨g11,g12,g13,g14⟩:=Eb.O.facts;have y10:=Eb.O.cell 0 (.slice a1 x.key.length x.key.length) rfl;have y11:=Eb.O.cell 1 (.int .i64 (x.at_:Int)) rfl;have y12:=Eb.O.cell 2 (.int .i64 (x.count:Int)) rfl;have y13:=Eb.O.cell 3 (.int .i64 0) rfl;have y14:=Eb.O.cell 4 (.int .i64 0) rfl;have y15:=Eb.O.cell 5 (.int .u64 0) rfl;have y16:=Eb.O.cell 6 (.int .i64 0) rfl;have y17:=Eb.O.cell 7 (.int .i64 0) rfl;have Ec:=af (Eb.O.store 3 (.int .i64 0) aR (gv a1 x.key.length x.key.length x.at_ x.count) rfl);obtain⟨g21,g22,g23,g24⟩:=Ec.O.facts;have y20:=Ec.O.cell 0 (.slice a1 x.key.length x.key.length) rfl;have y21:=Ec.O.cell 1 (.int .i64 (x.at_:Int)) rfl;have y22:=Ec.O.cell 2 (.int .i64 (x.count:Int)) rfl;have y23:=Ec.O.cell 3 (.int .i64 0) rfl;have y24:=Ec.O.cell 4 (.int .i64 0) rfl;have y25:=Ec.O.cell 5 (.int .u64 0) rfl;have y26:=Ec.O.cell 6 (.int .i64 0) rfl;have y27:=Ec.O.cell 7 (.int .i64 0) rfl
 refine bF hK ?_ (λ hS=>?_)
 ·exact⟨f1,f2⟩
 clear hK K
 refine tT 8 hS ?_
 refine sT 10 λ K hK=>?_
 go_simp
 refine bF hK ?_ (λ hS=>?_)
 ·exact⟨Zz,ZA⟩
 clear hK K
 refine tT 11 hS ?_
 refine tT 12 hS ?_
 refine sT 13 λ K hK=>?_
 go_simp
 refine bF hK ?_ (λ hS=>?_)
 ·exact⟨g11,g12⟩
 clear hK K
 refine sT 14 λ K hK=>?_
 go_simp
 refine bF hK hS (λ hS=>?_)
 clear hK K
 refine tT 15 hS ?_
 refine sT 16 λ K hK=>?_
 go_simp
 refine iM hK ?_
 clear hK K
 refine fC aO ?_ _
 go_wp2_with fail
 clear f1 f2 f3 f4 x0 x1 x2 x3 x4 x5 x6 x7
 have C7:=af Ec.O.drew
 obtain⟨f1,f2,f3,f4⟩:=C7.O.facts;have x0:=C7.O.cell 0 (.slice a1 x.key.length x.key.length) rfl;have x1:=C7.O.cell 1 (.int .i64 (x.at_:Int)) rfl;have x2:=C7.O.cell 2 (.int .i64 (x.count:Int)) rfl;have x3:=C7.O.cell 3 (.int .i64 0) rfl;have x4:=C7.O.cell 4 (.int .i64 0) rfl;have x5:=C7.O.cell 5 (.int .u64 0) rfl;have x6:=C7.O.cell 6 (.int .i64 0) rfl;have x7:=C7.O.cell 7 (.int .i64 0) rfl
 generalize lF:World.drew _=W12 at C7 f1 f2 f3 f4 x0 x1 x2 x3 x4 x5 x6 x7
 refine eL 10 (λ w'=>w'.cell? (za T 0)=some (.func (.func 161) #[] (iS (zp K) (zp R)))/\w'.cell? (za N 0)=some (.func (.func 162) #[] (dW (zp T)))) aO ⟨by rw[lF];exact f1,by rw[lF];exact f2⟩ (λ hS=>?_)
 rw[lF]at hS⊢
 clear lF
 refine tT 0 hS ?_
 refine tT 3 hS ?_
 refine sT 1 λ K hK=>?_
 go_simp
 (with_reducible refine(C7.O.qu _ 8 rfl (by simp[dL])).mono ?_);rintro e w13 ⟨rfl,hd⟩;have C8:=af hd;clear hd;clear f1 f2 f3 f4 x0 x1 x2 x3 x4 x5 x6 x7;obtain⟨f1,f2,f3,f4⟩:=C8.O.facts;have x0:=C8.O.cell 0 (.slice a1 x.key.length x.key.length) rfl;have x1:=C8.O.cell 1 (.int .i64 (x.at_:Int)) rfl;have x2:=C8.O.cell 2 (.int .i64 (x.count:Int)) rfl;have x3:=C8.O.cell 3 (.int .i64 0) rfl;have x4:=C8.O.cell 4 (.int .i64 0) rfl;have x5:=C8.O.cell 5 (.int .u64 0) rfl;have x6:=C8.O.cell 6 (.int .i64 0) rfl;have x7:=C8.O.cell 7 (.int .i64 0) rfl;rw[show numOf (dL 8 0)=0 by decide]
 refine bF hK ?_ (λ hS=>?_)
 ·exact⟨f1,f2⟩
 clear hK K
 refine tT 2 hS ?_
 refine tT 5 hS ?_
 refine tT 6 hS ?_
 refine sT 4 λ K hK=>?_
 go_simp
 (with_reducible refine(C8.O.qu _ 8 rfl (by simp[dL])).mono ?_);rintro e w14 ⟨rfl,hd⟩;have Qo:=af hd;clear hd;clear f1 f2 f3 f4 x0 x1 x2 x3 x4 x5 x6 x7;obtain⟨f1,f2,f3,f4⟩:=Qo.O.facts;have x0:=Qo.O.cell 0 (.slice a1 x.key.length x.key.length) rfl;have x1:=Qo.O.cell 1 (.int .i64 (x.at_:Int)) rfl;have x2:=Qo.O.cell 2 (.int .i64 (x.count:Int)) rfl;have x3:=Qo.O.cell 3 (.int .i64 0) rfl;have x4:=Qo.O.cell 4 (.int .i64 0) rfl;have x5:=Qo.O.cell 5 (.int .u64 0) rfl;have x6:=Qo.O.cell 6 (.int .i64 0) rfl;have x7:=Qo.O.cell 7 (.int .i64 0) rfl;rw[show numOf (dL 8 0)=0 by decide];have Qp:=af (Qo.O.store 4 (.int .i64 0) aR (gv a1 x.key.length x.key.length x.at_ x.count) rfl);obtain⟨Zz,ZA,g03,g04⟩:=Qp.O.facts;have y00:=Qp.O.cell 0 (.slice a1 x.key.length x.key.length) rfl;have y01:=Qp.O.cell 1 (.int .i64 (x.at_:Int)) rfl;have y02:=Qp.O.cell 2 (.int .i64 (x.count:Int)) rfl;have y03:=Qp.O.cell 3 (.int .i64 0) rfl;have y04:=Qp.O.cell 4 (.int .i64 0) rfl;have y05:=Qp.O.cell 5 (.int .u64 0) rfl;have y06:=Qp.O.cell 6 (.int .i64 0) rfl;have y07:=Qp.O.cell 7 (.int .i64 0) rfl;have Qq:=af (Qp.O.store 5 (.int .u64 0) aR (gv a1 x.key.length x.key.length x.at_ x.count) rfl);obtain⟨g11,g12,g13,g14⟩:=Qq.O.facts;have y10:=Qq.O.cell 0 (.slice a1 x.key.length x.key.length) rfl;have y11:=Qq.O.cell 1 (.int .i64 (x.at_:Int)) rfl;have y12:=Qq.O.cell 2 (.int .i64 (x.count:Int)) rfl;have y13:=Qq.O.cell 3 (.int .i64 0) rfl;have y14:=Qq.O.cell 4 (.int .i64 0) rfl;have y15:=Qq.O.cell 5 (.int .u64 0) rfl;have y16:=Qq.O.cell 6 (.int .i64 0) rfl;have y17:=Qq.O.cell 7 (.int .i64 0) rfl
 refine bF hK ?_ (λ hS=>?_)
 ·exact⟨f1,f2⟩
 clear hK K
 refine sT 7 λ K hK=>?_
 go_simp
 refine bF hK ?_ (λ hS=>?_)
 ·exact⟨Zz,ZA⟩
 clear hK K
 refine sT 8 λ K hK=>?_
 go_simp
 refine bF hK hS (λ hS=>?_)
 clear hK K
 refine tT 9 hS ?_
 refine sT 10 λ K hK=>?_
 go_simp
 refine iM hK ?_
 clear hK K
 refine fC aO ?_ _
 go_wp2_with fail
 clear f1 f2 f3 f4 x0 x1 x2 x3 x4 x5 x6 x7
 have NB:=af Qq.O.drew
 obtain⟨f1,f2,f3,f4⟩:=NB.O.facts;have x0:=NB.O.cell 0 (.slice a1 x.key.length x.key.length) rfl;have x1:=NB.O.cell 1 (.int .i64 (x.at_:Int)) rfl;have x2:=NB.O.cell 2 (.int .i64 (x.count:Int)) rfl;have x3:=NB.O.cell 3 (.int .i64 0) rfl;have x4:=NB.O.cell 4 (.int .i64 0) rfl;have x5:=NB.O.cell 5 (.int .u64 0) rfl;have x6:=NB.O.cell 6 (.int .i64 0) rfl;have x7:=NB.O.cell 7 (.int .i64 0) rfl
 generalize lF:World.drew _=W17 at NB f1 f2 f3 f4 x0 x1 x2 x3 x4 x5 x6 x7
 refine eL 11 (λ w'=>w'.cell? (za T 0)=some (.func (.func 161) #[] (iS (zp K) (zp R)))/\w'.cell? (za N 0)=some (.func (.func 162) #[] (dW (zp T)))) aO ⟨by rw[lF];exact f1,by rw[lF];exact f2⟩ (λ hS=>?_)
 rw[lF]at hS⊢
 clear lF
 refine tT 0 hS ?_
 refine tT 3 hS ?_
 refine sT 1 λ K hK=>?_
 go_simp
 (with_reducible refine(NB.O.qu _ 8 rfl (by simp[dL])).mono ?_);rintro e w18 ⟨rfl,hd⟩;have Qr:=af hd;clear hd;clear f1 f2 f3 f4 x0 x1 x2 x3 x4 x5 x6 x7;obtain⟨f1,f2,f3,f4⟩:=Qr.O.facts;have x0:=Qr.O.cell 0 (.slice a1 x.key.length x.key.length) rfl;have x1:=Qr.O.cell 1 (.int .i64 (x.at_:Int)) rfl;have x2:=Qr.O.cell 2 (.int .i64 (x.count:Int)) rfl;have x3:=Qr.O.cell 3 (.int .i64 0) rfl;have x4:=Qr.O.cell 4 (.int .i64 0) rfl;have x5:=Qr.O.cell 5 (.int .u64 0) rfl;have x6:=Qr.O.cell 6 (.int .i64 0) rfl;have x7:=Qr.O.cell 7 (.int .i64 0) rfl;rw[show numOf (dL 8 0)=0 by decide]
 refine bF hK ?_ (λ hS=>?_)
 ·exact⟨f1,f2⟩
 clear hK K
 refine tT 2 hS ?_
 refine tT 6 hS ?_
 refine tT 7 hS ?_
 refine sT 4 λ K hK=>?_
 go_simp
 (with_reducible refine(Qr.O.qu _ 8 rfl (by simp[dL])).mono ?_);rintro e w19 ⟨rfl,hd⟩;have Qs:=af hd;clear hd;clear f1 f2 f3 f4 x0 x1 x2 x3 x4 x5 x6 x7;obtain⟨f1,f2,f3,f4⟩:=Qs.O.facts;have x0:=Qs.O.cell 0 (.slice a1 x.key.length x.key.length) rfl;have x1:=Qs.O.cell 1 (.int .i64 (x.at_:Int)) rfl;have x2:=Qs.O.cell 2 (.int .i64 (x.count:Int)) rfl;have x3:=Qs.O.cell 3 (.int .i64 0) rfl;have x4:=Qs.O.cell 4 (.int .i64 0) rfl;have x5:=Qs.O.cell 5 (.int .u64 0) rfl;have x6:=Qs.O.cell 6 (.int .i64 0) rfl;have x7:=Qs.O.cell 7 (.int .i64 0) rfl;rw[show numOf (dL 8 0)=0 by decide];have Qt:=af (Qs.O.store 6 (.int .i64 0) aR (gv a1 x.key.length x.key.length x.at_ x.count) rfl);obtain⟨Zz,ZA,g03,g04⟩:=Qt.O.facts;have y00:=Qt.O.cell 0 (.slice a1 x.key.length x.key.length) rfl;have y01:=Qt.O.cell 1 (.int .i64 (x.at_:Int)) rfl;have y02:=Qt.O.cell 2 (.int .i64 (x.count:Int)) rfl;have y03:=Qt.O.cell 3 (.int .i64 0) rfl;have y04:=Qt.O.cell 4 (.int .i64 0) rfl;have y05:=Qt.O.cell 5 (.int .u64 0) rfl;have y06:=Qt.O.cell 6 (.int .i64 0) rfl;have y07:=Qt.O.cell 7 (.int .i64 0) rfl;have Qu:=af (Qt.O.store 7 (.int .i64 0) aR (gv a1 x.key.length x.key.length x.at_ x.count) rfl);obtain⟨g11,g12,g13,g14⟩:=Qu.O.facts;have y10:=Qu.O.cell 0 (.slice a1 x.key.length x.key.length) rfl;have y11:=Qu.O.cell 1 (.int .i64 (x.at_:Int)) rfl;have y12:=Qu.O.cell 2 (.int .i64 (x.count:Int)) rfl;have y13:=Qu.O.cell 3 (.int .i64 0) rfl;have y14:=Qu.O.cell 4 (.int .i64 0) rfl;have y15:=Qu.O.cell 5 (.int .u64 0) rfl;have y16:=Qu.O.cell 6 (.int .i64 0) rfl;have y17:=Qu.O.cell 7 (.int .i64 0) rfl
 refine bF hK ?_ (λ hS=>?_)
 ·exact⟨f1,f2⟩
 clear hK K
 refine tT 5 hS ?_
 refine sT 8 λ K hK=>?_
 go_simp
 refine bF hK ?_ (λ hS=>?_)
 ·exact⟨Zz,ZA⟩
 clear hK K
 refine sT 9 λ K hK=>?_
 go_simp
 refine bF hK hS (λ hS=>?_)
 clear hK K
 refine tT 10 hS ?_
 refine sT 11 λ K hK=>?_
 go_simp
 refine iM hK ?_
 clear hK K
 refine fC aO ?_ _
 go_wp2_with fail
 have NC:=af Qu.O.drew
 clear f1 f2 f3 f4 x0 x1 x2 x3 x4 x5 x6 x7;obtain⟨f1,f2,f3,f4⟩:=NC.O.facts;have x0:=NC.O.cell 0 (.slice a1 x.key.length x.key.length) rfl;have x1:=NC.O.cell 1 (.int .i64 (x.at_:Int)) rfl;have x2:=NC.O.cell 2 (.int .i64 (x.count:Int)) rfl;have x3:=NC.O.cell 3 (.int .i64 0) rfl;have x4:=NC.O.cell 4 (.int .i64 0) rfl;have x5:=NC.O.cell 5 (.int .u64 0) rfl;have x6:=NC.O.cell 6 (.int .i64 0) rfl;have x7:=NC.O.cell 7 (.int .i64 0) rfl
 generalize lF:World.drew _=W22 at NC f1 f2 f3 f4 x0 x1 x2 x3 x4 x5 x6 x7
 refine eL 3 (λ w'=>w'.cell? (za w 0)=some (.slice a1 x.key.length x.key.length)/\w'.cell? (za w 1)=some (.int .i64 (x.at_:Int))/\w'.cell? (za w 2)=some (.int .i64 (x.count:Int))/\w'.cell? (za w 3)=some (.int .i64 0)/\w'.cell? (za w 4)=some (.int .i64 0)/\w'.cell? (za w 5)=some (.int .u64 0)/\w'.cell? (za w 6)=some (.int .i64 0)/\w'.cell? (za w 7)=some (.int .i64 0)/\w'.cell? (za K 0)=some (.bool true)) aO (by rw[lF];exact⟨x0,x1,x2,x3,x4,x5,x6,x7,f3⟩) (λ hS=>?_)
 rw[lF]at hS⊢
 clear lF
 have DZ:=af ((((((((NC.O.store 0 (.slice a1 x.key.length x.key.length) aR (gv a1 x.key.length x.key.length x.at_ x.count) rfl).store 1 (.int .i64 (x.at_:Int)) aR (gv a1 x.key.length x.key.length x.at_ x.count) rfl).store 2 (.int .i64 (x.count:Int)) aR (gv a1 x.key.length x.key.length x.at_ x.count) rfl).store 3 (.int .i64 0) aR (gv a1 x.key.length x.key.length x.at_ x.count) rfl).store 4 (.int .i64 0) aR (gv a1 x.key.length x.key.length x.at_ x.count) rfl).store 5 (.int .u64 0) aR (gv a1 x.key.length x.key.length x.at_ x.count) rfl).store 6 (.int .i64 0) aR (gv a1 x.key.length x.key.length x.at_ x.count) rfl).store 7 (.int .i64 0) aR (gv a1 x.key.length x.key.length x.at_ x.count) rfl)
 refine tT 0 hS ?_
 refine tT 1 hS ?_
 refine sT 2 λ K hK=>?_
 go_simp
 refine bF hK ?_ (λ hS=>?_)
 ·exact⟨DZ.O.cell 0 (.slice a1 x.key.length x.key.length) rfl,DZ.O.cell 1 (.int .i64 (x.at_:Int)) rfl,DZ.O.cell 2 (.int .i64 (x.count:Int)) rfl,DZ.O.cell 3 (.int .i64 0) rfl,DZ.O.cell 4 (.int .i64 0) rfl,DZ.O.cell 5 (.int .u64 0) rfl,DZ.O.cell 6 (.int .i64 0) rfl,DZ.O.cell 7 (.int .i64 0) rfl,DZ.O.facts.2.2.1⟩
 clear hK K
 refine sT 3 λ K hK=>?_
 go_simp
 refine iM hK ?_
 clear hK K
 refine fC aO ?_ _
 go_wp2_with fail
 refine bodyPost_ret (v:=.tuple (lD (.agg (gv a1 x.key.length x.key.length x.at_ x.count)))) ?_ (by rfl) ?_
 ·have z0:=DZ.O.cell 0 (.slice a1 x.key.length x.key.length) rfl;have z1:=DZ.O.cell 1 (.int .i64 (x.at_:Int)) rfl;have z2:=DZ.O.cell 2 (.int .i64 (x.count:Int)) rfl;have z3:=DZ.O.cell 3 (.int .i64 0) rfl;have z4:=DZ.O.cell 4 (.int .i64 0) rfl;have z5:=DZ.O.cell 5 (.int .u64 0) rfl;have z6:=DZ.O.cell 6 (.int .i64 0) rfl;have z7:=DZ.O.cell 7 (.int .i64 0) rfl
  rw[results_cell_tmp rfl]
  go_simp
 ·exact⟨⟨a1,x.key,x.key.length,x.at_,x.count⟩,rfl,rfl,rfl,rfl,DZ.O.bytes (a1,x.key) aR,DZ.O.rest,DZ.O.only⟩
theorem bm.next{U V:World}(h:bm R U V)(k:Below U V W):bm R U W:=⟨k.os.T h.os,k.tape.T h.tape,k.output.T h.output,Nat.le_trans h.size k.size, λ i hi hr=>(k.block i hi).T (h.block i hi hr)⟩
theorem AQ{V:Vw}{wr W3:World}(t e:TypeId)(z:Value)(sz bytes:Nat)(ht:Tryz.prog.underlying t=some (.slice e))(ou:(Tryz.prog.info? e).map (λ i=>(i.zero,i.size,i.bytes))=some (some z,sz,bytes))(oO:z.cells.size=sz)(jr:0<sz)(eZ:bytes<=4096)
 (hR:R<w.heap.size)(hV:V.w.heap.size<=R)(Vv:Below V.w.heap.size V.w w)(ho:bm R w wr)(ax:wr.ownsRow w e sz (.slice a j c) j vs)(hj:j<=100)(o:Obj)(vY:bm R (wr.alloc o) w2)(mz:dA V w2 R rest)(hX:X=wr.heap.size)(hO:bm X w2 W3)(cells:Array Value)(ng:cells.size=sz)(h1:∀u∈cells.toList,u.oneCell'=true):
 ∃g' c' w5,(Builtin.append_ #[t,t] t (jF a j c (zp W3) 1 1)).run Tryz.prog (W3.alloc (.cells cells e))= .ok (.slice (zp g') (j+1) c') w5/\
  w5.ownsRow w e sz (.slice (zp g') (j+1) c') (j+1) (vs++cells.toList)/\dA V w5 R rest/\bm R w w5:=by
 have s2:wr.heap.size+1<=w2.heap.size:=by have:=vY.size;simpa using this
 have dF:∀k,k<wr.heap.size->k≠R->W3.heap[k]? =wr.heap[k]? := λ k hk oN=>
  (hO.block k ag ag).T ((vY.block k bV oN).T (Below.heap_alloc wr o k hk))
 have cL:bm R w W3:=⟨hO.os.T (vY.os.T ho.os),hO.tape.T (vY.tape.T ho.tape),hO.output.T (vY.output.T ho.output),by have:=ho.size;have:=hO.size;omega, λ k hk oN=>(dF k (Nat.lt_of_lt_of_le hk ho.size) oN).T (ho.block k hk oN)⟩
 have ZB:W3.ownsRow w e sz (.slice a j c) j vs:=dx ax λ g hg=>by
  rcases ay ax with⟨h1,_⟩|⟨g2,cur,h1,hb,eU⟩
  ·rw[hg]at h1;cases h1
  ·rw[hg]at h1;cases h1
   exact dF _ (aX eU).1 ag
 obtain⟨g',c',w5,bt,cz,bJ, -, -, -⟩:=fM (P:=Tryz.prog) t e z sz bytes ht ou oO jr (W:=W3) cells ng h1 ZB ag eZ cL.size
 have eT:bm R w w5:=cL.next bJ
 obtain⟨B,q,cc,ey,kL,zo,Rw⟩:=mz
 refine⟨g',c',w5,bt,cz,⟨B,q,cc,?_,kL,Rw.below (Vv.T (eT.below hV ag)),Rw⟩,eT⟩
 have aL:W3.heap[R]? =w2.heap[R]? :=hO.block R ey.lt (aM ho.size)
 exact(bJ.block R hR).T (aL.T ey)
theorem Tryz.mS:(Tryz.prog.info? 114).map (λ i=>(i.zero,i.size,i.bytes))=some (some (.agg iT),4,64):=aO
theorem Ch{V:Vw}{T:Nat}(xs:List an)(hr:dA V w R (xs.flatMap fi))(hk:Boxed w K 4 (.bool true))(ht:Boxed w T 241 (qK K R))(hn:Boxed w N 307 (Af T))(bS:R≠K/\R≠T/\R≠N)(hs:(xs.flatMap fi).length<=1000000)(hl:xs.length<=7)(hV:V.w.heap.size<=R)(Vv:Below V.w.heap.size V.w w):
 Calls Tryz.prog 163 (QU xs.length (.func (.func 164) #[] (xa (zp T) (zp N) (zp K)))) w λ e w'=>∃(ys:List an) (a:Option Addr) (c:Nat),ys.map an.key=xs.map an.key/\ys.map an.val=xs.map an.val/\e= .returned (.tuple #[.slice a ys.length c,.bool true])/\w'.ownsRow w 114 4 (.slice a ys.length c) ys.length (ys.flatMap an.cells)/\(∀y∈ys,cE V y.ka y.key/\(cE V y.va y.val/\y.vc=y.val.length))/\dA V w' R []/\bm R w w':=by
 have HK:=af hk
 have HT:=af ht
 have HN:=af hn
 have HR:=af hr
 have HVW:=af Vv
 have ZC:Hid (R<w.heap.size):=af (by obtain⟨_,_,_,h,_⟩:=hr;exact h.lt)
 have HVR:=af hV
 have uk:=af bS
 have Qg:=af trivial
 have HS:=af hs
 clear hk ht hn hr Vv hV bS hs
 go_enter Tryz.func163,Tryz.ntmps163
 go_wp2_with fail
 go_step3
 go_wp2_with fail
 go_step3
 go_wp2_with fail
 go_loopw [4,5,8] (λ rv bv iv wr=>∃(j:Nat) (ys:List an) (a:Option Addr) (c:Nat),j<=xs.length/\iv= .int .i64 (j:Int)/\bv= .bool true/\rv= .slice a j c/\ys.length=j/\Hid (ys.map an.key=(xs.take j).map an.key/\ys.map an.val=(xs.take j).map an.val)/\Hid (wr.ownsRow w 114 4 (.slice a j c) j (ys.flatMap an.cells))/\Hid (∀y∈ys,cE V y.ka y.key/\(cE V y.va y.val/\y.vc=y.val.length))/\Hid (dA V wr R ((xs.drop j).flatMap fi))/\Hid (bm R w wr)) (λ _ _ iv _=>xs.length - (intOf iv).toNat)
 case atStart=>exact⟨0,[],none,0,Nat.zero_le _,rfl,rfl,rfl,rfl,af aR,af ⟨by simp,.inl ⟨rfl,rfl⟩⟩,af aR,af (by simpa using HR.O),af (bm.refl _ _)⟩
 case round=>
  obtain⟨j,ys,a,c,hj,rfl,rfl,rfl,r6,jX,ax,eZ,lH,hO⟩:=hrel
  by_cases bg:j<xs.length
  ·obtain⟨x,hx⟩:∃x,xs[j]? =some x:=⟨xs[j],by simp[bg]⟩
   have gy:(j:Int)<(xs.length:Int):=ag
   have hj7:(j:Int)<=7:=ag
   have HD:Hid (xs.drop j=x::xs.drop (j+1)):=af (by obtain⟨h1,h2⟩:=List.getElem?_eq_some_iff.1 hx;rw[<-h2];exact List.drop_eq_getElem_cons h1)
   have HDL:Hid (((xs.drop j).flatMap fi).length<=1000000):=af (by
    have e:xs.flatMap fi=(xs.take j).flatMap fi++(xs.drop j).flatMap fi:=by rw[<-List.flatMap_append,List.take_append_drop]
    have:=HS.O
    rw[e,List.length_append]at this
    omega)
   have HX:=af hx
   have HC:Hid (Calls Tryz.prog 164 (xa (zp T) (zp N) (zp K)) (wr.alloc (.cells iT 114)) λ e w2=>∃y:an,Hid (y.key=x.key/\y.val=x.val)/\e= .returned (.tuple (lD (.agg (dv y.ka y.key.length y.kc y.va y.val.length y.vc))))/\Hid (cE V y.ka y.key/\(cE V y.va y.val/\y.vc=y.val.length))/\w2.heap[wr.heap.size]? =some (.cells iT 114)/\
    ∀W3,bm wr w2 W3->∃g' c' w5,(Builtin.append_ #[108,108] 108 (jF a j c (zp W3) 1 1)).run Tryz.prog (W3.alloc (.cells (dv y.ka y.key.length y.kc y.va y.val.length y.vc) 114))= .ok (.slice (zp g') (j+1) c') w5/\
     Hid (w5.ownsRow w 114 4 (.slice (zp g') (j+1) c') (j+1) (ys.flatMap an.cells++y.cells)/\dA V w5 R ((xs.drop (j+1)).flatMap fi)/\bm R w w5)):=af (by
    have iL:Below wr wr (wr.alloc (.cells iT 114)):=(dp).alloc (aW) _
    have Tq:=lH.O.below iL
    have vT:=HDL.O
    rw[HD.O,List.flatMap_cons]at Tq vT
    have Vx:bm R w (wr.alloc (.cells iT 114)):=hO.O.T (bm.aA iL)
    have bS:=uk.O
    refine(Nz x _ Tq (Vx.boxed HK.O (Ne.symm bS.1)) (Vx.boxed HT.O (Ne.symm bS.2.1)) (Vx.boxed HN.O (Ne.symm bS.2.2)) bS vT).mono ?_
    rintro e w2 ⟨y,hp1,tK,rfl,aQ,aC,mz,vY⟩
    refine⟨y,af ⟨hp1,tK⟩,rfl,af ⟨aQ,aC⟩,(vY.block wr aR (cG ZC.O hO.O.size)).T (World.alloc_heap_new wr _), λ W3 h3=>?_⟩
    obtain⟨g',c',w5,bt,hq⟩:=AQ (W3:=W3) 108 114 (.agg iT) 4 64 aO Tryz.mS rfl bd bd ZC.O HVR.O HVW.O hO.O ax.O ag _ vY mz rfl h3 (dv y.ka y.key.length y.kc y.va y.val.length y.vc) rfl (by simp[Value.oneCell'])
    exact⟨g',c',w5,bt,af hq⟩)
   clear hx
   go_wp2_with first
    |((with_reducible refine HC.O.mono ?_);rintro e w2 ⟨y,hsy,rfl,r7,hX,bt⟩;have TH:=af hX;have x0:w2.cell? (za wr 0)=some (.slice none 0 0):=(aa hX 0).T rfl;have x1:w2.cell? (za wr 1)=some (.slice none 0 0):=(aa hX 1).T rfl;have x2:w2.cell? (za wr 2)=some (.bool false):=(aa hX 2).T rfl;have x3:w2.cell? (za wr 3)=some (.int .i64 0):=(aa hX 3).T rfl;have f0:=ak hX 0;have f1:=ak hX 1;have f2:=ak hX 2;have f3:=ak hX 3;have um:=af ((show((((w2.setCell (za wr 0) (.slice y.ka y.key.length y.kc)).setCell (za wr 1) (.slice y.va y.val.length y.vc)).setCell (za wr 2) (.bool false)).setCell (za wr 3) (.int .i64 0)).heap[wr.heap.size]? =some (.cells (dv y.ka y.key.length y.kc y.va y.val.length y.vc) 114)by have:=(aq (j:=3) (.int .i64 0) (aq (j:=2) (.bool false) (aq (j:=1) (.slice y.va y.val.length y.vc) (aq (j:=0) (.slice y.ka y.key.length y.kc) TH.O))));simpa using this));have z0:((((w2.setCell (za wr 0) (.slice y.ka y.key.length y.kc)).setCell (za wr 1) (.slice y.va y.val.length y.vc)).setCell (za wr 2) (.bool false)).setCell (za wr 3) (.int .i64 0)).cell? (za wr 0)=some (.slice y.ka y.key.length y.kc):=(aa um.O 0).T rfl;have z1:((((w2.setCell (za wr 0) (.slice y.ka y.key.length y.kc)).setCell (za wr 1) (.slice y.va y.val.length y.vc)).setCell (za wr 2) (.bool false)).setCell (za wr 3) (.int .i64 0)).cell? (za wr 1)=some (.slice y.va y.val.length y.vc):=(aa um.O 1).T rfl;have z2:((((w2.setCell (za wr 0) (.slice y.ka y.key.length y.kc)).setCell (za wr 1) (.slice y.va y.val.length y.vc)).setCell (za wr 2) (.bool false)).setCell (za wr 3) (.int .i64 0)).cell? (za wr 2)=some (.bool false):=(aa um.O 2).T rfl;have z3:((((w2.setCell (za wr 0) (.slice y.ka y.key.length y.kc)).setCell (za wr 1) (.slice y.va y.val.length y.vc)).setCell (za wr 2) (.bool false)).setCell (za wr 3) (.int .i64 0)).cell? (za wr 3)=some (.int .i64 0):=(aa um.O 3).T rfl;obtain⟨g',c',w5,Vy,hq⟩:=bt _ (((((bm.refl _ _).T (bm.set _ 0 (.slice y.ka y.key.length y.kc))).T (bm.set _ 1 (.slice y.va y.val.length y.vc))).T (bm.set _ 2 (.bool false))).T (bm.set _ 3 (.int .i64 0)));simp only[World.size_setCell]at Vy)
    |fail
   exact⟨⟨j+1,ys++[y],_,_,ag,by simp,rfl,rfl,by simp[r6],af (by rw[List.take_add_one,HX.O];simp[jX.O,hsy.O]),af (by simpa using hq.O.1),af (λ z hz=>(List.mem_append.1 hz).elim (eZ.O z) (λ h=>by rw[List.mem_singleton]at h;subst h;exact r7.O)),af hq.O.2.1,af hq.O.2.2⟩,by simp[intOf];omega⟩
  ·obtain rfl:j=xs.length:=ag
   rw[List.take_length]at jX
   rw[List.drop_length]at lH
   go_wp2_with fail
   rw[Exit.noGoto_ret]
   go_ret2
   exact⟨ys,a,c,jX.O.1,jX.O.2,by rw[r6];rfl,by rw[r6];exact ax.O,eZ.O,lH.O,hO.O⟩
theorem Tryz.Ci:(Tryz.prog.info? 175).map (λ i=>(i.zero,i.size,i.bytes))=some (some (.agg BJ),8,80):=aO
theorem Ag{V:Vw}{T:Nat}(xs:List aw)(hr:dA V w R (xs.flatMap fw))(hk:Boxed w K 4 (.bool true))(ht:Boxed w T 241 (qK K R))(hn:Boxed w N 307 (Af T))(bS:R≠K/\R≠T/\R≠N)(hs:(xs.flatMap fw).length<=1000000)(hl:xs.length<=7)(hV:V.w.heap.size<=R)(Vv:Below V.w.heap.size V.w w)(Km:∀x∈xs,x.at_<1000000/\x.count<1000000):
 Calls Tryz.prog 165 (QU xs.length (.func (.func 166) #[] (xa (zp T) (zp N) (zp K)))) w λ e w'=>∃(ys:List aw) (a:Option Addr) (c:Nat),ys.map aw.key=xs.map aw.key/\ys.map aw.at_=xs.map aw.at_/\ys.map aw.count=xs.map aw.count/\e= .returned (.tuple #[.slice a ys.length c,.bool true])/\w'.ownsRow w 175 8 (.slice a ys.length c) ys.length (ys.flatMap aw.cells)/\(∀y∈ys,cE V y.ka y.key)/\dA V w' R []/\bm R w w':=by
 have HK:=af hk
 have HT:=af ht
 have HN:=af hn
 have HR:=af hr
 have HVW:=af Vv
 have ZC:Hid (R<w.heap.size):=af (by obtain⟨_,_,_,h,_⟩:=hr;exact h.lt)
 have HVR:=af hV
 have uk:=af bS
 have Qg:=af Km
 have HS:=af hs
 clear hk ht hn hr Vv hV bS hs Km
 go_enter Tryz.func165,Tryz.ntmps165
 go_wp2_with fail
 go_step3
 go_wp2_with fail
 go_step3
 go_wp2_with fail
 go_loopw [4,5,8] (λ rv bv iv wr=>∃(j:Nat) (ys:List aw) (a:Option Addr) (c:Nat),j<=xs.length/\iv= .int .i64 (j:Int)/\bv= .bool true/\rv= .slice a j c/\ys.length=j/\Hid (ys.map aw.key=(xs.take j).map aw.key/\ys.map aw.at_=(xs.take j).map aw.at_/\ys.map aw.count=(xs.take j).map aw.count)/\Hid (wr.ownsRow w 175 8 (.slice a j c) j (ys.flatMap aw.cells))/\Hid (∀y∈ys,cE V y.ka y.key)/\Hid (dA V wr R ((xs.drop j).flatMap fw))/\Hid (bm R w wr)) (λ _ _ iv _=>xs.length - (intOf iv).toNat)
 case atStart=>exact⟨0,[],none,0,Nat.zero_le _,rfl,rfl,rfl,rfl,af aR,af ⟨by simp,.inl ⟨rfl,rfl⟩⟩,af aR,af (by simpa using HR.O),af (bm.refl _ _)⟩
 case round=>
  obtain⟨j,ys,a,c,hj,rfl,rfl,rfl,r6,jX,ax,eZ,lH,hO⟩:=hrel
  by_cases bg:j<xs.length
  ·obtain⟨x,hx⟩:∃x,xs[j]? =some x:=⟨xs[j],by simp[bg]⟩
   have gy:(j:Int)<(xs.length:Int):=ag
   have hj7:(j:Int)<=7:=ag
   have HD:Hid (xs.drop j=x::xs.drop (j+1)):=af (by obtain⟨h1,h2⟩:=List.getElem?_eq_some_iff.1 hx;rw[<-h2];exact List.drop_eq_getElem_cons h1)
   have HDL:Hid (((xs.drop j).flatMap fw).length<=1000000):=af (by
    have e:xs.flatMap fw=(xs.take j).flatMap fw++(xs.drop j).flatMap fw:=by rw[<-List.flatMap_append,List.take_append_drop]
    have:=HS.O
    rw[e,List.length_append]at this
    omega)
   have HX:=af hx
   have HC:Hid (Calls Tryz.prog 166 (xa (zp T) (zp N) (zp K)) (wr.alloc (.cells BJ 175)) λ e w2=>∃y:aw,Hid (y.key=x.key/\y.at_=x.at_/\y.count=x.count)/\e= .returned (.tuple (lD (.agg (gv y.ka y.key.length y.kc y.at_ y.count))))/\Hid (cE V y.ka y.key)/\w2.heap[wr.heap.size]? =some (.cells BJ 175)/\
    ∀W3,bm wr w2 W3->∃g' c' w5,(Builtin.append_ #[167,167] 167 (jF a j c (zp W3) 1 1)).run Tryz.prog (W3.alloc (.cells (gv y.ka y.key.length y.kc y.at_ y.count) 175))= .ok (.slice (zp g') (j+1) c') w5/\
     Hid (w5.ownsRow w 175 8 (.slice (zp g') (j+1) c') (j+1) (ys.flatMap aw.cells++y.cells)/\dA V w5 R ((xs.drop (j+1)).flatMap fw)/\bm R w w5)):=af (by
    have iL:Below wr wr (wr.alloc (.cells BJ 175)):=(dp).alloc (aW) _
    have Tq:=lH.O.below iL
    have vT:=HDL.O
    rw[HD.O,List.flatMap_cons]at Tq vT
    have Vx:bm R w (wr.alloc (.cells BJ 175)):=hO.O.T (bm.aA iL)
    have bS:=uk.O
    refine(NA x _ Tq (Vx.boxed HK.O (Ne.symm bS.1)) (Vx.boxed HT.O (Ne.symm bS.2.1)) (Vx.boxed HN.O (Ne.symm bS.2.2)) bS vT (Qg.O x (List.mem_of_getElem? HX.O)).1 (Qg.O x (List.mem_of_getElem? HX.O)).2).mono ?_
    rintro e w2 ⟨y,hp1,tK,ZD,rfl,aQ,mz,vY⟩
    refine⟨y,af ⟨hp1,tK,ZD⟩,rfl,af aQ,(vY.block wr aR (cG ZC.O hO.O.size)).T (World.alloc_heap_new wr _), λ W3 h3=>?_⟩
    obtain⟨g',c',w5,bt,hq⟩:=AQ (W3:=W3) 167 175 (.agg BJ) 8 80 aO Tryz.Ci rfl bd bd ZC.O HVR.O HVW.O hO.O ax.O ag _ vY mz rfl h3 (gv y.ka y.key.length y.kc y.at_ y.count) rfl (by simp[Value.oneCell'])
    exact⟨g',c',w5,bt,af hq⟩)
   clear hx
   go_wp2_with first
    |((with_reducible refine HC.O.mono ?_);rintro e w2 ⟨y,hsy,rfl,r7,hX,bt⟩;have TH:=af hX;have x0:w2.cell? (za wr 0)=some (.slice none 0 0):=(aa hX 0).T rfl;have x1:w2.cell? (za wr 1)=some (.int .i64 0):=(aa hX 1).T rfl;have x2:w2.cell? (za wr 2)=some (.int .i64 0):=(aa hX 2).T rfl;have x3:w2.cell? (za wr 3)=some (.int .i64 0):=(aa hX 3).T rfl;have x4:w2.cell? (za wr 4)=some (.int .i64 0):=(aa hX 4).T rfl;have x5:w2.cell? (za wr 5)=some (.int .u64 0):=(aa hX 5).T rfl;have x6:w2.cell? (za wr 6)=some (.int .i64 0):=(aa hX 6).T rfl;have x7:w2.cell? (za wr 7)=some (.int .i64 0):=(aa hX 7).T rfl;have f0:=ak hX 0;have f1:=ak hX 1;have f2:=ak hX 2;have f3:=ak hX 3;have f4:=ak hX 4;have f5:=ak hX 5;have f6:=ak hX 6;have f7:=ak hX 7;have um:=af ((show((((((((w2.setCell (za wr 0) (.slice y.ka y.key.length y.kc)).setCell (za wr 1) (.int .i64 (y.at_:Int))).setCell (za wr 2) (.int .i64 (y.count:Int))).setCell (za wr 3) (.int .i64 0)).setCell (za wr 4) (.int .i64 0)).setCell (za wr 5) (.int .u64 0)).setCell (za wr 6) (.int .i64 0)).setCell (za wr 7) (.int .i64 0)).heap[wr.heap.size]? =some (.cells (gv y.ka y.key.length y.kc y.at_ y.count) 175)by have:=(aq (j:=7) (.int .i64 0) (aq (j:=6) (.int .i64 0) (aq (j:=5) (.int .u64 0) (aq (j:=4) (.int .i64 0) (aq (j:=3) (.int .i64 0) (aq (j:=2) (.int .i64 (y.count:Int)) (aq (j:=1) (.int .i64 (y.at_:Int)) (aq (j:=0) (.slice y.ka y.key.length y.kc) TH.O))))))));simpa using this));have z0:((((((((w2.setCell (za wr 0) (.slice y.ka y.key.length y.kc)).setCell (za wr 1) (.int .i64 (y.at_:Int))).setCell (za wr 2) (.int .i64 (y.count:Int))).setCell (za wr 3) (.int .i64 0)).setCell (za wr 4) (.int .i64 0)).setCell (za wr 5) (.int .u64 0)).setCell (za wr 6) (.int .i64 0)).setCell (za wr 7) (.int .i64 0)).cell? (za wr 0)=some (.slice y.ka y.key.length y.kc):=(aa um.O 0).T rfl;have z1:((((((((w2.setCell (za wr 0) (.slice y.ka y.key.length y.kc)).setCell (za wr 1) (.int .i64 (y.at_:Int))).setCell (za wr 2) (.int .i64 (y.count:Int))).setCell (za wr 3) (.int .i64 0)).setCell (za wr 4) (.int .i64 0)).setCell (za wr 5) (.int .u64 0)).setCell (za wr 6) (.int .i64 0)).setCell (za wr 7) (.int .i64 0)).cell? (za wr 1)=some (.int .i64 (y.at_:Int)):=(aa um.O 1).T rfl;have z2:((((((((w2.setCell (za wr 0) (.slice y.ka y.key.length y.kc)).setCell (za wr 1) (.int .i64 (y.at_:Int))).setCell (za wr 2) (.int .i64 (y.count:Int))).setCell (za wr 3) (.int .i64 0)).setCell (za wr 4) (.int .i64 0)).setCell (za wr 5) (.int .u64 0)).setCell (za wr 6) (.int .i64 0)).setCell (za wr 7) (.int .i64 0)).cell? (za wr 2)=some (.int .i64 (y.count:Int)):=(aa um.O 2).T rfl;have z3:((((((((w2.setCell (za wr 0) (.slice y.ka y.key.length y.kc)).setCell (za wr 1) (.int .i64 (y.at_:Int))).setCell (za wr 2) (.int .i64 (y.count:Int))).setCell (za wr 3) (.int .i64 0)).setCell (za wr 4) (.int .i64 0)).setCell (za wr 5) (.int .u64 0)).setCell (za wr 6) (.int .i64 0)).setCell (za wr 7) (.int .i64 0)).cell? (za wr 3)=some (.int .i64 0):=(aa um.O 3).T rfl;have z4:((((((((w2.setCell (za wr 0) (.slice y.ka y.key.length y.kc)).setCell (za wr 1) (.int .i64 (y.at_:Int))).setCell (za wr 2) (.int .i64 (y.count:Int))).setCell (za wr 3) (.int .i64 0)).setCell (za wr 4) (.int .i64 0)).setCell (za wr 5) (.int .u64 0)).setCell (za wr 6) (.int .i64 0)).setCell (za wr 7) (.int .i64 0)).cell? (za wr 4)=some (.int .i64 0):=(aa um.O 4).T rfl;have z5:((((((((w2.setCell (za wr 0) (.slice y.ka y.key.length y.kc)).setCell (za wr 1) (.int .i64 (y.at_:Int))).setCell (za wr 2) (.int .i64 (y.count:Int))).setCell (za wr 3) (.int .i64 0)).setCell (za wr 4) (.int .i64 0)).setCell (za wr 5) (.int .u64 0)).setCell (za wr 6) (.int .i64 0)).setCell (za wr 7) (.int .i64 0)).cell? (za wr 5)=some (.int .u64 0):=(aa um.O 5).T rfl;have z6:((((((((w2.setCell (za wr 0) (.slice y.ka y.key.length y.kc)).setCell (za wr 1) (.int .i64 (y.at_:Int))).setCell (za wr 2) (.int .i64 (y.count:Int))).setCell (za wr 3) (.int .i64 0)).setCell (za wr 4) (.int .i64 0)).setCell (za wr 5) (.int .u64 0)).setCell (za wr 6) (.int .i64 0)).setCell (za wr 7) (.int .i64 0)).cell? (za wr 6)=some (.int .i64 0):=(aa um.O 6).T rfl;have z7:((((((((w2.setCell (za wr 0) (.slice y.ka y.key.length y.kc)).setCell (za wr 1) (.int .i64 (y.at_:Int))).setCell (za wr 2) (.int .i64 (y.count:Int))).setCell (za wr 3) (.int .i64 0)).setCell (za wr 4) (.int .i64 0)).setCell (za wr 5) (.int .u64 0)).setCell (za wr 6) (.int .i64 0)).setCell (za wr 7) (.int .i64 0)).cell? (za wr 7)=some (.int .i64 0):=(aa um.O 7).T rfl;obtain⟨g',c',w5,Vy,hq⟩:=bt _ (((((((((bm.refl _ _).T (bm.set _ 0 (.slice y.ka y.key.length y.kc))).T (bm.set _ 1 (.int .i64 (y.at_:Int)))).T (bm.set _ 2 (.int .i64 (y.count:Int)))).T (bm.set _ 3 (.int .i64 0))).T (bm.set _ 4 (.int .i64 0))).T (bm.set _ 5 (.int .u64 0))).T (bm.set _ 6 (.int .i64 0))).T (bm.set _ 7 (.int .i64 0)));simp only[World.size_setCell]at Vy)
    |fail
   exact⟨⟨j+1,ys++[y],_,_,ag,by simp,rfl,rfl,by simp[r6],af (by rw[List.take_add_one,HX.O];simp[jX.O,hsy.O]),af (by simpa using hq.O.1),af (λ z hz=>(List.mem_append.1 hz).elim (eZ.O z) (λ h=>by rw[List.mem_singleton]at h;subst h;exact r7.O)),af hq.O.2.1,af hq.O.2.2⟩,by simp[intOf];omega⟩
  ·obtain rfl:j=xs.length:=ag
   rw[List.take_length]at jX
   rw[List.drop_length]at lH
   go_wp2_with fail
   rw[Exit.noGoto_ret]
   go_ret2
   exact⟨ys,a,c,jX.O.1,jX.O.2.1,jX.O.2.2,by rw[r6];rfl,by rw[r6];exact ax.O,eZ.O,lH.O,hO.O⟩
theorem oZ{α:Type}(f:α->List Value)(m:Nat)(hf:∀x,(f x).length=m):∀(xs:List α) (j:Nat) (x:α) (i:Nat) (v:Value),xs[j]? =some x->(f x)[i]? =some v->(xs.flatMap f)[j*m+i]? =some v
 |[],_,_,_,_,h,_=>by simp at h
 |y::xs,0,x,i,v,h,hi=>by
  simp only[List.getElem?_cons_zero,Option.some.injEq]at h
  subst h
  have hl:=(List.getElem?_eq_some_iff.1 hi).1
  simp only[List.flatMap_cons,Nat.zero_mul,Nat.zero_add]
  rw[List.getElem?_append_left hl];exact hi
 |y::xs,j+1,x,i,v,h,hi=>by
  have ih:=oZ f m hf xs j x i v (by simpa using h) hi
  simp only[List.flatMap_cons]
  have e:(j+1)*m+i=m+(j*m+i):=by rw[Nat.add_mul,Nat.one_mul];omega
  rw[e,List.getElem?_append_right (by rw[hf];omega),hf,Nat.add_sub_cancel_left]
  exact ih
theorem pW(h:W.ownsRow n₀ e sz (.slice a k c) k vs):vs=[]\/∃g,a=some ⟨g,0,none⟩/\n₀<=g/\g<W.heap.size/\∀(j:Nat) (v:Value),vs[j]? =some v->W.cell? ⟨g,j,none⟩=some v:=by
 rcases h.2 with⟨h2,h3⟩|⟨g',cap,cur,h2,hb,hg,_,_,_,ht⟩
 ·cases h2
  refine .inl ?_
  have:=h.1
  simp_all
 ·cases h2
  refine .inr ⟨g',rfl,hb,(aX hg).1, λ j v hj=>?_⟩
  rw[<-ht,List.getElem?_take]at hj
  split at hj
  ·simp only[World.cell?,hg];simpa using hj
  ·cases hj
theorem ke(h:W.ownsRow n₀ 114 4 (.slice a k c) k (ys.flatMap an.cells))(hb:∀y∈ys,ai W y.ka y.key/\ai W y.va y.val):dQ W a ys:=by
 refine⟨?_,hb⟩
 rcases pW h with h0|⟨g,rfl, -, -,hc⟩
 ·refine .inl ?_
  cases ys with
  |nil=>rfl
  |cons y ys=>simp[an.cells]at h0
 ·refine .inr ⟨g,0,rfl, λ j x hj=>?_⟩
  have hg:= λ i v hi=>hc _ _ (oZ an.cells 4 (λ _=>rfl) ys j x i v hj hi)
  simp only[Nat.zero_add]
  exact⟨hg 0 _ rfl,hg 1 _ rfl,hg 2 _ rfl,hg 3 _ rfl⟩
theorem vk{ys:List aw}(h:W.ownsRow n₀ 175 8 (.slice a k c) k (ys.flatMap aw.cells))(hb:∀y∈ys,ai W y.ka y.key):gT W a ys:=by
 refine⟨?_,hb⟩
 rcases pW h with h0|⟨g,rfl, -, -,hc⟩
 ·refine .inl ?_
  cases ys with
  |nil=>rfl
  |cons y ys=>simp[aw.cells]at h0
 ·refine .inr ⟨g,0,rfl, λ j x hj i v hi=>?_⟩
  simp only[Nat.zero_add]
  exact hc _ _ (oZ aw.cells 8 (λ _=>rfl) ys j x i v hj hi)
def dU(W:World)(n₀:Nat)(a:Option Addr)(k:Nat)(ys:List an):Prop:=W.ownsRow n₀ 114 4 (.slice a ys.length k) ys.length (ys.flatMap an.cells)/\∀y∈ys,(ai W y.ka y.key/\ai W y.va y.val)/\cx n₀ y.ka/\cx n₀ y.va/\y.vc=y.val.length
def fm(W:World)(n₀:Nat)(a:Option Addr)(k:Nat)(ys:List aw):Prop:=W.ownsRow n₀ 175 8 (.slice a ys.length k) ys.length (ys.flatMap aw.cells)/\∀y∈ys,ai W y.ka y.key/\cx n₀ y.ka
theorem mT{e:Nat}{v:Value}(h:W.ownsRow n₀ e sz v k vs)(hn:ez<=n₀):W.ownsRow ez e sz v k vs:=by
 refine⟨h.1,?_⟩
 rcases h.2 with h2|⟨g,cap,cur,hv,hb,hg⟩
 ·exact .inl h2
 ·exact .inr ⟨g,cap,cur,hv,Nat.le_trans hn hb,hg⟩
theorem VA(h:W.ownsRow n₀ 114 4 (.slice a ys.length k) ys.length (ys.flatMap an.cells))(hn:ez<=n₀)(hb:∀y∈ys,(ai W y.ka y.key/\ai W y.va y.val)/\cx ez y.ka/\cx ez y.va/\y.vc=y.val.length):dU W ez a k ys:=⟨mT h hn,hb⟩
theorem ZE{ys:List aw}(h:W.ownsRow n₀ 175 8 (.slice a ys.length k) ys.length (ys.flatMap aw.cells))(hn:ez<=n₀)(hb:∀y∈ys,ai W y.ka y.key/\cx ez y.ka):fm W ez a k ys:=⟨mT h hn,hb⟩
theorem dU.at(h:dU W n₀ a k ys):dQ W a ys:=ke h.1 λ y hy=>(h.2 y hy).1
theorem fm.at{ys:List aw}(h:fm W n₀ a k ys):gT W a ys:=vk h.1 λ y hy=>(h.2 y hy).1
theorem dU.below{W W':World}{n₀ k:Nat}{a:Option Addr}{ys:List an}(h:dU W n₀ a k ys)(hb:Below W W W'):dU W' n₀ a k ys:=⟨bO.row hb h.1, λ y hy=>⟨⟨(h.2 y hy).1.1.below hb,(h.2 y hy).1.2.below hb⟩,(h.2 y hy).2⟩⟩
theorem fm.below{W W':World}{n₀ k:Nat}{a:Option Addr}{ys:List aw}(h:fm W n₀ a k ys)(hb:Below W W W'):fm W' n₀ a k ys:=⟨bO.row hb h.1, λ y hy=>⟨(h.2 y hy).1.below hb,(h.2 y hy).2⟩⟩
theorem dU.rn(h:dU W n₀ a k ys)(hn:ez<=n₀):dU W ez a k ys:=⟨mT h.1 hn, λ y hy=>⟨(h.2 y hy).1,(h.2 y hy).2.1.mono hn,(h.2 y hy).2.2.1.mono hn,(h.2 y hy).2.2.2⟩⟩
theorem fm.rn{ys:List aw}(h:fm W n₀ a k ys)(hn:ez<=n₀):fm W ez a k ys:=⟨mT h.1 hn, λ y hy=>⟨(h.2 y hy).1,(h.2 y hy).2.mono hn⟩⟩
theorem cE.fresh{V:Vw}(h:cE V a xs)(hn:n₀<=V.z):cx n₀ a:= λ p e=>by rw[h.2 p e];exact hn
theorem Jc(hk:∀j,j≠R->W'.heap[j]? =W.heap[j]?){fz:Nat×Nat}(hR:W.heap[R]? =some (.cells cs t fz))(zQ:t≠e)(h:W.ownsRow n₀ e sz (.slice a j c) j vs):W'.ownsRow n₀ e sz (.slice a j c) j vs:=dx h λ g hg=>by
 rcases ay h with⟨h1,_⟩|⟨g2,cur,h1,hb,eU⟩
 ·rw[hg]at h1;cases h1
 ·rw[hg]at h1;cases h1
  refine hk _ ?_
  rintro rfl
  rw[hR]at eU
  injection eU with h5
  injection h5 with _ h6 _
  exact zQ h6
theorem dU.AR(hk:∀j,j≠R->W'.heap[j]? =W.heap[j]?){fz:Nat×Nat}(hR:W.heap[R]? =some (.cells cs t fz))(zQ:t≠114)(h8:∀(j x:Nat),cs[j]? ≠some (.int .u8 (x:Int)))(h:dU W n₀ a k ys):dU W' n₀ a k ys:=
 ⟨Jc hk hR zQ h.1, λ y hy=>⟨⟨dR hk hR h8 (h.2 y hy).1.1,dR hk hR h8 (h.2 y hy).1.2⟩,(h.2 y hy).2⟩⟩
theorem fm.AR(hk:∀j,j≠R->W'.heap[j]? =W.heap[j]?){fz:Nat×Nat}(hR:W.heap[R]? =some (.cells cs t fz))(zQ:t≠175)(h8:∀(j x:Nat),cs[j]? ≠some (.int .u8 (x:Int))){ys:List aw}(h:fm W n₀ a k ys):fm W' n₀ a k ys:=
 ⟨Jc hk hR zQ h.1, λ y hy=>⟨dR hk hR h8 (h.2 y hy).1,(h.2 y hy).2⟩⟩
theorem AS:∀(xs ys:List an),ys.map an.key=xs.map an.key->ys.map an.val=xs.map an.val->ys.flatMap fi=xs.flatMap fi
 |[],[],_,_=>rfl
 |[],_::_,h,_=>by simp at h
 |_::_,[],h,_=>by simp at h
 |x::xs,y::ys,h1,h2=>by
  simp only[List.map_cons,List.cons.injEq]at h1 h2
  rw[List.flatMap_cons,List.flatMap_cons,AS xs ys h1.2 h2.2]
  simp only[fi,h1.1,h2.1]
theorem AT:∀(xs ys:List aw),ys.map aw.key=xs.map aw.key->ys.map aw.at_=xs.map aw.at_->ys.map aw.count=xs.map aw.count->ys.flatMap fw=xs.flatMap fw
 |[],[],_,_,_=>rfl
 |[],_::_,h,_,_=>by simp at h
 |_::_,[],h,_,_=>by simp at h
 |x::xs,y::ys,h1,h2,h3=>by
  simp only[List.map_cons,List.cons.injEq]at h1 h2 h3
  rw[List.flatMap_cons,List.flatMap_cons,AT xs ys h1.2 h2.2 h3.2]
  simp only[fw,h1.1,h2.1,h3.1]
theorem AU(eZ:ai w (some ⟨B,o,none⟩) xs)(ja:xs.length<=c)(hs:xs.length<=1000000):
 vj ⟨w,B⟩ w (((((w.alloc (.cells eD 169)).alloc (.cells (jE (some ⟨B,o,none⟩) xs.length c) 34)).alloc (.cells #[.bool true] 4)).alloc (.cells #[qK (w.heap.size+1+1) (w.heap.size+1)] 241)).alloc (.cells #[Af (w.heap.size+1+1+1)] 307))
  (w.heap.size+1) (w.heap.size+1+1) (w.heap.size+1+1+1) (w.heap.size+1+1+1+1) w.heap.size xs eD 169 []:=by
 have hb:Below w w (((((w.alloc (.cells eD 169)).alloc (.cells (jE (some ⟨B,o,none⟩) xs.length c) 34)).alloc (.cells #[.bool true] 4)).alloc (.cells #[qK (w.heap.size+1+1) (w.heap.size+1)] 241)).alloc (.cells #[Af (w.heap.size+1+1+1)] 307)):=by go_grown
 have key:∀(w1:World) (n:Nat) (x:Obj),n=w1.heap.size->(w1.alloc x).heap[n]? =some x:= λ w1 n x e=>e▸World.alloc_heap_new w1 x
 refine⟨⟨B,o,c,?_,ja,eZ.below hb,⟨eZ, λ p e=>by cases e;rfl⟩⟩,?_,?_,?_,ag,hs,?_,by intro j x;rcases j with _|_|_|j<;>simp,bm.aA hb,aW,by simp⟩
 ·exact(Below.heap_alloc _ _ _ (by simp<;>omega)).T ((Below.heap_alloc _ _ _ (by simp<;>omega)).T ((Below.heap_alloc _ _ _ aR).T (key _ _ _ aR)))
 ·exact(Below.heap_alloc _ _ _ (by simp<;>omega)).T ((Below.heap_alloc _ _ _ aR).T (key _ _ _ aR))
 ·exact(Below.heap_alloc _ _ _ aR).T (key _ _ _ aR)
 ·exact key _ _ _ aR
 ·exact(Below.heap_alloc _ _ _ (by simp<;>omega)).T ((Below.heap_alloc _ _ _ (by simp<;>omega)).T ((Below.heap_alloc _ _ _ (by simp<;>omega)).T ((Below.heap_alloc _ _ _ aR).T (key _ _ _ rfl))))
theorem jb.same{xs:List an}(ho:jb xs)(xi:∀x∈xs,1<=x.val.length)(hs:ys.map an.key=xs.map an.key/\ys.map an.val=xs.map an.val):jb ys/\(∀y∈ys,1<=y.val.length)/\bG ys=bG xs:=by
 have hlen:ys.length=xs.length:=by have:=congrArg List.length hs.1;simpa using this
 have Cg:∀y∈ys,∃x∈xs,y.key=x.key/\y.val=x.val:= λ y hy=>by
  obtain⟨j,hj⟩:=List.mem_iff_getElem?.1 hy
  have h1:=congrArg (λ l=>l[j]?) hs.1
  have h2:=congrArg (λ l=>l[j]?) hs.2
  simp only[List.getElem?_map,hj,Option.map_some]at h1 h2
  cases hx:xs[j]? with
  |none=>rw[hx]at h1;cases h1
  |some x=>
   rw[hx]at h1 h2
   exact⟨x,List.mem_of_getElem? hx,by simpa using h1,by simpa using h2⟩
 refine⟨⟨by have:=ho.DQ;omega,by have:=ho.kT;omega, λ y hy=>?_,by rw[hs.1];exact ho.oW⟩, λ y hy=>?_,?_⟩
 ·obtain⟨x,hx,h1,h2⟩:=Cg y hy
  rw[h1,h2];exact ho.key x hx
 ·obtain⟨x,hx,h1,h2⟩:=Cg y hy
  rw[h2];exact xi x hx
 ·unfold bG
  rw[hlen,AS xs ys hs.1 hs.2]
theorem ND{xs:List an}(n₀:Nat)(vW:n₀<=B)(Cj:n₀<=w.heap.size)(hd:vj ⟨w,B⟩ w w3 (w.heap.size+1) (w.heap.size+1+1) (w.heap.size+1+1+1) (w.heap.size+1+1+1+1) w.heap.size rest eD 169 [])
 (o8:bm (w.heap.size+1) (w3.alloc (.cells J4 169)) w4)(ax:w4.ownsRow (w3.heap.size+1) 114 4 (.slice a ys.length k) ys.length (ys.flatMap an.cells))(ho:jb xs)(xi:∀x∈xs,1<=x.val.length)(hs:ys.map an.key=xs.map an.key/\ys.map an.val=xs.map an.val)(_:ys.length=xs.length)(r7:∀y∈ys,cE ⟨w,B⟩ y.ka y.key/\(cE ⟨w,B⟩ y.va y.val/\y.vc=y.val.length))(eZ:ai w (some ⟨B,o,none⟩) (bG xs)):
 (w4.cell? (za w3 0)=some (.bool true)/\w4.cell? (za w3 1)=some (.slice none 0 0)/\w4.cell? (za w3 2)=some (.slice none 0 0)/\w4.frozen? ⟨w3.heap.size,1,none⟩=false/\
   (w4.setCell (za w3 1) (.slice a ys.length k)).cell? (za (w.heap.size+1+1) 0)=some (.bool true)/\(w4.setCell (za w3 1) (.slice a ys.length k)).frozen? ⟨w.heap.size+1+1,0,none⟩=false/\
   ((w4.setCell (za w3 1) (.slice a ys.length k)).setCell (za (w.heap.size+1+1) 0) (.bool true)).cell? (za w3 0)=some (.bool true)/\((w4.setCell (za w3 1) (.slice a ys.length k)).setCell (za (w.heap.size+1+1) 0) (.bool true)).cell? (za w3 1)=some (.slice a ys.length k)/\((w4.setCell (za w3 1) (.slice a ys.length k)).setCell (za (w.heap.size+1+1) 0) (.bool true)).cell? (za w3 2)=some (.slice none 0 0))/\
 Calls Tryz.prog 167 (Gi (.agg (nr a ys.length k))) ((w4.setCell (za w3 1) (.slice a ys.length k)).setCell (za (w.heap.size+1+1) 0) (.bool true)) λ e w6=>∃a2 k2,e= .returned (.tuple (BH a2 (bG xs).length k2))/\
  Hid (∀c:Nat,Calls Tryz.prog 104 (jF a2 (bG xs).length k2 (some ⟨B,o,none⟩) (bG xs).length c) w6 λ e w7=>e= .returned (.bool true)/\w6=w7)/\Hid (Below w w w6)/\
  w6.cell? (za w3 0)=some (.bool true)/\w6.cell? (za w3 1)=some (.slice a ys.length k)/\w6.cell? (za w3 2)=some (.slice none 0 0)/\w6.cell? (za (w.heap.size+1+1) 0)=some (.bool true)/\
  w6.cell? (za w 0)=some (.bool false)/\w6.cell? (za w 1)=some (.slice none 0 0)/\w6.cell? (za w 2)=some (.slice none 0 0)/\(∀j,w6.frozen? ⟨w.heap.size,j,none⟩=false)/\
  Hid (dU (((w6.setCell (za w 0) (.bool true)).setCell (za w 1) (.slice a ys.length k)).setCell (za w 2) (.slice none 0 0)) n₀ a k ys/\Below w w (((w6.setCell (za w 0) (.bool true)).setCell (za w 1) (.slice a ys.length k)).setCell (za w 2) (.slice none 0 0))/\(((w6.setCell (za w 0) (.bool true)).setCell (za w 1) (.slice a ys.length k)).setCell (za w 2) (.slice none 0 0)).cell? (za w 0)=some (.bool true)/\(((w6.setCell (za w 0) (.bool true)).setCell (za w 1) (.slice a ys.length k)).setCell (za w 2) (.slice none 0 0)).cell? (za w 1)=some (.slice a ys.length k)/\(((w6.setCell (za w 0) (.bool true)).setCell (za w 1) (.slice a ys.length k)).setCell (za w 2) (.slice none 0 0)).cell? (za w 2)=some (.slice none 0 0)):=by
 have hN:=hd.num.lt
 have s3:w3.heap.size+1<=w4.heap.size:=by have:=o8.size;simpa using this
 have hY:w4.heap[w3.heap.size]? =some (.cells J4 169):=(o8.block _ aR ag).T (World.alloc_heap_new w3 _)
 have hK:Boxed w4 (w.heap.size+1+1) 4 (.bool true):=o8.boxed (hd.ok.alloc _) ag
 have hX:w4.heap[w.heap.size]? =some (.cells eD 169):=(o8.block _ bV ag).T ((Below.heap_alloc _ _ _ ag).T hd.x)
 obtain⟨wA,hA⟩:=aK (w4.setCell (za w3 1) (.slice a ys.length k))
 obtain⟨w5,h5⟩:=aK (wA.setCell (za (w.heap.size+1+1) 0) (.bool true))
 have Ry:∀j,j≠w3.heap.size->wA.heap[j]? =w4.heap[j]? := λ j hj=>by rw[hA];exact Below.heap_setCell w4 ⟨w3.heap.size,1,none⟩ _ j hj
 have VB:∀j,j≠w.heap.size+1+1->w5.heap[j]? =wA.heap[j]? := λ j hj=>by rw[h5];exact Below.heap_setCell wA ⟨w.heap.size+1+1,0,none⟩ _ j hj
 have hYA:wA.heap[w3.heap.size]? =some (.cells (nr a ys.length k) 169):=by rw[hA];simpa using aq (j:=1) (.slice a ys.length k) hY
 have VC:Boxed wA (w.heap.size+1+1) 4 (.bool true):=(Ry _ ag).T hK
 have Rz:=(VB w3.heap.size ag).T hYA
 have hK5:Boxed w5 (w.heap.size+1+1) 4 (.bool true):=by rw[h5];exact Boxed.set _ VC
 have hX5:=(VB w.heap.size ag).T ((Ry w.heap.size ag).T hX)
 have GL:w5.heap.size=w4.heap.size:=by rw[h5,hA];simp
 have aL:Below w w w3:=hd.only.below (Nat.le_succ _) (aW)
 have bH:Below w w w4:=(aL.alloc ag (.cells J4 169)).T (o8.below (Nat.le_succ _) bV)
 have bJ:Below w w w5:=by
  rw[h5,hA]
  exact(bH.setCell (p:=(za w3 1)) (by show _<=w3.heap.size;omega) _).setCell (p:=(za (w.heap.size+1+1) 0)) (by show _<=w.heap.size+1+1;omega) _
 have cz:w5.ownsRow (w3.heap.size+1) 114 4 (.slice a ys.length k) ys.length (ys.flatMap an.cells):=dx ax λ g hg=>by
  rcases ay ax with⟨h1,_⟩|⟨g2,cur,h1,hb,eU⟩
  ·rw[hg]at h1;cases h1
  ·rw[hg]at h1;cases h1
   exact(VB _ ag).T (Ry _ ag)
 obtain⟨gW,hvy,Ck⟩:=ho.same xi hs
 rw[<-hA,<-h5]
 refine⟨⟨(aa hY 0).T rfl,(aa hY 1).T rfl,(aa hY 2).T rfl,ak hY 1,Boxed.cell VC,Boxed.frozen VC,(aa Rz 0).T rfl,(aa Rz 1).T rfl,(aa Rz 2).T rfl⟩,?_⟩
 refine(vg k (ke cz λ y hy=>⟨(r7 y hy).1.below bJ,(r7 y hy).2.1.below bJ⟩) gW hvy none 0).mono ?_
 rintro e w6 ⟨a2,k2,rfl,oN, -,fD,NF⟩
 rw[Ck]at fD⊢
 have Cl:Below w w w6:=bJ.T (NF.mono bJ.size)
 have NG:=(NF.block w (by rw[GL];omega)).T hX5
 have VD:=(NF.block w3 (by rw[GL];omega)).T Rz
 have hK6:Boxed w6 (w.heap.size+1+1) 4 (.bool true):=(NF.block _ (by rw[GL];omega)).T hK5
 have VE:=aq (j:=2) (.slice none 0 0) (aq (j:=1) (.slice a ys.length k) (aq (j:=0) (.bool true) NG))
 refine⟨a2,k2,rfl,af λ c=>?_,af Cl,(aa VD 0).T rfl,(aa VD 1).T rfl,(aa VD 2).T rfl,Boxed.cell hK6,(aa NG 0).T rfl,(aa NG 1).T rfl,(aa NG 2).T rfl,ak NG,af ⟨?_,?_,(aa VE 0).T rfl,(aa VE 1).T rfl,(aa VE 2).T rfl⟩⟩
 ·refine(ug (c:=k2) (d:=c) fD (eZ.below Cl) rfl rfl).mono ?_
  rintro e w7 ⟨rfl,rfl⟩
  exact⟨by simp,rfl⟩
 ·have XT:Below w w (((w6.setCell (za w 0) (.bool true)).setCell (za w 1) (.slice a ys.length k)).setCell (za w 2) (.slice none 0 0)):=((Cl.setCell (p:=(za w 0)) (aW) _).setCell (p:=(za w 1)) (aW) _).setCell (p:=(za w 2)) (aW) _
  refine VA (dx (dx cz λ g hg=>NF.block g ?_) λ g hg=>?_) (aM hd.only.size) λ y hy=>⟨⟨(r7 y hy).1.below XT,(r7 y hy).2.1.below XT⟩,(r7 y hy).1.fresh vW,(r7 y hy).2.1.fresh vW,(r7 y hy).2.2⟩
  ·rcases ay cz with⟨h1,_⟩|⟨g2,cur,h1,hb,eU⟩
   ·rw[hg]at h1;cases h1
   ·rw[hg]at h1;cases h1;exact(aX eU).1
  ·have VF:g≠w.heap.size:=by
    rcases ay cz with⟨h1,_⟩|⟨g2,cur,h1,hb,eU⟩
    ·rw[hg]at h1;cases h1
    ·rw[hg]at h1;cases h1;omega
   exact(Below.heap_setCell _ _ _ _ VF).T ((Below.heap_setCell _ _ _ _ VF).T (Below.heap_setCell _ _ _ _ VF))
 ·exact((Cl.setCell (p:=(za w 0)) (aW) _).setCell (p:=(za w 1)) (aW) _).setCell (p:=(za w 2)) (aW) _
theorem Ef{xs:List an}(n₀:Nat)(vW:n₀<=B)(Cj:n₀<=w.heap.size)(eZ:ai w (some ⟨B,o,none⟩) (bG xs))(ja:(bG xs).length<=c)(ho:jb xs)(xi:∀x∈xs,1<=x.val.length):
 Calls Tryz.prog 125 (jE (some ⟨B,o,none⟩) (bG xs).length c) w λ e w'=>∃(ys:List an) (a:Option Addr) (k:Nat),(ys.map an.key=xs.map an.key/\ys.map an.val=xs.map an.val)/\e= .returned (.tuple (np (.agg (nr a ys.length k))))/\dU w' n₀ a k ys/\Below w w w':=by
 have Kx:=ho.kT
 have hlen:(bG xs).length<=2000:=by
  have:=kU fi 231 xs (λ x hx=>by have:=ho.key x hx;rw[xC];omega)
  have:=Nat.mul_le_mul (Nat.le_refl 231) Kx
  simp only[bG,List.length_cons];omega
 have D0:=af (AU eZ ja ag)
 have Vt:=af eZ
 have HO:=af ho
 have HV:=af xi
 unfold qK Af at D0
 obtain⟨f1,f2,f3,f4⟩:=D0.O.facts
 have HNB:=af vW
 have XX:=af Cj
 clear eZ ja ho xi vW Cj
 go_enter Tryz.func125,Tryz.ntmps125
 go_wp2_with fail
 have D1:=af D0.O.drew
 clear f1 f2 f3 f4 D0
 obtain⟨f1,f2,f3,f4⟩:=D1.O.facts
 generalize lF:World.drew _=W1 at D1 f1 f2 f3 f4
 refine eL 6 (λ w'=>w'.cell? (za (w.heap.size+1+1+1+1) 0)=some (.func (.func 162) #[] (dW (zp (w.heap.size+1+1+1))))) aO (by rw[lF];exact f2) (λ hS=>?_)
 rw[lF]at hS⊢
 clear lF
 have aH:IntKind.i64.wrap (xs.length:Int)=(xs.length:Int):=by rw[IntKind.wrap_i64];omega
 refine tT 0 hS ?_
 refine tT 2 hS ?_
 refine sT 1 λ K hK=>?_
 go_simp
 (with_reducible refine(D1.O.qu [1] 1 rfl aR).mono ?_);rintro e w2 ⟨rfl,hd⟩;rw[show numOf [1]=1 by decide];have D2:=af hd;clear f1 f2 f3 f4;obtain⟨f1,f2,f3,f4⟩:=hd.facts;clear hd
 refine bF hK ?_ (λ hS=>?_)
 ·exact f2
 clear hK K
 refine sT 3 λ K hK=>?_
 go_simp
 (with_reducible refine(D2.O.qu [xs.length] 1 rfl aR).mono ?_);rintro e w3 ⟨rfl,hd⟩;rw[mR];have D3:=af hd;clear f1 f2 f3 f4;obtain⟨f1,f2,f3,f4⟩:=hd.facts;clear hd
 refine bF hK ?_ (λ hS=>?_)
 ·exact f2
 clear hK K
 refine tT 4 hS ?_
 refine tT 5 hS ?_
 refine sT 6 λ K hK=>?_
 go_simp
 refine iM hK ?_
 clear hK K
 refine fC aO ?_ _
 have VG:Hid (Calls Tryz.prog 163 (QU xs.length (.func (.func 164) #[] (xa (zp (w.heap.size+1+1+1)) (zp (w.heap.size+1+1+1+1)) (zp (w.heap.size+1+1))))) (w3.alloc (.cells J4 169)) λ e w4=>∃(ys:List an) (a:Option Addr) (k:Nat),Hid (ys.map an.key=xs.map an.key/\ys.map an.val=xs.map an.val)/\Hid (ys.length=xs.length)/\e= .returned (.tuple #[.slice a ys.length k,.bool true])/\Hid (w4.ownsRow (w3.heap.size+1) 114 4 (.slice a ys.length k) ys.length (ys.flatMap an.cells))/\Hid (∀y∈ys,cE ⟨w,B⟩ y.ka y.key/\(cE ⟨w,B⟩ y.va y.val/\y.vc=y.val.length))/\Hid (bm (w.heap.size+1) (w3.alloc (.cells J4 169)) w4)):=af (by
  have iL:Below w3 w3 (w3.alloc (.cells J4 169)):=(dp).alloc (aW) _
  have hd:=D3.O
  refine(Ch (V:=⟨w,B⟩) xs (hd.rest.below iL) (hd.ok.alloc _) (hd.take.alloc _) (hd.num.alloc _) ⟨hd.ne.1,hd.ne.2.1,hd.ne.2.2.1⟩ (by have:=hlen;simp only[bG,List.length_cons]at this;omega) ag (Nat.le_succ _) ((hd.only.below (Nat.le_succ _) (aW)).T (iL.mono (aM hd.only.size)))).mono ?_
  rintro e w4 ⟨ys,a,k,dm,fZ,rfl,ax,r7, -,o8⟩
  rw[World.size_alloc]at ax
  exact⟨ys,a,k,af ⟨dm,fZ⟩,af (by have:=congrArg List.length dm;simpa using this),rfl,af ax,af r7,af o8⟩)
 have abT:min (xs.length:Int) 7=(xs.length:Int):=ag
 go_wp2_with first
  |((with_reducible refine VG.O.mono ?_);rintro e w4 ⟨ys,a,k,jX,r6,rfl,ax,r7,o8⟩
    have ZF:=af (ND (a:=a) (k:=k) n₀ HNB.O XX.O D3.O o8.O ax.O HO.O HV.O jX.O r6.O r7.O Vt.O)
    clear ax r7 o8
    obtain⟨y0,y1,y2,yf,k0,kf,z0,z1,z2⟩:=ZF.O.1)
  |((with_reducible refine ZF.O.2.mono ?_);rintro e w6 ⟨a2,k2,rfl,ZG,jY,c0,c1,c2,c3,c4,c5,c6,cf,eJ⟩)
  |((with_reducible refine(ZG.O c).mono ?_);rintro e w7 ⟨rfl,rfl⟩)
  |fail
 refine bodyPost_ret (v:=.tuple (np (.agg (nr a ys.length k)))) ?_ (by rfl) ⟨ys,a,k,jX.O,rfl,eJ.O.1,eJ.O.2.1⟩
 obtain⟨s0,s1,s2⟩:=eJ.O.2.2
 rw[results_cell_tmp rfl]
 go_simp
theorem dt.same{xs ys:List aw}(ho:dt xs)(hs:ys.map aw.key=xs.map aw.key/\ys.map aw.at_=xs.map aw.at_/\ys.map aw.count=xs.map aw.count):dt ys/\bf ys=bf xs:=by
 have hlen:ys.length=xs.length:=by have:=congrArg List.length hs.1;simpa using this
 have Cg:∀y∈ys,∃x∈xs,y.key=x.key/\y.at_=x.at_/\y.count=x.count:= λ y hy=>by
  obtain⟨j,hj⟩:=List.mem_iff_getElem?.1 hy
  have h1:=congrArg (λ l=>l[j]?) hs.1
  have h2:=congrArg (λ l=>l[j]?) hs.2.1
  have h3:=congrArg (λ l=>l[j]?) hs.2.2
  simp only[List.getElem?_map,hj,Option.map_some]at h1 h2 h3
  cases hx:xs[j]? with
  |none=>rw[hx]at h1;cases h1
  |some x=>
   rw[hx]at h1 h2 h3
   exact⟨x,List.mem_of_getElem? hx,by simpa using h1,by simpa using h2,by simpa using h3⟩
 refine⟨⟨by have:=ho.DR;omega,by have:=ho.kT;omega, λ y hy=>?_,by rw[hs.1];exact ho.oW⟩,?_⟩
 ·obtain⟨x,hx,h1,h2,h3⟩:=Cg y hy
  rw[h1,h2,h3];exact ho.key x hx
 ·unfold bf
  rw[hlen,AT xs ys hs.1 hs.2.1 hs.2.2]
theorem NH{xs ys:List aw}(n₀:Nat)(vW:n₀<=B)(Cj:n₀<=w.heap.size)(hd:vj ⟨w,B⟩ w w3 (w.heap.size+1) (w.heap.size+1+1) (w.heap.size+1+1+1) (w.heap.size+1+1+1+1) w.heap.size rest eD 169 [])
 (o8:bm (w.heap.size+1) (w3.alloc (.cells eD 169)) w4)(ax:w4.ownsRow (w3.heap.size+1) 175 8 (.slice a ys.length k) ys.length (ys.flatMap aw.cells))(ho:dt xs)(xi:True)(hs:ys.map aw.key=xs.map aw.key/\ys.map aw.at_=xs.map aw.at_/\ys.map aw.count=xs.map aw.count)(r6:ys.length=xs.length)(r7:∀y∈ys,cE ⟨w,B⟩ y.ka y.key)(eZ:ai w (some ⟨B,o,none⟩) (bf xs)):
 (w4.cell? (za w3 0)=some (.bool false)/\w4.cell? (za w3 1)=some (.slice none 0 0)/\w4.cell? (za w3 2)=some (.slice none 0 0)/\w4.frozen? ⟨w3.heap.size,2,none⟩=false/\
   (w4.setCell (za w3 2) (.slice a ys.length k)).cell? (za (w.heap.size+1+1) 0)=some (.bool true)/\(w4.setCell (za w3 2) (.slice a ys.length k)).frozen? ⟨w.heap.size+1+1,0,none⟩=false/\
   ((w4.setCell (za w3 2) (.slice a ys.length k)).setCell (za (w.heap.size+1+1) 0) (.bool true)).cell? (za w3 0)=some (.bool false)/\((w4.setCell (za w3 2) (.slice a ys.length k)).setCell (za (w.heap.size+1+1) 0) (.bool true)).cell? (za w3 1)=some (.slice none 0 0)/\((w4.setCell (za w3 2) (.slice a ys.length k)).setCell (za (w.heap.size+1+1) 0) (.bool true)).cell? (za w3 2)=some (.slice a ys.length k))/\
 Calls Tryz.prog 167 (Gi (.agg (mB a ys.length k))) ((w4.setCell (za w3 2) (.slice a ys.length k)).setCell (za (w.heap.size+1+1) 0) (.bool true)) λ e w6=>∃a2 k2,e= .returned (.tuple (BH a2 (bf xs).length k2))/\
  Hid (∀c:Nat,Calls Tryz.prog 104 (jF a2 (bf xs).length k2 (some ⟨B,o,none⟩) (bf xs).length c) w6 λ e w7=>e= .returned (.bool true)/\w6=w7)/\Hid (Below w w w6)/\
  w6.cell? (za w3 0)=some (.bool false)/\w6.cell? (za w3 1)=some (.slice none 0 0)/\w6.cell? (za w3 2)=some (.slice a ys.length k)/\w6.cell? (za (w.heap.size+1+1) 0)=some (.bool true)/\
  w6.cell? (za w 0)=some (.bool false)/\w6.cell? (za w 1)=some (.slice none 0 0)/\w6.cell? (za w 2)=some (.slice none 0 0)/\(∀j,w6.frozen? ⟨w.heap.size,j,none⟩=false)/\
  Hid (fm (((w6.setCell (za w 0) (.bool false)).setCell (za w 1) (.slice none 0 0)).setCell (za w 2) (.slice a ys.length k)) n₀ a k ys/\Below w w (((w6.setCell (za w 0) (.bool false)).setCell (za w 1) (.slice none 0 0)).setCell (za w 2) (.slice a ys.length k))/\(((w6.setCell (za w 0) (.bool false)).setCell (za w 1) (.slice none 0 0)).setCell (za w 2) (.slice a ys.length k)).cell? (za w 0)=some (.bool false)/\(((w6.setCell (za w 0) (.bool false)).setCell (za w 1) (.slice none 0 0)).setCell (za w 2) (.slice a ys.length k)).cell? (za w 1)=some (.slice none 0 0)/\(((w6.setCell (za w 0) (.bool false)).setCell (za w 1) (.slice none 0 0)).setCell (za w 2) (.slice a ys.length k)).cell? (za w 2)=some (.slice a ys.length k)):=by
 have hN:=hd.num.lt
 have s3:w3.heap.size+1<=w4.heap.size:=by have:=o8.size;simpa using this
 have hY:w4.heap[w3.heap.size]? =some (.cells eD 169):=(o8.block _ aR ag).T (World.alloc_heap_new w3 _)
 have hK:Boxed w4 (w.heap.size+1+1) 4 (.bool true):=o8.boxed (hd.ok.alloc _) ag
 have hX:w4.heap[w.heap.size]? =some (.cells eD 169):=(o8.block _ bV ag).T ((Below.heap_alloc _ _ _ ag).T hd.x)
 obtain⟨wA,hA⟩:=aK (w4.setCell (za w3 2) (.slice a ys.length k))
 obtain⟨w5,h5⟩:=aK (wA.setCell (za (w.heap.size+1+1) 0) (.bool true))
 have Ry:∀j,j≠w3.heap.size->wA.heap[j]? =w4.heap[j]? := λ j hj=>by rw[hA];exact Below.heap_setCell w4 ⟨w3.heap.size,2,none⟩ _ j hj
 have VB:∀j,j≠w.heap.size+1+1->w5.heap[j]? =wA.heap[j]? := λ j hj=>by rw[h5];exact Below.heap_setCell wA ⟨w.heap.size+1+1,0,none⟩ _ j hj
 have hYA:wA.heap[w3.heap.size]? =some (.cells (mB a ys.length k) 169):=by rw[hA];simpa using aq (j:=2) (.slice a ys.length k) hY
 have VC:Boxed wA (w.heap.size+1+1) 4 (.bool true):=(Ry _ ag).T hK
 have Rz:=(VB w3.heap.size ag).T hYA
 have hK5:Boxed w5 (w.heap.size+1+1) 4 (.bool true):=by rw[h5];exact Boxed.set _ VC
 have hX5:=(VB w.heap.size ag).T ((Ry w.heap.size ag).T hX)
 have GL:w5.heap.size=w4.heap.size:=by rw[h5,hA];simp
 have aL:Below w w w3:=hd.only.below (Nat.le_succ _) (aW)
 have bH:Below w w w4:=(aL.alloc ag (.cells eD 169)).T (o8.below (Nat.le_succ _) bV)
 have bJ:Below w w w5:=by
  rw[h5,hA]
  exact(bH.setCell (p:=(za w3 2)) (by show _<=w3.heap.size;omega) _).setCell (p:=(za (w.heap.size+1+1) 0)) (by show _<=w.heap.size+1+1;omega) _
 have cz:w5.ownsRow (w3.heap.size+1) 175 8 (.slice a ys.length k) ys.length (ys.flatMap aw.cells):=dx ax λ g hg=>by
  rcases ay ax with⟨h1,_⟩|⟨g2,cur,h1,hb,eU⟩
  ·rw[hg]at h1;cases h1
  ·rw[hg]at h1;cases h1
   exact(VB _ ag).T (Ry _ ag)
 obtain⟨gW,Ck⟩:=ho.same hs
 rw[<-hA,<-h5]
 refine⟨⟨(aa hY 0).T rfl,(aa hY 1).T rfl,(aa hY 2).T rfl,ak hY 2,Boxed.cell VC,Boxed.frozen VC,(aa Rz 0).T rfl,(aa Rz 1).T rfl,(aa Rz 2).T rfl⟩,?_⟩
 refine(sE k (vk cz λ y hy=>(r7 y hy).below bJ) gW none 0).mono ?_
 rintro e w6 ⟨a2,k2,rfl,oN, -,fD,NF⟩
 rw[Ck]at fD⊢
 have Cl:Below w w w6:=bJ.T (NF.mono bJ.size)
 have NG:=(NF.block w (by rw[GL];omega)).T hX5
 have VD:=(NF.block w3 (by rw[GL];omega)).T Rz
 have hK6:Boxed w6 (w.heap.size+1+1) 4 (.bool true):=(NF.block _ (by rw[GL];omega)).T hK5
 have VE:=aq (j:=2) (.slice a ys.length k) (aq (j:=1) (.slice none 0 0) (aq (j:=0) (.bool false) NG))
 refine⟨a2,k2,rfl,af λ c=>?_,af Cl,(aa VD 0).T rfl,(aa VD 1).T rfl,(aa VD 2).T rfl,Boxed.cell hK6,(aa NG 0).T rfl,(aa NG 1).T rfl,(aa NG 2).T rfl,ak NG,af ⟨?_,?_,(aa VE 0).T rfl,(aa VE 1).T rfl,(aa VE 2).T rfl⟩⟩
 ·refine(ug (c:=k2) (d:=c) fD (eZ.below Cl) rfl rfl).mono ?_
  rintro e w7 ⟨rfl,rfl⟩
  exact⟨by simp,rfl⟩
 ·have XT:Below w w (((w6.setCell (za w 0) (.bool false)).setCell (za w 1) (.slice none 0 0)).setCell (za w 2) (.slice a ys.length k)):=((Cl.setCell (p:=(za w 0)) (aW) _).setCell (p:=(za w 1)) (aW) _).setCell (p:=(za w 2)) (aW) _
  refine ZE (dx (dx cz λ g hg=>NF.block g ?_) λ g hg=>?_) (aM hd.only.size) λ y hy=>⟨(r7 y hy).below XT,(r7 y hy).fresh vW⟩
  ·rcases ay cz with⟨h1,_⟩|⟨g2,cur,h1,hb,eU⟩
   ·rw[hg]at h1;cases h1
   ·rw[hg]at h1;cases h1;exact(aX eU).1
  ·have VF:g≠w.heap.size:=by
    rcases ay cz with⟨h1,_⟩|⟨g2,cur,h1,hb,eU⟩
    ·rw[hg]at h1;cases h1
    ·rw[hg]at h1;cases h1;omega
   exact(Below.heap_setCell _ _ _ _ VF).T ((Below.heap_setCell _ _ _ _ VF).T (Below.heap_setCell _ _ _ _ VF))
 ·exact((Cl.setCell (p:=(za w 0)) (aW) _).setCell (p:=(za w 1)) (aW) _).setCell (p:=(za w 2)) (aW) _
theorem Cm{xs:List aw}(n₀:Nat)(vW:n₀<=B)(Cj:n₀<=w.heap.size)(eZ:ai w (some ⟨B,o,none⟩) (bf xs))(ja:(bf xs).length<=c)(ho:dt xs):
 Calls Tryz.prog 125 (jE (some ⟨B,o,none⟩) (bf xs).length c) w λ e w'=>∃(ys:List aw) (a:Option Addr) (k:Nat),(ys.map aw.key=xs.map aw.key/\ys.map aw.at_=xs.map aw.at_/\ys.map aw.count=xs.map aw.count)/\e= .returned (.tuple (np (.agg (mB a ys.length k))))/\fm w' n₀ a k ys/\Below w w w':=by
 have Kx:=ho.kT
 have hlen:(bf xs).length<=2000:=by
  have:=kU fw 165 xs (λ x hx=>by have:=ho.key x hx;rw[xD];omega)
  have:=Nat.mul_le_mul (Nat.le_refl 165) Kx
  simp only[bf,List.length_cons];omega
 have D0:=af (AU eZ ja ag)
 have Vt:=af eZ
 have HO:=af ho
 have HV:=af trivial
 unfold qK Af at D0
 obtain⟨f1,f2,f3,f4⟩:=D0.O.facts
 have HNB:=af vW
 have XX:=af Cj
 clear eZ ja ho vW Cj
 go_enter Tryz.func125,Tryz.ntmps125
 go_wp2_with fail
 have D1:=af D0.O.drew
 clear f1 f2 f3 f4 D0
 obtain⟨f1,f2,f3,f4⟩:=D1.O.facts
 generalize lF:World.drew _=W1 at D1 f1 f2 f3 f4
 refine eL 6 (λ w'=>w'.cell? (za (w.heap.size+1+1+1+1) 0)=some (.func (.func 162) #[] (dW (zp (w.heap.size+1+1+1))))) aO (by rw[lF];exact f2) (λ hS=>?_)
 rw[lF]at hS⊢
 clear lF
 have aH:IntKind.i64.wrap (xs.length:Int)=(xs.length:Int):=by rw[IntKind.wrap_i64];omega
 refine tT 0 hS ?_
 refine tT 2 hS ?_
 refine sT 1 λ K hK=>?_
 go_simp
 (with_reducible refine(D1.O.qu [2] 1 rfl aR).mono ?_);rintro e w2 ⟨rfl,hd⟩;rw[show numOf [2]=2 by decide];have D2:=af hd;clear f1 f2 f3 f4;obtain⟨f1,f2,f3,f4⟩:=hd.facts;clear hd
 refine bF hK ?_ (λ hS=>?_)
 ·exact f2
 clear hK K
 refine sT 3 λ K hK=>?_
 go_simp
 (with_reducible refine(D2.O.qu [xs.length] 1 rfl aR).mono ?_);rintro e w3 ⟨rfl,hd⟩;rw[mR];have D3:=af hd;clear f1 f2 f3 f4;obtain⟨f1,f2,f3,f4⟩:=hd.facts;clear hd
 refine bF hK ?_ (λ hS=>?_)
 ·exact f2
 clear hK K
 refine tT 4 hS ?_
 refine tT 5 hS ?_
 refine sT 6 λ K hK=>?_
 go_simp
 refine iM hK ?_
 clear hK K
 refine fC aO ?_ _
 have VG:Hid (Calls Tryz.prog 165 (QU xs.length (.func (.func 166) #[] (xa (zp (w.heap.size+1+1+1)) (zp (w.heap.size+1+1+1+1)) (zp (w.heap.size+1+1))))) (w3.alloc (.cells eD 169)) λ e w4=>∃(ys:List aw) (a:Option Addr) (k:Nat),Hid (ys.map aw.key=xs.map aw.key/\ys.map aw.at_=xs.map aw.at_/\ys.map aw.count=xs.map aw.count)/\Hid (ys.length=xs.length)/\e= .returned (.tuple #[.slice a ys.length k,.bool true])/\Hid (w4.ownsRow (w3.heap.size+1) 175 8 (.slice a ys.length k) ys.length (ys.flatMap aw.cells))/\Hid (∀y∈ys,cE ⟨w,B⟩ y.ka y.key)/\Hid (bm (w.heap.size+1) (w3.alloc (.cells eD 169)) w4)):=af (by
  have iL:Below w3 w3 (w3.alloc (.cells eD 169)):=(dp).alloc (aW) _
  have hd:=D3.O
  refine(Ag (V:=⟨w,B⟩) xs (hd.rest.below iL) (hd.ok.alloc _) (hd.take.alloc _) (hd.num.alloc _) ⟨hd.ne.1,hd.ne.2.1,hd.ne.2.2.1⟩ (by have:=hlen;simp only[bf,List.length_cons]at this;omega) ag (Nat.le_succ _) ((hd.only.below (Nat.le_succ _) (aW)).T (iL.mono (aM hd.only.size))) (λ x hx=>aM (HO.O.key x hx))).mono ?_
  rintro e w4 ⟨ys,a,k,dm,fZ,iU,rfl,ax,r7, -,o8⟩
  rw[World.size_alloc]at ax
  exact⟨ys,a,k,af ⟨dm,fZ,iU⟩,af (by have:=congrArg List.length dm;simpa using this),rfl,af ax,af r7,af o8⟩)
 have abT:min (xs.length:Int) 7=(xs.length:Int):=ag
 go_wp2_with first
  |((with_reducible refine VG.O.mono ?_);rintro e w4 ⟨ys,a,k,jX,r6,rfl,ax,r7,o8⟩
    have ZF:=af (NH (a:=a) (k:=k) n₀ HNB.O XX.O D3.O o8.O ax.O HO.O HV.O jX.O r6.O r7.O Vt.O)
    clear ax r7 o8
    obtain⟨y0,y1,y2,yf,k0,kf,z0,z1,z2⟩:=ZF.O.1)
  |((with_reducible refine ZF.O.2.mono ?_);rintro e w6 ⟨a2,k2,rfl,ZG,jY,c0,c1,c2,c3,c4,c5,c6,cf,eJ⟩)
  |((with_reducible refine(ZG.O c).mono ?_);rintro e w7 ⟨rfl,rfl⟩)
  |fail
 refine bodyPost_ret (v:=.tuple (np (.agg (mB a ys.length k)))) ?_ (by rfl) ⟨ys,a,k,jX.O,rfl,eJ.O.1,eJ.O.2.1⟩
 obtain⟨s0,s1,s2⟩:=eJ.O.2.2
 rw[results_cell_tmp rfl]
 go_simp
theorem rp(h:ai W a xs)(h1:1<=xs.length):∃B o,a=some ⟨B,o,none⟩:=by
 rcases h.2 with h0|⟨B,o,e,_⟩
 ·rw[h0]at h1;simp at h1
 ·exact⟨B,o,e⟩
theorem AV{u:TypeId}{ds:Array Value}(h:Below ((w.alloc (.cells (cK b k c) t)).alloc (.cells ds u)).heap.size ((w.alloc (.cells (cK b k c) t)).alloc (.cells ds u)) w2):w2.heap[w.heap.size+1]? =some (.cells ds u):=(aS h).2
theorem rq{a0 a1 a2:Value}{fz:Nat×Nat}(h:W.heap[R]? =some (.cells #[a0,a1,a2] t fz)):(((W.setCell (za R 0) v0).setCell (za R 1) v1).setCell (za R 2) v2).heap[R]? =some (.cells #[v0,v1,v2] t fz):=by
 simpa using aq (j:=2) v2 (aq (j:=1) v1 (aq (j:=0) v0 h))
theorem gC(j:Nat)(hj:j≠R):(((W.setCell (za R 0) v0).setCell (za R 1) v1).setCell (za R 2) v2).heap[j]? =W.heap[j]? :=
 (Below.heap_setCell _ ⟨R,2,none⟩ v2 j hj).T ((Below.heap_setCell _ ⟨R,1,none⟩ v1 j hj).T (Below.heap_setCell W ⟨R,0,none⟩ v0 j hj))
theorem fN(h:n₀<=R):Below n₀ W (((W.setCell (za R 0) v0).setCell (za R 1) v1).setCell (za R 2) v2):=
 (((Below.refl n₀ W).setCell (p:=(za R 0)) h _).setCell (p:=(za R 1)) h _).setCell (p:=(za R 2)) h _
theorem Ky(hF:au w b c ps)(hm:Marks (al ps))(at_:Nat){xs:List an}(hr:dO (al ps) at_ (bG xs))(ho:jb xs)(xi:∀x∈xs,1<=x.val.length):
 Calls Tryz.prog 101 #[aE b ps.length c,.int .i64 (at_:Int),.int .i64 0] w λ e w'=>∃(ys:List an) (a:Option Addr) (k:Nat),(ys.map an.key=xs.map an.key/\ys.map an.val=xs.map an.val)/\e= .returned (.tuple (np (.agg (nr a ys.length k))))/\dU w' w.heap.size a k ys/\Below w w w':=by
 have HG:=af λ (w2:World) (hb:Below w w w2)=>B6 (hF.below hb) hm at_ _ hr
 have Eg:=af λ (w2:World) (B o k:Nat) (hb:ai w2 (some ⟨B,o,none⟩) (bG xs)) (hk:(bG xs).length<=k) (hB:w.heap.size<=B) (hw:w.heap.size<=w2.heap.size)=>Ef w.heap.size hB hw hb hk ho xi
 have h1:Hid (1<=(bG xs).length):=af hr.1
 have ei:Hid (Below w w ((w.alloc (.cells (cK b ps.length c) 37)).alloc (.cells eD 169))):=af (by go_grown)
 have hD:decide ((0:Int)<0)=false:=by decide
 unfold aE at*
 clear hF hm hr ho xi
 go_enter Tryz.func101,Tryz.ntmps101
 go_wp2_with first
  |((with_reducible refine(HG.O _ ei.O).mono ?_);rintro e w3 ⟨a3,k3,z,rfl,fY,kK,eZ,aL⟩
    have bA:=af (ei.O.T (aL.mono ei.O.size))
    obtain⟨C,o,rfl⟩:=rp eZ h1.O
    have HX:=af (AV aL)
    have HD:=af (Eg.O _ _ _ _ eZ fY (Nat.le_trans ei.O.size (kK _ rfl)) bA.O.size)
    clear aL eZ fY kK)
  |((with_reducible refine HD.O.mono ?_);rintro e w4 ⟨ys,a,k,hs,rfl,oP,bH⟩
    have iJ:=af (bA.O.T (bH.mono bA.O.size))
    have lz:=(bH.block _ (aX HX.O).1).T HX.O
    have Eh:Hid ((w4.alloc (.cells (nr a ys.length k) 169)).heap[w.heap.size+1]? =some (.cells eD 169)):=af ((Below.heap_alloc _ _ _ (aX lz).1).T lz)
    have HI:=af (oP.below ((Below.refl _ w4).alloc (aW) (.cells (nr a ys.length k) 169)))
    have Ae:=af hs
    have x0:=(aa Eh.O 0).T rfl
    have x1:=(aa Eh.O 1).T rfl
    have x2:=(aa Eh.O 2).T rfl
    have xf:=ak Eh.O
    simp only[aD]at x0 x1 x2
    clear oP bH lz hs)
  |fail
 refine bodyPost_ret (v:=.tuple (np (.agg (nr a ys.length k)))) ?_ (by rfl) ⟨ys,a,k,Ae.O,rfl,HI.O.AR (λ j hj=>gC j hj) Eh.O bd (by intro j x;rcases j with _|_|_|j<;>simp),(iJ.O.alloc iJ.O.size _).T (fN (Nat.le_succ _))⟩
 have s0:=(aa (rq (v0:=.bool true) (v1:=.slice a ys.length k) (v2:=.slice none 0 0) Eh.O) 0).T rfl
 have s1:=(aa (rq (v0:=.bool true) (v1:=.slice a ys.length k) (v2:=.slice none 0 0) Eh.O) 1).T rfl
 have s2:=(aa (rq (v0:=.bool true) (v1:=.slice a ys.length k) (v2:=.slice none 0 0) Eh.O) 2).T rfl
 simp only[aD]at s0 s1 s2
 rw[results_cell_tmp rfl]
 go_simp
theorem GM(hF:au w b c ps)(hm:Marks (al ps))(at_:Nat)(d:Nat)(hd0:1<=d){xs:List aw}(hr:dO (al ps) at_ (bf xs))(ho:dt xs):
 Calls Tryz.prog 101 #[aE b ps.length c,.int .i64 (at_:Int),.int .i64 (d:Int)] w λ e w'=>∃(ys:List aw) (a:Option Addr) (k:Nat),(ys.map aw.key=xs.map aw.key/\ys.map aw.at_=xs.map aw.at_/\ys.map aw.count=xs.map aw.count)/\e= .returned (.tuple (np (.agg (mB a ys.length k))))/\fm w' w.heap.size a k ys/\Below w w w':=by
 have HG:=af λ (w2:World) (hb:Below w w w2)=>B6 (hF.below hb) hm at_ _ hr
 have Eg:=af λ (w2:World) (B o k:Nat) (hb:ai w2 (some ⟨B,o,none⟩) (bf xs)) (hk:(bf xs).length<=k) (hB:w.heap.size<=B) (hw:w.heap.size<=w2.heap.size)=>Cm w.heap.size hB hw hb hk ho
 have h1:Hid (1<=(bf xs).length):=af hr.1
 have ei:Hid (Below w w ((w.alloc (.cells (cK b ps.length c) 37)).alloc (.cells eD 169))):=af (by go_grown)
 have hD:decide ((d:Int)<0)=false:=by simp
 have hD2:((d:Int)==0)=false:=bV
 unfold aE at*
 clear hF hm hr ho
 go_enter Tryz.func101,Tryz.ntmps101
 go_wp2_with first
  |((with_reducible refine(HG.O _ ei.O).mono ?_);rintro e w3 ⟨a3,k3,z,rfl,fY,kK,eZ,aL⟩
    have bA:=af (ei.O.T (aL.mono ei.O.size))
    obtain⟨C,o,rfl⟩:=rp eZ h1.O
    have HX:=af (AV aL)
    have HD:=af (Eg.O _ _ _ _ eZ fY (Nat.le_trans ei.O.size (kK _ rfl)) bA.O.size)
    clear aL eZ fY kK)
  |((with_reducible refine HD.O.mono ?_);rintro e w4 ⟨ys,a,k,hs,rfl,oP,bH⟩
    have iJ:=af (bA.O.T (bH.mono bA.O.size))
    have lz:=(bH.block _ (aX HX.O).1).T HX.O
    have Eh:Hid ((w4.alloc (.cells (mB a ys.length k) 169)).heap[w.heap.size+1]? =some (.cells eD 169)):=af ((Below.heap_alloc _ _ _ (aX lz).1).T lz)
    have HI:=af (oP.below ((Below.refl _ w4).alloc (aW) (.cells (mB a ys.length k) 169)))
    have Ae:=af hs
    have x0:=(aa Eh.O 0).T rfl
    have x1:=(aa Eh.O 1).T rfl
    have x2:=(aa Eh.O 2).T rfl
    have xf:=ak Eh.O
    simp only[aD]at x0 x1 x2
    clear oP bH lz hs)
  |fail
 refine bodyPost_ret (v:=.tuple (np (.agg (mB a ys.length k)))) ?_ (by rfl) ⟨ys,a,k,Ae.O,rfl,HI.O.AR (λ j hj=>gC j hj) Eh.O bd (by intro j x;rcases j with _|_|_|j<;>simp),(iJ.O.alloc iJ.O.size _).T (fN (Nat.le_succ _))⟩
 have s0:=(aa (rq (v0:=.bool false) (v1:=.slice none 0 0) (v2:=.slice a ys.length k) Eh.O) 0).T rfl
 have s1:=(aa (rq (v0:=.bool false) (v1:=.slice none 0 0) (v2:=.slice a ys.length k) Eh.O) 1).T rfl
 have s2:=(aa (rq (v0:=.bool false) (v1:=.slice none 0 0) (v2:=.slice a ys.length k) Eh.O) 2).T rfl
 simp only[aD]at s0 s1 s2
 rw[results_cell_tmp rfl]
 go_simp
end
end Go.Proofs.YtkgapncajjafoaaGreatDoor

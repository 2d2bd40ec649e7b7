/- The store, part 23. -/
import Derived.Test.YtkgapncajjafoaaGreatDoorMAa
import Derived.Test.YtkgapncajjafoaaGreatDoorMAu
import Derived.Test.YtkgapncajjafoaaGreatDoorMAs
import Derived.Test.YtkgapncajjafoaaGreatDoorMAk
import Derived.Test.YtkgapncajjafoaaGreatDoorMAl
set_option maxRecDepth 100000
set_option maxHeartbeats 16000000
namespace Go.Proofs.YtkgapncajjafoaaGreatDoor
open Go.RowKit Go.Shelf
variable{x:aG}{es l F:List aG}{i j M n:Nat}{W:World}
theorem iR.last{l:List gr}{s:lG}(h:iR l s):s.es=[]\/∃p x,s.es=p++[x]/\x.s=s.q:=by
 induction h with
 |nil=>exact .inl rfl
 |snoc h1 h2 ih=>
  rcases h2.2 with⟨_,h3,x,_,h5,_,h7⟩|⟨_,h3⟩
  ·exact .inr ⟨_,x,h7,h5⟩
  ·rw[h3];exact ih
theorem vK.s1{all:List Nat}{q:Nat}(h:vK all q x):1<=x.s:=Nat.le_trans h.info.g1 h.gs
theorem aeu{A D:List aG}(hr:(A++D).Pairwise λ x y=>x.s<y.s)(h1:∀x∈A++D,1<=x.s):(A++D).filter (λ y=>decide (j5 0 A<y.s))=D:=by
 rw[List.filter_append]
 rw[List.pairwise_append]at hr
 rcases og A with rfl|⟨p,x,rfl⟩
 ·rw[List.filter_nil,List.nil_append,List.filter_eq_self]
  intro y hy
  exact decide_eq_true (h1 y (by simpa using hy))
 ·have hl:j5 0 (p++[x])=x.s:=by simp[j5]
  rw[hl]
  have e1:(p++[x]).filter (λ y=>decide (x.s<y.s))=[]:=by
   rw[List.filter_eq_nil_iff]
   intro y hy
   have h2:=hr.1
   rw[List.pairwise_append]at h2
   rcases List.mem_append.1 hy with h|h
   ·have:=h2.2.2 y h x aR
    simp;omega
   ·rw[List.mem_singleton]at h;rw[h];simp
  have e2:D.filter (λ y=>decide (x.s<y.s))=D:=by
   rw[List.filter_eq_self]
   intro y hy
   exact decide_eq_true (hr.2.2 x aR y hy)
  rw[e1,e2,List.nil_append]
theorem afg(hr:es.Pairwise λ x y=>x.s<y.s)(h1:∀x∈es,1<=x.s)(j:Nat)(n:Int):eS es (j5 0 (es.take j)) n=(es.drop j).take n.toNat:=by
 have h:=aeu (A:=es.take j) (D:=es.drop j) (by rw[List.take_append_drop];exact hr) (by rw[List.take_append_drop];exact h1)
 rw[List.take_append_drop]at h
 unfold eS
 rw[h]
def kvW(x:aG):Value×Value:=(.string (aU x.id),.int .i64 1)
theorem aeq:∀p∈l.map kvW,Go.MapKept.IsKey .string p.1:= λ p hp=>by
 obtain⟨x,_,rfl⟩:=List.mem_map.1 hp;trivial
theorem afw(ha:es.Pairwise λ x y=>x.id≠y.id)(hb:∀x∈es,∀y∈x.id,y<256)(hx:es[i]? =some x):∀p∈(es.take i).map kvW,p.1≠.string (aU x.id):= λ p hp e=>by
 obtain⟨y,hy,rfl⟩:=List.mem_map.1 hp
 have e2:aU y.id=aU x.id:=by injection e
 obtain⟨hi,rfl⟩:=List.getElem?_eq_some_iff.1 hx
 have hye:y∈es:=List.mem_of_mem_take hy
 have e3:y.id=(es[i]).id:=by
  rw[<-yH (hb y hye),<-yH (hb _ (List.getElem_mem hi)),e2]
 obtain⟨k,hk,rfl⟩:=List.getElem_of_mem hy
 rw[List.getElem_take]at e3
 have MW:k<i:=by have:=hk;rw[List.length_take]at this;omega
 exact(List.pairwise_iff_getElem.1 ha k i _ hi MW) e3
theorem afc(hx:es[i]? =some x)(hj:i<j):∃p∈(es.take j).map kvW,p.1= .string (aU x.id):=by
 obtain⟨hi,rfl⟩:=List.getElem?_eq_some_iff.1 hx
 refine⟨kvW es[i],List.mem_map.2 ⟨_,List.mem_iff_getElem.2 ⟨i,by rw[List.length_take];omega,by rw[List.getElem_take]⟩,rfl⟩,rfl⟩
theorem aeC{v:Value}:∀p∈l.map kvW,p.1=v->p.2= .int .i64 1:= λ p hp _=>by
 obtain⟨x,_,rfl⟩:=List.mem_map.1 hp;rfl
theorem aed(hx:es[i]? =some x):j5 0 (es.take (i+1))=x.s:=by
 obtain⟨hi,rfl⟩:=List.getElem?_eq_some_iff.1 hx
 have e:es.take (i+1)=es.take i++[es[i]]:=List.take_succ_eq_append_getElem hi
 rw[e];simp only[j5,List.getLast?_append,List.getLast?_singleton,Option.some_or]
theorem aeZ(hr:es.Pairwise λ x y=>x.s<y.s)(h1:∀x∈es,1<=x.s)(hx:es[i]? =some x):j5 0 (es.take i)<x.s:=by
 obtain⟨hi,rfl⟩:=List.getElem?_eq_some_iff.1 hx
 cases i with
 |zero=>exact h1 _ (List.getElem_mem hi)
 |succ i=>
  rw[aed (x:=es[i]) (List.getElem?_eq_getElem ag)]
  exact List.pairwise_iff_getElem.1 hr i (i+1) _ hi ag
theorem aeK{l:List gr}{s:lG}(h:iR l s):s.es.length=0\/j5 0 s.es=s.q:=by
 rcases h.last with h0|⟨p,x,h0,h1⟩
 ·exact .inl (by rw[h0];rfl)
 ·exact .inr (by rw[h0];simp[j5,h1])
theorem aeD(W:World)(M:Nat)(o:Obj):gd (λ j=>j=M) W (W.putObj M o):=
 have g:=grownBy_putObj' W M o
 ⟨g.os,g.tape,g.output,g.size, λ k hk hn=>g.block k hk λ e=>hn (by simpa using e)⟩
theorem aeg{V:World}{a:Option Addr}{xs:List aG}(h:bj eQ 5 W a xs)(hm:∃es c,W.heap[M]? =some (.map es c))(hk:gd (λ j=>j=M) W V):bj eQ 5 V a xs:=by
 rcases h with h|⟨B,o,e,h⟩
 ·exact .inl h
 ·refine .inr ⟨B,o,e, λ j x hx i v hv=>?_⟩
  have h1:=h j x hx i v hv
  have bg:B<W.heap.size:=World.block_lt_of_cell? W _ h1
  have bS:B≠M:= λ e2=>by
   obtain⟨es,c,hm⟩:=hm
   subst e2
   simp[World.cell?,hm]at h1
  exact(World.cell?_of_block (w:=W) (hk.block B bg bS)).T h1
theorem afh{P:Program}{T K E:Nat}{l:List (Value×Value)}(h:l9 W M l)(hT:P.underlying T=some (.map K E))(ty:TypeId):(Builtin.len_ #[T] ty #[.map (some M)]).run P W= .ok (.int .i64 (l.length:Int)) W:=by
 obtain⟨es,c,hb,hl⟩:=h
 subst hl
 simp[Builtin.len_,run_underlying hT,MapKept.run_getObj_map hb,goInt,Result.andThen]
theorem aeL(es:List aG)(j n:Nat):j5 (j5 0 (es.take j)) ((es.drop j).take n)=j5 0 (es.take (j+n)):=by
 rw[<-C2,List.take_add]
theorem afi(h:F=(es.drop j).take n)(hi:i<F.length):F[i]? =es[j+i]? :=by
 have:i<n:=by rw[h,List.length_take]at hi;omega
 rw[h,List.getElem?_take,if_pos this,List.getElem?_drop]
theorem afj{N:Int}(hN:1<=N)(h:[]=(es.drop j).take N.toNat):es.length<=j:=by
 have h1:=congrArg List.length h
 rw[List.length_take,List.length_drop,List.length_nil]at h1
 omega
theorem afk(h:F=(es.drop j).take n)(hj:j<=es.length):j+F.length<=es.length/\es.take (j+n)=es.take (j+F.length):=by
 have h1:=congrArg List.length h
 rw[List.length_take,List.length_drop]at h1
 refine⟨ag,?_⟩
 rcases Nat.lt_or_ge (j+n) es.length with h2|h2
 ·rw[show F.length=n by omega]
 ·rw[List.take_of_length_le h2,List.take_of_length_le ag]
end Go.Proofs.YtkgapncajjafoaaGreatDoor

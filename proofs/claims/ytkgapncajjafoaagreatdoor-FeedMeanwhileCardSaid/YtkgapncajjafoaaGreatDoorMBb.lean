/- The store, part 23. -/
import Derived.Test.YtkgapncajjafoaaGreatDoorMAa
import Derived.Test.YtkgapncajjafoaaGreatDoorMAu
import Derived.Test.YtkgapncajjafoaaGreatDoorMAs
import Derived.Test.YtkgapncajjafoaaGreatDoorMAk
import Derived.Test.YtkgapncajjafoaaGreatDoorMAl
set_option maxRecDepth 100000
set_option maxHeartbeats 16000000
namespace Go.Proofs.YtkgapncajjafoaaGreatDoor
open Go.RowKit Go.Shelf
variable{x:aG}{es l F:List aG}{i j M n:Nat}{W:World}
theorem iR.last{l:List gr}{s:lG}(h:iR l s):s.es=[]\/∃p x,s.es=p++[x]/\x.s=s.q:=by
 induction h with
 |nil=>exact .inl rfl
 |snoc h1 h2 ih=>
  rcases h2.2 with⟨_,h3,x,_,h5,_,h7⟩|⟨_,h3⟩
  ·exact .inr ⟨_,x,h7,h5⟩
  ·rw[h3];exact ih
theorem vK.s1{all:List Nat}{q:Nat}(h:vK all q x):1<=x.s:=Nat.le_trans h.info.g1 h.gs
theorem aeD(W:World)(M:Nat)(o:Obj):gd (λ j=>j=M) W (W.putObj M o):=
 have g:=grownBy_putObj' W M o
 ⟨g.os,g.tape,g.output,g.size, λ k hk hn=>g.block k hk λ e=>hn (by simpa using e)⟩
theorem aeg{V:World}{a:Option Addr}{xs:List aG}(h:bj eQ 5 W a xs)(hm:∃es c,W.heap[M]? =some (.map es c))(hk:gd (λ j=>j=M) W V):bj eQ 5 V a xs:=by
 rcases h with h|⟨B,o,e,h⟩
 ·exact .inl h
 ·refine .inr ⟨B,o,e, λ j x hx i v hv=>?_⟩
  have h1:=h j x hx i v hv
  have bg:B<W.heap.size:=World.block_lt_of_cell? W _ h1
  have bS:B≠M:= λ e2=>by
   obtain⟨es,c,hm⟩:=hm
   subst e2
   simp[World.cell?,hm]at h1
  exact(World.cell?_of_block (w:=W) (hk.block B bg bS)).T h1
end Go.Proofs.YtkgapncajjafoaaGreatDoor

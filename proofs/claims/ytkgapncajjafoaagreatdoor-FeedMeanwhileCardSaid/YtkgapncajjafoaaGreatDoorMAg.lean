/- The store, part 7. -/
import Derived.Test.YtkgapncajjafoaaGreatDoorMAa
import Derived.Test.YtkgapncajjafoaaGreatDoorMAf
import Derived.Deep.MidRow
set_option linter.unusedSimpArgs false
set_option linter.unusedVariables false
set_option maxRecDepth 100000
set_option maxHeartbeats 16000000
namespace Go.Proofs.YtkgapncajjafoaaGreatDoor
open Go.RowKit Go.Shelf
variable{P:Program}{ops:Array Oper}{rest:List Oper}{op:Oper}{a b p q:Option Addr}{W W' w A:World}{Q:Exit -> Act -> World -> Prop}{B o n j n₀ k c e sz m cc Bw x i k' bytes g:Nat}{cs:Array Value}{t TP TS:TypeId}{xs news:List Value}{v' z:Value}{ps:List Piece}{y:an}{r:List an}
section
attribute [local go_sem] Oper.semAt_some
attribute [-go_sem] Builtin.append_
theorem N5(h:Array Obj)(g:Obj->Obj)(x:Obj):(h.push x).modify h.size g=h.push (g x):=by
 apply Array.ext
 ·simp
 ·intro i h1 h2
  rw[Array.getElem_modify,Array.getElem_push,Array.getElem_push]
  by_cases hi:i<h.size
  ·rw[if_neg ag,dif_pos hi,dif_pos hi]
  ·have:i=h.size:=by simp at h2;omega
   subst this
   simp
theorem Ak(W:World)(cs:Array Value)(t:TypeId)(o:Nat)(v:Value):(W.alloc (.cells cs t)).setCell ⟨W.heap.size,o,none⟩ v=W.alloc (.cells (cs.setIfInBounds o v) t):=by
 unfold World.setCell World.alloc
 dsimp only
 rw[N5]
 rfl
theorem pg(W:World)(t:TypeId):∀(vs:List Value) (pre zs:List Value),zs.length=vs.length->(W.alloc (.cells (pre++zs).toArray t)).setCells W.heap.size pre.length vs=W.alloc (.cells (pre++vs).toArray t)
 |[],pre,zs,h=>by
  have:zs=[]:=List.length_eq_zero_iff.1 h
  subst this;rfl
 |v::r,pre,z::zs,h=>by
  rw[World.setCells,Ak]
  have e:(pre++z::zs).toArray.setIfInBounds pre.length v=((pre++[v])++zs).toArray:=by
   rw[List.setIfInBounds_toArray]
   congr 1
   rw[List.set_append_right _ _ (aW),Nat.sub_self,List.set_cons_zero,List.append_assoc];rfl
  rw[e]
  have:=pg W t r (pre++[v]) zs (by simpa using h)
  rw[List.length_append]at this
  rw[show pre.length+1=pre.length+[v].length from rfl,this,List.append_assoc];rfl
 |_::_,_,[],h=>by simp at h
theorem rz(W:World)(t:TypeId)(zs cs:Array Value)(h:zs.size=cs.size):(W.alloc (.cells zs t)).setCells W.heap.size 0 cs.toList=W.alloc (.cells cs t):=by
 have:=pg W t cs.toList [] zs.toList (by simpa using h)
 simpa using this
theorem nG{a:Act}(ty:TypeId)(MA:op.guard=none)(x y:Operand)(ho:op.op= .store ty x y)
 (B:Nat)(zs cells:Array Value)(hx:a.eval x= .pointer (zp B))(hB:B=W.heap.size)(hy:a.eval y= .agg cells)(hz:zs.size=cells.size)(hi:(P.info? ty).map (·.size)=some cells.size)(h1:cells.all (·.oneCell')=true)
 (h:wpList P ops Q rest (a.put op.dst undef) (W.alloc (.cells cells ty))):wpList P ops Q (op::rest) a (W.alloc (.cells zs ty)):=by
 subst hB
 refine wpList_store_mid MA ty x y ho W.heap.size 0 cells hx hy (λ j hj=>?_) hi h1 (by rw[rz W ty zs cells hz];exact h)
 have hn:=World.alloc_heap_new W (.cells zs ty)
 refine⟨?_,ak hn _⟩
 rw[aa hn,Nat.zero_add,Array.getElem?_eq_getElem ag];rfl
def aF(cs:Array Value):Nat->List Value->Array Value
 |_,[]=>cs
 |o,v::r=>aF (cs.setIfInBounds o v) (o+1) r
theorem rA{B:Nat}{t:TypeId}{fz:Nat×Nat}:∀(vs:List Value) (o:Nat) (W:World) (cs:Array Value),W.heap[B]? =some (.cells cs t fz)->(W.setCells B o vs).heap[B]? =some (.cells (aF cs o vs) t fz)
 |[],_,_,_,h=>h
 |v::r,o,_,_,h=>rA r (o+1) _ _ (aq (j:=o) v h)
theorem rB{B:Nat}:∀(vs:List Value) (o:Nat) (W:World) (j:Nat),j≠B->(W.setCells B o vs).heap[j]? =W.heap[j]?
 |[],_,_,_,_=>rfl
 |v::r,o,W,j,hj=>(rB r (o+1) _ j hj).T (Below.heap_setCell W ⟨B,o,none⟩ v j hj)
theorem rC{B n₀:Nat}(hn:n₀<=B):∀(vs:List Value) (o:Nat) (U W:World),Below n₀ U W->Below n₀ U (W.setCells B o vs)
 |[],_,_,_,h=>h
 |v::r,o,U,W,h=>rC hn r (o+1) U _ (h.setCell (p:=⟨B,o,none⟩) hn v)
theorem vt(h:W.heap[B]? =some (.cells cs t))(hn:o+n<=cs.size):W.there B o n:= λ j hj=>⟨by rw[aa h,Array.getElem?_eq_getElem ag];rfl,ak h _⟩
theorem aj{cs:List Value}(h:W.heap[B]? =some (.cells cs.toArray t)):W.rangeAt B 0 cs:= λ j v hv=>by rw[aa h,Nat.zero_add];simpa using hv
theorem VP{a:Act}{K:Act->World->Prop}(ty:TypeId)(x y:Operand)(ho:op.op= .store ty x y)
 (B:Nat)(zs cells:Array Value)(hx:a.eval x= .pointer (zp B))(hB:B=W.heap.size)(hy:a.eval y= .agg cells)(hz:zs.size=cells.size)(hi:(P.info? ty).map (·.size)=some cells.size)(h1:cells.all (·.oneCell')=true)
 (h:K (a.put op.dst undef) (W.alloc (.cells cells ty))):op.wp P a (W.alloc (.cells zs ty)) K Q:=by
 subst hB
 have hn:=World.alloc_heap_new W (.cells zs ty)
 refine wp_store_mid ty x y ho W.heap.size 0 cells hx hy (λ j hj=>⟨?_,ak hn _⟩) hi h1 (by rw[rz W ty zs cells hz];exact h)
 rw[aa hn,Nat.zero_add,Array.getElem?_eq_getElem ag];rfl
theorem aP{a:Act}(ty:TypeId)(MA:op.guard=none)(x y:Operand)(ho:op.op= .store ty x y)
 (B o:Nat)(cs cells:Array Value)(t:TypeId)(hx:a.eval x= .pointer (some ⟨B,o,none⟩))(hy:a.eval y= .agg cells)(hB:W.heap[B]? =some (.cells cs t))(hz:o+cells.size<=cs.size)(hi:(P.info? ty).map (·.size)=some cells.size)(h1:cells.all (·.oneCell')=true)
 (h:∀W',W'.heap[B]? =some (.cells (aF cs o cells.toList) t)->(∀j,j≠B->W'.heap[j]? =W.heap[j]?)->(∀n U,n<=B->Below n U W->Below n U W')->wpList P ops Q rest (a.put op.dst undef) W'):wpList P ops Q (op::rest) a W:=
 wpList_store_mid MA ty x y ho B o cells hx hy (vt hB hz) hi h1
  (h _ (rA _ _ _ _ hB) (λ j hj=>rB _ _ _ j hj) (λ _ U hn hb=>rC hn _ _ U _ hb))
theorem bI{a:Act}{K:Act->World->Prop}(ty:TypeId)(x y:Operand)(ho:op.op= .store ty x y)
 (B o:Nat)(cs cells:Array Value)(t:TypeId)(hx:a.eval x= .pointer (some ⟨B,o,none⟩))(hy:a.eval y= .agg cells)(hB:W.heap[B]? =some (.cells cs t))(hz:o+cells.size<=cs.size)(hi:(P.info? ty).map (·.size)=some cells.size)(h1:cells.all (·.oneCell')=true)
 (h:∀W',W'.heap[B]? =some (.cells (aF cs o cells.toList) t)->(∀j,j≠B->W'.heap[j]? =W.heap[j]?)->(∀n U,n<=B->Below n U W->Below n U W')->K (a.put op.dst undef) W'):op.wp P a W K Q:=
 wp_store_mid ty x y ho B o cells hx hy (vt hB hz) hi h1
  (h _ (rA _ _ _ _ hB) (λ j hj=>rB _ _ _ j hj) (λ _ U hn hb=>rC hn _ _ U _ hb))
def bj{β:Type}(f:β->List Value)(sz:Nat)(W:World)(a:Option Addr)(xs:List β):Prop:=
 xs=[]\/∃B o,a=some ⟨B,o,none⟩/\∀(j:Nat) (x:β),xs[j]? =some x->W.rangeAt B (o+j*sz) (f x)
section
variable {β : Type} {f : β -> List Value} {sz : Nat} {W W' : World} {a : Option Addr} {xs : List β}
theorem fQ{cs:List Value}(h:W.rangeAt B o cs)(hb:Below W W W'):W'.rangeAt B o cs:= λ j v hv=>carry hb (h j v hv)
theorem bj.below(h:bj f sz W a xs)(hb:Below W W W'):bj f sz W' a xs:=by
 rcases h with h|⟨B,o,e,h⟩
 ·exact .inl h
 ·exact .inr ⟨B,o,e, λ j x hx i v hv=>carry hb (h j x hx i v hv)⟩
theorem bj.nil:bj f sz W a []:=.inl rfl
theorem bj.take(h:bj f sz W a xs)(n:Nat):bj f sz W a (xs.take n):=by
 rcases h with h|⟨B,o,e,h⟩
 ·exact .inl (by rw[h];simp)
 ·refine .inr ⟨B,o,e, λ j x hx=>h j x ?_⟩
  rw[List.getElem?_take]at hx
  split at hx
  ·exact hx
  ·cases hx
theorem bj.drop{B o:Nat}(h:bj f sz W (some ⟨B,o,none⟩) xs)(n:Nat):bj f sz W (some ⟨B,o+n*sz,none⟩) (xs.drop n):=by
 rcases h with h|⟨B',o',e,h⟩
 ·exact .inl (by rw[h];simp)
 ·cases e
  refine .inr ⟨B,o+n*sz,rfl, λ j x hx=>?_⟩
  rw[List.getElem?_drop]at hx
  have:=h _ _ hx
  rw[Nat.add_mul,<-Nat.add_assoc]at this
  exact this
theorem bj.get{x:β}(h:bj f sz W (some ⟨B,o,none⟩) xs)(hj:xs[j]? =some x):W.rangeAt B (o+j*sz) (f x):=by
 rcases h with h|⟨B',o',e,h⟩
 ·rw[h]at hj;simp at hj
 ·cases e;exact h j x hj
theorem bj.some_(h:bj f sz W a xs)(h1:1<=xs.length):∃B o,a=some ⟨B,o,none⟩:=by
 rcases h with h|⟨B,o,e,_⟩
 ·rw[h]at h1;simp at h1
 ·exact⟨B,o,e⟩
theorem bj.gX{e:TypeId}(h:W.ownsRow n₀ e sz (.slice a k c) k (xs.flatMap f))(hf:∀x,(f x).length=sz)(jr:0<sz):bj f sz W a xs:=by
 cases xs with
 |nil=>exact .inl rfl
 |cons y ys=>
  rcases pW h with h0|⟨g,rfl, -, -,hc⟩
  ·have h1:=hf y
   rw[List.flatMap_cons]at h0
   have h2:=(List.append_eq_nil_iff.1 h0).1
   rw[h2]at h1;simp at h1;omega
  ·refine .inr ⟨g,0,rfl, λ j x hx i v hv=>?_⟩
   rw[Nat.zero_add]
   exact hc _ _ (oZ f sz hf _ j x i v hx hv)
end
theorem kV{xs:List an}:dQ W a xs↔bj an.cells 4 W a xs/\∀x∈xs,ai W x.ka x.key/\ai W x.va x.val:=by
 refine⟨λ h=>⟨?_,h.2⟩, λ h=>⟨?_,h.2⟩⟩
 ·rcases h.1 with h|⟨B,o,e,h⟩
  ·exact .inl h
  ·refine .inr ⟨B,o,e, λ j x hx i v hv=>?_⟩
   obtain⟨h0,h1,h2,h3⟩:=h j x hx
   rcases i with _|_|_|_|i
   ·cases hv;exact h0
   ·cases hv;exact h1
   ·cases hv;exact h2
   ·cases hv;exact h3
   ·simp[an.cells]at hv
 ·rcases h.1 with h|⟨B,o,e,h⟩
  ·exact .inl h
  ·exact .inr ⟨B,o,e, λ j x hx=>⟨h j x hx 0 _ rfl,h j x hx 1 _ rfl,h j x hx 2 _ rfl,h j x hx 3 _ rfl⟩⟩
theorem Cs{xs:List aw}:gT W a xs↔bj aw.cells 8 W a xs/\∀x∈xs,ai W x.ka x.key:=Iff.rfl
theorem et{a:Act}(ty:TypeId){x y:Operand}{zs cells:Array Value}(h:wpList P ops Q rest (a.put op.dst undef) (W.alloc (.cells cells ty)))(MA:op.guard=none:=by exact rfl)(ho:op.op= .store ty x y:=by exact rfl)(hx:a.eval x= .pointer (zp B):=by exact rfl)(hB:B=W.heap.size:=by simp)(hy:a.eval y= .agg cells:=by exact rfl)(hz:zs.size=cells.size:=by rfl)(hi:(P.info? ty).map (·.size)=some cells.size:=by kernel_rfl)(h1:cells.all (·.oneCell')=true:=by simp[Value.oneCell']):wpList P ops Q (op::rest) a (W.alloc (.cells zs ty)):=nG ty MA x y ho B zs cells hx hB hy hz hi h1 h
def Jj(W:World)(src:Option Addr)(m:Nat)(news:List Value):Prop:=(m=0/\src=none)\/∃B o,src=some ⟨B,o,none⟩/\∀(j:Nat) (u:Value),news[j]? =some u->W.cell? (za B (o+j))=some u
theorem js(h:W.ownsRow n₀ e sz (.slice a k c) k xs):k<=c:=by
 rcases h.2 with⟨h,_⟩|⟨g,cap,cur,h,_,_,h2,_⟩
 ·cases h;exact aW
 ·cases h;exact h2
theorem Jk(h:W.ownsRow n₀ e sz (.slice a k c) k xs)(hg:W.grownBy W' (Value.slice a k c).ownBlock)(hn:n₀<=W.heap.size)(ot:v'.ownBlock=(Value.slice a k c).ownBlock\/v'.ownBlock=some W.heap.size):bO n₀ W W' (.slice a k c) v' where
 below:=(Below.refl n₀ W).grown hg hn λ j ej=>by
  rcases ay h with⟨rfl,_⟩|⟨g,cur,rfl,hb,_⟩
  ·simp[Value.ownBlock]at ej
  ·obtain rfl:g=j:=by simpa[Value.ownBlock]using ej
   exact hb
 bT:= λ j hj hv=>hg.block j hj (λ e=>hv e.symm)
 at_:=ot.elim .inl λ h=>.inr ⟨_,h,aW⟩
theorem ph(t e:TypeId)(z:Value)(sz bytes:Nat)(ht:P.underlying t=some (.slice e))(ou:(P.info? e).map (λ i=>(i.zero,i.size,i.bytes))=some (some z,sz,bytes))(oO:z.cells.size=sz)(jr:0<sz){src:Option Addr}(hl:news.length=m*sz)(hs:Jj W src m news)(h1:∀u∈news,u.oneCell'=true)(ax:W.ownsRow n₀ e sz (.slice a k c) k xs)(hk:k+m<=1048576)(eZ:bytes<=4096)(hn:n₀<=W.heap.size)(kL:src=none->cc=0):
 ∃a' c' w',(Builtin.append_ #[t,t] t (jF a k c src m cc)).run P W= .ok (.slice a' (k+m) c') w'/\
  w'.ownsRow n₀ e sz (.slice a' (k+m) c') (k+m) (xs++news)/\bO n₀ W w' (.slice a k c) (.slice a' (k+m) c'):=by
 obtain⟨i0,hi,gQ,fq,mx⟩:=info_parts ou
 rcases hs with⟨rfl,rfl⟩|⟨B,o,rfl,hc⟩
 ·obtain rfl:=kL rfl
  have hx:news=[]:=List.eq_nil_of_length_eq_zero (by simpa using hl)
  subst hx
  refine⟨a,c,W,?_,by simpa using ax,bO.refl _ _ _⟩
  rcases ax.2 with⟨h,_⟩|⟨g,cap,cur,h,_,_,h2,h3,h4,_⟩
  ·cases h
   simp[Builtin.append_,run_underlying ht,sizeOf,typeInfo,hi,Builtin.lenOf,Builtin.firstCells]
  ·cases h
   have h5:(k:Int)<=(c:Int):=ag
   simp[Builtin.append_,run_underlying ht,sizeOf,typeInfo,hi,Builtin.lenOf,Builtin.firstCells,loadCells,storeCells,h2]
 ·have hmul:(k+m)*bytes<=1048576*4096:=Nat.mul_le_mul hk eZ
  obtain⟨v',w1,bt,cY,eB,KM,ot⟩:=run_append_own_at (P:=P) W n₀ t t e i0 z sz bytes ht hi gQ fq mx oO jr _ _ xs ax
   ⟨B,o,none⟩ m cc news hl (λ j u hj=>by rw[Addr.add_mid];exact hc j u hj) h1 (by simp[maxLen];omega) ag hn
  rcases cY.2 with⟨h,h0⟩|⟨g,cap,cur,h,_⟩
  ·subst h
   obtain rfl:k=0:=ag
   obtain rfl:m=0:=ag
   exact⟨none,0,w1,bt,cY,Jk ax eB hn ot⟩
  ·subst h
   exact⟨some ⟨g,0,none⟩,cap,w1,bt,cY,Jk ax eB hn ot⟩
theorem eF(t e:TypeId)(z:Value)(sz bytes:Nat)(ht:P.underlying t=some (.slice e))(ou:(P.info? e).map (λ i=>(i.zero,i.size,i.bytes))=some (some z,sz,bytes))(oO:z.cells.size=sz)(jr:0<sz)(cells:List Value)(ng:cells.length=sz)(h1:∀u∈cells,u.oneCell'=true)(ax:W.ownsRow n₀ e sz (.slice a k c) k xs)(hk:k+1<=1048576)(eZ:bytes<=4096)(hn:n₀<=W.heap.size):
 ∃g' c' w',(Builtin.append_ #[t,t] t (jF a k c (zp W) 1 1)).run P (W.alloc (.cells cells.toArray e))= .ok (.slice (zp g') (k+1) c') w'/\
  w'.ownsRow n₀ e sz (.slice (zp g') (k+1) c') (k+1) (xs++cells)/\bO n₀ W w' (.slice a k c) (.slice (zp g') (k+1) c'):=by
 obtain⟨g',c',w',bt,dN,hb,hg,XO,ot⟩:=fM (P:=P) t e z sz bytes ht ou oO jr cells.toArray (by simpa using ng) (by simpa using h1) ax hk eZ hn
 exact⟨g',c',w',bt,by simpa using dN,hb, λ j hj hv=>XO.block j hj (λ e=>hv e.symm),ot.elim (λ h=>.inl h.symm) (λ h=>.inr ⟨g',rfl,h⟩)⟩
theorem bj.src{β:Type}{f:β->List Value}{xs:List β}(h:bj f sz W a xs)(ha:a=none\/∃B o,a=some ⟨B,o,none⟩)(hf:∀x,(f x).length=sz)(jr:0<sz):Jj W a xs.length (xs.flatMap f):=by
 cases a with
 |none=>
  rcases h with h|⟨B,o,e,_⟩
  ·subst h;exact .inl ⟨rfl,rfl⟩
  ·cases e
 |some p=>
  rcases h with h|⟨B,o,e,h⟩
  ·subst h
   rcases ha with ha|⟨B,o,ha⟩
   ·cases ha
   ·cases ha;exact .inr ⟨B,o,rfl, λ j u hj=>by simp at hj⟩
  ·cases e
   refine .inr ⟨B,o,rfl, λ j u hj=>?_⟩
   have key:∀(xs:List β) (j:Nat) (u:Value),(xs.flatMap f)[j]? =some u->∃i x,xs[j/sz]? =some x/\(f x)[i]? =some u/\j=j/sz*sz+i:=by
    intro xs
    induction xs with
    |nil=>intro j u hj;simp at hj
    |cons x xs ih=>
     intro j u hj
     rw[List.flatMap_cons]at hj
     by_cases bg:j<sz
     ·rw[List.getElem?_append_left (by rw[hf];exact bg)]at hj
      exact⟨j,x,by rw[Nat.div_eq_of_lt bg];rfl,hj,by rw[Nat.div_eq_of_lt bg];omega⟩
     ·rw[List.getElem?_append_right (by rw[hf];omega),hf]at hj
      obtain⟨i,y,h1,h2,h3⟩:=ih _ _ hj
      have hd:j/sz=(j - sz)/sz+1:=by
       conv=>lhs;rw[show j=(j - sz)+sz by omega]
       exact Nat.add_div_right _ jr
      refine⟨i,y,by rw[hd];exact h1,h2,?_⟩
      rw[hd,Nat.succ_mul];omega
   obtain⟨i,x,h1,h2,h3⟩:=key xs j u hj
   have:=h _ x h1 i u h2
   rw[h3,<-Nat.add_assoc];exact this
abbrev wkC(b:Option Addr)(k c:Nat):Array Value:=(UE b k c)
def fp(W:World)(B:Nat)(b:Option Addr)(k c:Nat):Prop:=W.heap[B]? =some (.cells (wkC b k c) 229)
theorem fp.below(h:fp W B b k c)(hb:Below W W W'):fp W' B b k c:=(hb.block B (aX h).1).T h
abbrev mV(ka:Option Addr)(kl kc at_ cn d:Nat):Array Value:=(fI ka kl kc at_ cn d)
theorem pY(hF:au w b c ps)(hm:Marks (al ps))(hW:fp w Bw b ps.length c)(ka:Option Addr)(kl kc at_ cn d:Nat){n:Nd}(hd:n.is=decide (d=0))(hr:dO (al ps) at_ n.enc)(ho:n.Ok):
 Calls Tryz.prog 179 (tQ (zp Bw) (.agg (mV ka kl kc at_ cn d))) w λ e w'=>∃(m:Nd) (a:Option Addr) (k:Nat),m.pd n/\e= .returned (m.v a k)/\m.R w' w.heap.size a k/\Below w w w':=by
 obtain⟨w1,aH⟩:=aK ((w.alloc (.cells (fI ka kl kc at_ cn d) 285)).alloc (.cells eD 169))
 have aQ:Below w w w1:=by rw[aH];go_grown
 have bB:=aS (w2:=w1) (by rw[aH];exact dp)
 have dm:w1.heap.size=w.heap.size+1+1:=by rw[aH];simp
 have HL:=af λ (V:World) (hV:Below w w V)=>Cn (hF.below hV) hm at_ d hd hr ho
 have hk:= λ j=>aa ((aQ.block Bw (aX hW).1).T hW) j
 have k0:=(hk 0).T rfl
 have k1:=(hk 1).T rfl
 have k2:=(hk 2).T rfl
 have k3:=(hk 3).T rfl
 have k4:=(hk 4).T rfl
 have k5:=(hk 5).T rfl
 simp only[aD]at k0 k1 k2 k3 k4 k5
 have r1:w1.cell? (za w 1)=some (.int .i64 (at_:Int)):=(aa bB.1 1).T rfl
 have r8:w1.cell? (za w 8)=some (.int .i64 (d:Int)):=(aa bB.1 8).T rfl
 have hWB:=(aX hW).1
 have HK5:Hid (∀V,Below w1 w1 V->V.cell? (za Bw 5)=some (.int .i64 0)):=af λ V hV=>carry hV k5
 have H1:=cV aQ bB dm
 have Gz:Below w1 w1 (w1.alloc (.cells eD 169)):=(Below.refl _ w1).alloc (aW) _
 have l0:=carry Gz k0
 have l1:=carry Gz k1
 have l2:=carry Gz k2
 have l3:=carry Gz k3
 have l4:=carry Gz k4
 have l5:=carry Gz r1
 have l6:=carry Gz r8
 rw[aH]at k0 k1 k2 k3 k4 r1 r8 l0 l1 l2 l3 l4 l5 l6
 clear Gz
 have kg:=af aH
 unfold aE at HL
 clear hF hm hd hr ho hW hk k5 aQ bB dm aH hWB
 go_enter Tryz.func179,Tryz.ntmps179
 go_wp2_with fail
 refine bP 17 ?_
 refine tP [0,1,2,3,4,5,6,7,8,9] ?_
 iterate 10 refine tO ?_
 refine ah 7 rfl ?_
 refine Gr 10 14 [0,1,2,3,4,5,6,7,8,9] [] (λ K hK=>?_) λ K hK=>?_
 go_simp
 (with_reducible refine(HL.O _ (by rw[<-kg.O];exact H1.O.1.drew)).mono ?_);rintro e w3 ⟨m,a,k,cS,rfl,hR,aL⟩;rw[<-kg.O]at aL hR;have bA:=af (show Below w1 w1 w3 from((Below.refl _ w1).drew).T aL);have HR:=cj cS hR;clear cS hR aL;unfold Nd.v
 refine nP hK ?_
 clear hK K
 refine tP [11,12,13] ?_
 iterate 3 refine tO ?_
 refine ah 3 rfl ?_
 refine sP 14 [0,1,2,3,4,5,6,7,8,9] λ K hK=>?_
 go_simp
 refine nP hK ?_
 clear hK K
 refine sP 15 [0,1,2,3,4,5,6,7,8,9,10,11,12,14] λ K hK=>?_
 refine VP 169 _ _ rfl _ _ _ rfl aR rfl (by rfl) aO (by simp[Value.oneCell']) ?_
 refine nP hK ?_
 clear hK K
 refine tP [16] ?_
 refine tO ?_
 refine ah 0 rfl ?_
 refine dP ?_
 go_simp
 obtain⟨V,hV⟩:=aK (w3.alloc (.cells (tN m.is (m.a1 a) m.n1 (m.k1 k) (m.a2 a) m.n2 (m.k2 k)) 169))
 have hn:V.heap[w3.heap.size]? =some (.cells (tN m.is (m.a1 a) m.n1 (m.k1 k) (m.a2 a) m.n2 (m.k2 k)) 169):=by rw[hV];exact World.alloc_heap_new w3 _
 have jA:Below w w V:=by rw[hV];exact(H1.O.1.T (bA.O.mono H1.O.1.size)).alloc (Nat.le_trans H1.O.1.size bA.O.size) _
 have Ep:Below w1 w1 V:=by rw[hV];exact bA.O.alloc bA.O.size _
 have f5:=HK5.O V Ep
 have hz:V.heap[w.heap.size+1]? =some (.cells eD 169):=(Ep.block _ (aM H1.O.2.2)).T H1.O.2.1.2
 have ZW:m.R V w.heap.size a k:=by rw[hV];exact(HR.O.2.below ((Below.refl _ w3).alloc (aW) _)).rn (by have:=H1.O.1.size;exact this)
 rw[<-hV]
 clear hV Ep
 have wP:=aj hn
 have HZ:=af hz
 have HT:=cj jA ZW
 clear hn jA ZW
 go_wp2_with first
  |(refine bh 169 ?_)
  |(refine aP 169 rfl _ _ rfl _ _ _ _ _ rfl rfl HZ.O aR aO (by simp[Value.oneCell']) (λ W' h1 h2 h3=>?_)
    have x0:W'.cell? (za (w.heap.size+1) 0)=some (.bool m.is):=(aa h1 0).T rfl
    have x1:W'.cell? (za (w.heap.size+1) 1)=some (.slice (m.a1 a) m.n1 (m.k1 k)):=(aa h1 1).T rfl
    have x2:W'.cell? (za (w.heap.size+1) 2)=some (.slice (m.a2 a) m.n2 (m.k2 k)):=(aa h1 2).T rfl
    have HQ:=cj (h3 w w (Nat.le_succ _) HT.O.1) (Nd.R.AR (n:=m) h2 HZ.O bd bd (λ j x=>by rcases j with _|_|_|j<;>simp) HT.O.2)
    clear h1 h2 h3 wP)
  |fail
 refine bodyPost_ret (v:=m.v a k) (by rw[cD rfl];unfold Nd.v;go_simp) (by rfl) ⟨m,a,k,HR.O.1,rfl,HQ.O.2,HQ.O.1⟩
 rotate_left
 go_simp
 refine nP hK ?_
 clear hK K
 refine sP 10 [0,1,2,3,4,5,6,7,8,9] λ K hK=>?_
 go_simp
 (with_reducible refine(HL.O _ (by rw[<-kg.O];exact(H1.O.1.alloc H1.O.1.size _).drew)).mono ?_);rintro e w3 ⟨m,a,k,cS,rfl,hR,aL⟩;rw[<-kg.O]at aL hR;have bA:=af (show Below (w1.heap.size+1) (w1.alloc (.cells eD 169)) w3 from(by have h9:Below (w1.heap.size+1) (w1.alloc (.cells eD 169)) (w1.alloc (.cells eD 169)).drew:=(dp).drew;exact h9.T (by simpa using aL)));have HR:=cj cS hR;have hy:=(bA.O.block _ aR).T (World.alloc_heap_new w1 (.cells eD 169));rw[H1.O.2.2]at hy;clear cS hR aL;unfold Nd.v
 refine nP hK ?_
 clear hK K
 refine tP [11,12,13] ?_
 iterate 3 refine tO ?_
 refine ah 2 rfl ?_
 refine sP 15 [0,1,2,3,4,5,6,7,8,9,10,11,12,14] λ K hK=>?_
 refine bI 169 _ _ rfl _ _ _ _ _ rfl rfl hy aR aO (by simp[Value.oneCell']) (λ V g1 g2 g3=>?_)
 refine nP hK ?_
 clear hK K
 refine tP [16] ?_
 refine tO ?_
 refine ah 0 rfl ?_
 refine dP ?_
 go_simp
 have aL:Below w1 w1 w3:=((Below.refl _ w1).alloc (aW) _).T (bA.O.mono aR)
 have hn:V.heap[w.heap.size+1+1]? =some (.cells (tN m.is (m.a1 a) m.n1 (m.k1 k) (m.a2 a) m.n2 (m.k2 k)) 169):=g1
 have Ep:Below w1 w1 V:=g3 _ _ (by rw[H1.O.2.2];exact aW) aL
 have jA:Below w w V:=H1.O.1.T (Ep.mono H1.O.1.size)
 have f5:=HK5.O V Ep
 have hz:V.heap[w.heap.size+1]? =some (.cells eD 169):=(Ep.block _ (aM H1.O.2.2)).T H1.O.2.1.2
 have ZW:m.R V w.heap.size a k:=(Nd.R.AR (n:=m) g2 hy bd bd (λ j x=>by rcases j with _|_|_|j<;>simp) HR.O.2).rn (by have:=H1.O.1.size;simp;omega)
 clear g1 g2 g3 aL Ep hy
 have wP:=aj hn
 have HZ:=af hz
 have HT:=cj jA ZW
 clear hn jA ZW
 go_wp2_with first
  |(refine bh 169 ?_)
  |(refine aP 169 rfl _ _ rfl _ _ _ _ _ rfl rfl HZ.O aR aO (by simp[Value.oneCell']) (λ W' h1 h2 h3=>?_)
    have x0:W'.cell? (za (w.heap.size+1) 0)=some (.bool m.is):=(aa h1 0).T rfl
    have x1:W'.cell? (za (w.heap.size+1) 1)=some (.slice (m.a1 a) m.n1 (m.k1 k)):=(aa h1 1).T rfl
    have x2:W'.cell? (za (w.heap.size+1) 2)=some (.slice (m.a2 a) m.n2 (m.k2 k)):=(aa h1 2).T rfl
    have HQ:=cj (h3 w w (Nat.le_succ _) HT.O.1) (Nd.R.AR (n:=m) h2 HZ.O bd bd (λ j x=>by rcases j with _|_|_|j<;>simp) HT.O.2)
    clear h1 h2 h3 wP)
  |fail
 refine bodyPost_ret (v:=m.v a k) (by rw[cD rfl];unfold Nd.v;go_simp) (by rfl) ⟨m,a,k,HR.O.1,rfl,HQ.O.2,HQ.O.1⟩
 rotate_left
theorem KN(a:Option Addr)(k c:Nat)(w:World):Calls Tryz.prog 145 (jE a k c) w λ e w'=>e= .returned (.agg (nr a k c))/\Below w w w':=by
 have n0:=World.alloc_heap_new w (.cells (nr a k c) 169)
 have x0:=(aa n0 0).T rfl
 have x1:=(aa n0 1).T rfl
 have x2:=(aa n0 2).T rfl
 simp only[aD]at x0 x1 x2
 go_enter Tryz.func145,Tryz.ntmps145
 go_wp2_with first
  |(refine et 169 ?_)
  |fail
 refine bodyPost_ret (v:=.agg (nr a k c)) (by rw[cD rfl];go_simp) (by rfl) ⟨rfl,(Below.refl _ w).alloc (aW) _⟩
theorem GP(a:Option Addr)(k c:Nat)(w:World):Calls Tryz.prog 149 (jE a k c) w λ e w'=>e= .returned (.agg (mB a k c))/\Below w w w':=by
 have n0:=World.alloc_heap_new w (.cells (mB a k c) 169)
 have x0:=(aa n0 0).T rfl
 have x1:=(aa n0 1).T rfl
 have x2:=(aa n0 2).T rfl
 simp only[aD]at x0 x1 x2
 go_enter Tryz.func149,Tryz.ntmps149
 go_wp2_with first
  |(refine et 169 ?_)
  |fail
 refine bodyPost_ret (v:=.agg (mB a k c)) (by rw[cD rfl];go_simp) (by rfl) ⟨rfl,(Below.refl _ w).alloc (aW) _⟩
theorem GQ(hF:au w b c ps)(hm:Marks (al ps))(hW:fp w Bw b ps.length c)(ka:Option Addr)(kl kc at_ cn d:Nat){xs:List an}(hd:d=0)(hr:dO (al ps) at_ (bG xs))(ho:(Nd.leaf xs).Ok):
 Calls Tryz.prog 144 (tQ (zp Bw) (.agg (mV ka kl kc at_ cn d))) w λ e w'=>∃(ys:List an) (a:Option Addr) (k:Nat),(ys.map an.key=xs.map an.key/\ys.map an.val=xs.map an.val)/\e= .returned (.slice a ys.length k)/\dU w' w.heap.size a k ys/\Below w w w':=by
 obtain⟨w1,aH⟩:=aK (w.alloc (.cells (mV ka kl kc at_ cn d) 285))
 have aQ:Below w w w1:=by rw[aH];go_grown
 have HL:=af (pY (hF.below aQ) hm (hW.below aQ) ka kl kc at_ cn d (n:=.leaf xs) (by simp[Nd.is];omega) hr ho)
 have wP:=aj (W:=w1) (B:=w.heap.size) (cs:=(fI ka kl kc at_ cn d)) (t:=285) (jJ aH)
 have dm:w1.heap.size=w.heap.size+1:=by rw[aH];simp
 have H1:=cV aQ aH dm
 rw[aH]at HL wP
 clear hd hF hm hW hr ho aH aQ dm
 go_enter Tryz.func144,Tryz.ntmps144
 go_wp2_with first
  |(refine bh 285 ?_)
  |((with_reducible refine HL.O.mono ?_);rintro e w3 ⟨m,a,k,cS,rfl,hR,aL⟩
    rw[<-H1.O.2.1]at aL hR
    rcases m with ys|ys
    rotate_left
    ·exact cS.elim
    have HR:=cV cS (Nd.R.rn (n:=.leaf ys) hR H1.O.1.size) (H1.O.1.T (aL.mono H1.O.1.size))
    simp only[Nd.v,Nd.is,Nd.a1,Nd.n1,Nd.k1,Nd.a2,Nd.n2,Nd.k2]
    have VQ:∀W,(Instr.field 169 (.agg (nr a ys.length k)) 1).run Tryz.prog W= .ok (.slice a ys.length k) W:= λ W=>aO
    clear cS hR aL)
  |fail
 go_ret
 exact⟨ys,a,k,HR.O.1,rfl,HR.O.2.1,HR.O.2.2⟩
theorem KO(hF:au w b c ps)(hm:Marks (al ps))(hW:fp w Bw b ps.length c)(ka:Option Addr)(kl kc at_ cn d:Nat){xs:List aw}(hd:1<=d)(hr:dO (al ps) at_ (bf xs))(ho:(Nd.inner xs).Ok):
 Calls Tryz.prog 148 (tQ (zp Bw) (.agg (mV ka kl kc at_ cn d))) w λ e w'=>∃(ys:List aw) (a:Option Addr) (k:Nat),(ys.map aw.key=xs.map aw.key/\ys.map aw.at_=xs.map aw.at_/\ys.map aw.count=xs.map aw.count)/\e= .returned (.slice a ys.length k)/\fm w' w.heap.size a k ys/\Below w w w':=by
 obtain⟨w1,aH⟩:=aK (w.alloc (.cells (mV ka kl kc at_ cn d) 285))
 have aQ:Below w w w1:=by rw[aH];go_grown
 have HL:=af (pY (hF.below aQ) hm (hW.below aQ) ka kl kc at_ cn d (n:=.inner xs) (by simp[Nd.is];omega) hr ho)
 have wP:=aj (W:=w1) (B:=w.heap.size) (cs:=(fI ka kl kc at_ cn d)) (t:=285) (jJ aH)
 have dm:w1.heap.size=w.heap.size+1:=by rw[aH];simp
 have H1:=cV aQ aH dm
 rw[aH]at HL wP
 clear hd hF hm hW hr ho aH aQ dm
 go_enter Tryz.func148,Tryz.ntmps148
 go_wp2_with first
  |(refine bh 285 ?_)
  |((with_reducible refine HL.O.mono ?_);rintro e w3 ⟨m,a,k,cS,rfl,hR,aL⟩
    rw[<-H1.O.2.1]at aL hR
    rcases m with ys|ys
    skip
    ·exact cS.elim
    have HR:=cV cS (Nd.R.rn (n:=.inner ys) hR H1.O.1.size) (H1.O.1.T (aL.mono H1.O.1.size))
    simp only[Nd.v,Nd.is,Nd.a1,Nd.n1,Nd.k1,Nd.a2,Nd.n2,Nd.k2]
    have VQ:∀W,(Instr.field 169 (.agg (mB a ys.length k)) 2).run Tryz.prog W= .ok (.slice a ys.length k) W:= λ W=>aO
    clear cS hR aL)
  |fail
 go_ret
 exact⟨ys,a,k,HR.O.1,rfl,HR.O.2.1,HR.O.2.2⟩
def aN.cells(r:aN):List Value:=r.k.cells++[.int .i64 (r.h:Int)]
def xM(W:World)(n₀:Nat)(a:Option Addr)(k:Nat)(rs:List aN):Prop:=W.ownsRow n₀ 285 9 (.slice a rs.length k) rs.length (rs.flatMap aN.cells)/\∀r∈rs,ai W r.k.ka r.k.key/\cx n₀ r.k.ka
theorem xN:(Tryz.prog.info? 285).map (λ i=>(i.zero,i.size,i.bytes))=some (some (.agg MC),9,88):=aO
theorem xO(r:aN):∀u∈r.cells,u.oneCell'=true:=by intro u hu;simp only[aN.cells,aw.cells,List.cons_append,List.nil_append,List.mem_cons,List.not_mem_nil,or_false]at hu;rcases hu with rfl|rfl|rfl|rfl|rfl|rfl|rfl|rfl|rfl<;>rfl
theorem xP(hF:au w b c ps)(hm:Marks (al ps))(hW:fp w Bw b ps.length c)(ka:Option Addr)(kl kc at_ cn d D:Nat)(hD:D=d+1){xs:List aw}(wL:d<=100)(hr:dO (al ps) at_ (bf xs))(ho:(Nd.inner xs).Ok):
 Calls Tryz.prog 181 (tQ (zp Bw) (.agg (mV ka kl kc at_ cn D))) w λ e w'=>∃(ys:List aw) (a:Option Addr) (k:Nat),(ys.map aw.key=xs.map aw.key/\ys.map aw.at_=xs.map aw.at_/\ys.map aw.count=xs.map aw.count)/\e= .returned (.slice a ys.length k)/\xM w' w.heap.size a k (ys.map λ y=>⟨y,d⟩)/\Below w w w':=by
 obtain⟨w1,aH⟩:=aK (w.alloc (.cells (mV ka kl kc at_ cn D) 285))
 have aQ:Below w w w1:=by rw[aH];go_grown
 have HL:=af (pY (hF.below aQ) hm (hW.below aQ) ka kl kc at_ cn D (n:=.inner xs) (by simp[Nd.is];omega) hr ho)
 have dD:w1.heap[w.heap.size]? =some (.cells (fI ka kl kc at_ cn D) 285):=jJ aH
 have wP:=aj (W:=w1) (B:=w.heap.size) (cs:=(fI ka kl kc at_ cn D)) (t:=285) dD
 have dm:w1.heap.size=w.heap.size+1:=by rw[aH];simp
 have Jg:=dt.kT ho
 have H1:=jo aQ aH dm dD
 rw[aH]at HL wP
 have HD:=af hD
 clear hD hF hm hW hr ho aH aQ dm dD
 go_enter Tryz.func181,Tryz.ntmps181
 go_wp2_with first
  |(refine bh 285 ?_)
  |((with_reducible refine HL.O.mono ?_);rintro e w3 ⟨m,a,k,cS,rfl,hR,aL⟩
    rw[<-H1.O.2.1]at aL hR
    rcases m with ys|ys
    ·exact cS.elim
    have HR:=cV cS (Nd.R.rn (n:=.inner ys) hR H1.O.1.size) (H1.O.1.T (aL.mono H1.O.1.size))
    have HN:=af ((aL.block w (aM H1.O.2.2.1)).T H1.O.2.2.2)
    simp only[Nd.v,Nd.is,Nd.a1,Nd.n1,Nd.k1,Nd.a2,Nd.n2,Nd.k2]
    have VQ:∀W,(Instr.field 169 (.agg (mB a ys.length k)) 2).run Tryz.prog W= .ok (.slice a ys.length k) W:= λ W=>aO
    have r6:ys.length<=6:=by have:=congrArg List.length cS.1;simp at this;omega
    clear cS hR aL)
  |fail
 have Kx:(ys.length:Int)<=6:=ag
 go_loopw [5,13] (λ rv iv wr=>∃(j:Nat) (q:Option Addr) (k':Nat),j<=ys.length/\iv= .int .i64 (j:Int)/\rv= .slice q j k'/\Hid (wr.ownsRow w3 285 9 (.slice q j k') j (((ys.take j).map λ y=>(⟨y,d⟩:aN)).flatMap aN.cells))/\Hid (Below w3 w3 wr)) (λ _ iv _=>ys.length - (intOf iv).toNat)
 case atStart=>exact⟨0,none,0,ag,rfl,rfl,af (World.ownsRow_nil _ _ _ _),af (dp)⟩
 case round=>
  obtain⟨j,q,k',hj,rfl,rfl,ax,hB⟩:=hrel
  by_cases bg:j<ys.length
  ·obtain⟨y,hy⟩:∃y,ys[j]? =some y:=⟨ys[j],by simp[bg]⟩
   have ot:bj aw.cells 8 w3 a ys:=(fm.at HR.O.2.1).1
   obtain⟨B,o,rfl⟩:=ot.some_ ag
   have hg:wr.rangeAt B (o+j*8) (gv y.ka y.key.length y.kc y.at_ y.count):=(ot.below hB.O).get hy
   have gy:(j:Int)<(ys.length:Int):=ag
   have rj:(j:Int)<=6:=ag
   obtain⟨V,hV⟩:=aK (wr.alloc (.cells (gv y.ka y.key.length y.kc y.at_ y.count) 175))
   have hBV:Below w3 w3 V:=by rw[hV];exact hB.O.alloc hB.O.size _
   have gR:=aj (W:=V) (B:=wr.heap.size) (cs:=(gv y.ka y.key.length y.kc y.at_ y.count)) (t:=175) (jJ hV)
   have r8:V.cell? (za w 8)=some (.int .i64 (D:Int)):=carry hBV ((aa HN.O 8).T rfl)
   have RH:IntKind.i64.wrap ((D:Int) - 1)=(d:Int):=by have:=HD.O;rw[IntKind.wrap_i64];omega
   have TJ:V.ownsRow w3 285 9 (.slice q j k') j (((ys.take j).map λ y=>(⟨y,d⟩:aN)).flatMap aN.cells):=by rw[hV];exact ax.O.alloc _
   obtain⟨g',c',w',bt,DC,mg⟩:∃g' c' w',(Builtin.append_ #[289,289] 289 (jF q j k' (zp V) 1 1)).run Tryz.prog (V.alloc (.cells (fI y.ka y.key.length y.kc y.at_ y.count d) 285))= .ok (.slice (zp g') (j+1) c') w'/\_/\_:=eF (P:=Tryz.prog) 289 285 (.agg MC) 9 88 aO xN rfl bd (aN.cells ⟨y,d⟩) rfl (xO _) TJ ag ag hBV.size
   have Gb:Hid (w'.ownsRow w3 285 9 (.slice (zp g') (j+1) c') (j+1) (((ys.take (j+1)).map λ y=>(⟨y,d⟩:aN)).flatMap aN.cells)/\Below w3 w3 w'):=af ⟨by rw[List.take_add_one,hy];simpa using DC,hBV.T mg.below⟩
   have vu:V.heap.size=wr.heap.size+1:=by rw[hV];simp
   rw[vu]at bt
   rw[hV]at gR r8 bt
   clear hy ot bg hBV TJ DC mg hV vu
   go_wp2_with first
    |(refine bh 175 ?_)
    |(refine et 175 ?_)
    |fail
   exact⟨⟨j+1,_,_,ag,by simp,rfl,af Gb.O.1,af Gb.O.2⟩,by simp[intOf];omega⟩
  ·obtain rfl:j=ys.length:=ag
   go_wp2_with fail
   go_ret
   have hr:=ax.O
   rw[List.take_length]at hr
   have jr:=HR.O.2.2.size
   refine⟨ys,q,k',HR.O.1,rfl,⟨?_,?_⟩,HR.O.2.2.T (hB.O.mono jr)⟩
   ·rw[List.length_map];exact mT hr jr
   ·intro r hr
    obtain⟨y,hy,rfl⟩:=List.mem_map.1 hr
    have:=HR.O.2.1.2 y hy
    exact⟨this.1.below hB.O,this.2⟩
theorem uo(x:Int)(w:World):Calls Tryz.prog 220 #[.int .u8 x] w λ e w'=>e= .returned (.bool false)/\w'=w:=by
 go_enter Tryz.func220,Tryz.ntmps220
 go_wp2_with fail
 go_ret
 exact⟨rfl,rfl⟩
def sG(x y:Nat):Int:=if x<y then-1 else if y<x then 1 else 0
theorem Er(x y:Nat)(w:World):Calls Tryz.prog 203 #[.int .u8 (x:Int),.int .u8 (y:Int)] w λ e w'=>e= .returned (.int .i64 (sG x y))/\w'=w:=by
 have key:(x<y/\sG x y= -1)\/(y<x/\sG x y=1)\/(x=y/\sG x y=0):=by
  unfold sG
  rcases Nat.lt_trichotomy x y with h|h|h
  ·left;exact⟨h,by rw[if_pos h]⟩
  ·right;right;exact⟨h,by rw[if_neg ag,if_neg ag]⟩
  ·right;left;exact⟨h,by rw[if_neg ag,if_pos h]⟩
 rcases key with⟨h,e⟩|⟨h,e⟩|⟨rfl,e⟩
 ·rw[e];clear e
  have h1:decide ((x:Int)<(y:Int))=true:=bV
  go_enter Tryz.func203,Tryz.ntmps203
  go_wp2_with first
   |((with_reducible refine(uo _ _).mono ?_);rintro e w2 ⟨rfl,rfl⟩)
   |fail
  go_ret
  exact⟨rfl,rfl⟩
 ·rw[e];clear e
  have h1:decide ((x:Int)<(y:Int))=false:=bV
  have h2:decide ((y:Int)<(x:Int))=true:=bV
  go_enter Tryz.func203,Tryz.ntmps203
  go_wp2_with first
   |((with_reducible refine(uo _ _).mono ?_);rintro e w2 ⟨rfl,rfl⟩)
   |fail
  go_ret
  exact⟨rfl,rfl⟩
 ·rw[e];clear e
  go_enter Tryz.func203,Tryz.ntmps203
  go_wp2_with first
   |((with_reducible refine(uo _ _).mono ?_);rintro e w2 ⟨rfl,rfl⟩)
   |fail
  go_ret
  exact⟨rfl,rfl⟩
theorem VR(x y:Nat)(xs ys:List Nat):cmpL (x::xs) (y::ys)=if sG x y=0 then cmpL xs ys else sG x y:=by
 show(if x<y then(-1:Int)else if y<x then 1 else cmpL xs ys)=_
 unfold sG
 split
 ·simp
 ·split
  ·simp
  ·simp
theorem pZ{xs:List Nat}(h:ai W a xs)(hj:xs[j]? =some x):∃B o,a=some ⟨B,o,none⟩/\W.cell? (za B (o+j))=some (.int .u8 (x:Int)):=by
 rcases h.2 with h|⟨B,o,e,h⟩
 ·rw[h]at hj;simp at hj
 ·exact⟨B,o,e,h j x hj⟩
theorem xQ{xs:List Nat}(h:xs[i]? =some x):xs.drop i=x::xs.drop (i+1):=by
 rw[List.drop_eq_getElem_cons (List.getElem?_eq_some_iff.1 h).1,(List.getElem?_eq_some_iff.1 h).2]
theorem Ct{a b:List Nat}(c d:Nat)(ha:ai w p a)(hb:ai w q b)(jr:a.length<=1000000):
 Calls Tryz.prog 177 (jF p a.length c q b.length d) w λ e w'=>e= .returned (.int .i64 (cmpL a b))/\w'=w:=by
 have HA:=af ha
 have HB:=af hb
 have RI:(a.length:Int)<=1000000:=ag
 clear ha hb jr
 go_enter Tryz.func177,Tryz.ntmps177
 go_wp2_with fail
 go_loopw [11] (λ iv wr=>∃i:Nat,i<=a.length/\i<=b.length/\iv= .int .i64 (i:Int)/\Hid (wr=w)/\Hid (cmpL (a.drop i) (b.drop i)=cmpL a b)) (λ iv _=>a.length - (intOf iv).toNat)
 case atStart=>exact⟨0,ag,ag,rfl,af rfl,af rfl⟩
 case round=>
  obtain⟨i,hi,hib,rfl,hw,hc⟩:=hrel
  by_cases bg:i<a.length
  ·obtain⟨x,hx⟩:∃x,a[i]? =some x:=⟨a[i],by simp[bg]⟩
   obtain⟨B,o,rfl,xp⟩:=pZ HA.O hx
   have bB:=xQ hx
   rw[<-hw.O]at xp
   have gy:(i:Int)<(a.length:Int):=ag
   have rj:(i:Int)<=1000000:=ag
   by_cases hlb:i<b.length
   ·obtain⟨y,hy⟩:∃y,b[i]? =some y:=⟨b[i],by simp[hlb]⟩
    obtain⟨B',o',rfl,hcy⟩:=pZ HB.O hy
    have lA:=xQ hy
    rw[<-hw.O]at hcy
    have Vr:decide ((b.length:Int)<=(i:Int))=false:=bV
    have adl:(i:Int)<(b.length:Int):=ag
    have HC:Hid (cmpL a b=if sG x y=0 then cmpL (a.drop (i+1)) (b.drop (i+1))else sG x y):=af (by rw[<-hc.O,bB,lA,VR])
    clear hx hy bB lA hc
    by_cases h0:sG x y=0
    ·have h0i:(sG x y==0)=true:=by simp[h0]
     go_wp2_with first
      |((with_reducible refine(Er x y _).mono ?_);rintro e w2 ⟨rfl,da⟩;rw[da];clear da w2)
      |fail
     exact⟨⟨i+1,ag,ag,by simp,hw,af (by rw[HC.O,if_pos h0])⟩,by simp[intOf];omega⟩
    ·have h0i:(sG x y==0)=false:=by simp[h0]
     have xR:Hid (sG x y=cmpL a b):=af (by rw[HC.O,if_neg h0])
     go_wp2_with first
      |((with_reducible refine(Er x y _).mono ?_);rintro e w2 ⟨rfl,da⟩;rw[da];clear da w2)
      |fail
     go_ret
     exact⟨by rw[xR.O];rfl,hw.O⟩
   ·have Vr:decide ((b.length:Int)<=(i:Int))=true:=bV
    have HC:Hid (cmpL a b=1):=af (by rw[<-hc.O,bB,(List.drop_of_length_le ag:b.drop i=[])];rfl)
    clear hx bB hc
    go_wp2_with fail
    go_ret
    exact⟨by rw[HC.O];rfl,hw.O⟩
  ·obtain rfl:i=a.length:=ag
   by_cases hl:a.length<b.length
   ·have VS:decide ((a.length:Int)<(b.length:Int))=true:=bV
    have HC:Hid (cmpL a b= -1):=af (by
     obtain⟨y,hy⟩:∃y,b[a.length]? =some y:=⟨b[a.length],by simp[hl]⟩
     rw[<-hc.O,xQ hy,List.drop_of_length_le (aW)];rfl)
    clear hc
    go_wp2_with fail
    go_ret
    exact⟨by rw[HC.O];rfl,hw.O⟩
   ·have VS:decide ((a.length:Int)<(b.length:Int))=false:=bV
    have HC:Hid (cmpL a b=0):=af (by rw[<-hc.O,List.drop_of_length_le (aW),(List.drop_of_length_le ag:b.drop a.length=[])];rfl)
    clear hc
    go_wp2_with fail
    go_ret
    exact⟨by rw[HC.O];rfl,hw.O⟩
theorem sH{a b:List Nat}(c d:Nat)(ha:ai w p a)(hb:ai w q b)(jr:a.length<=1000000):
 Calls Tryz.prog 140 (jF p a.length c q b.length d) w λ e w'=>e= .returned (.bool (decide (cmpL a b<0)))/\w'=w:=by
 have HC:=af (Ct c d ha hb jr)
 have RI:(a.length:Int)<=1000000:=ag
 clear ha hb jr
 go_enter Tryz.func140,Tryz.ntmps140
 go_wp2_with first
  |((with_reducible refine HC.O.mono ?_);rintro e w2 ⟨rfl,da⟩;rw[da];clear da w2)
  |fail
 go_ret
 exact⟨rfl,rfl⟩
theorem rD{a b:List Nat}(c d:Nat)(ha:ai w p a)(hb:ai w q b)(jr:a.length<=1000000):
 Calls Tryz.prog 178 (jF p a.length c q b.length d) w λ e w'=>e= .returned (.bool (decide (a=b)))/\Below w w w':=by
 have HA:=af ha
 have HB:=af hb
 have RI:(a.length:Int)<=1000000:=ag
 clear ha hb jr
 by_cases hl:a.length=b.length
 ·have bS:((a.length:Int)==(b.length:Int))=true:=by simp[hl]
  have ab1:((a.length:Int)=(b.length:Int)):=ag
  have HL:=af hl
  clear hl
  go_enter Tryz.func178,Tryz.ntmps178
  go_wp2_with fail
  go_loopw [13] (λ iv wr=>∃i:Nat,i<=a.length/\iv= .int .i64 (i:Int)/\Hid (Below w w wr)/\Hid (a.take i=b.take i)) (λ iv _=>a.length - (intOf iv).toNat)
  case atStart=>exact⟨0,ag,rfl,af (dp),af rfl⟩
  case round=>
   obtain⟨i,hi,rfl,hw,hc⟩:=hrel
   by_cases bg:i<a.length
   ·obtain⟨x,hx⟩:∃x,a[i]? =some x:=⟨a[i],by simp[bg]⟩
    obtain⟨y,hy⟩:∃y,b[i]? =some y:=⟨b[i]'(aM HL.O),by have:=HL.O;simp⟩
    obtain⟨B,o,rfl,xp⟩:=pZ HA.O hx
    obtain⟨B',o',rfl,hcy⟩:=pZ HB.O hy
    have f1:=carry hw.O xp
    have f2:=carry hw.O hcy
    have gy:(i:Int)<(a.length:Int):=ag
    have Vr:(i:Int)<(b.length:Int):=ag
    have rj:(i:Int)<=1000000:=ag
    have HX:=cj hx hy
    clear xp hcy hx hy
    by_cases RJ:x=y
    ·have hn:((x:Int)!=(y:Int))=false:=bV
     have hT:Hid (a.take (i+1)=b.take (i+1)):=af (by rw[List.take_add_one,List.take_add_one,HX.O.1,HX.O.2,hc.O,RJ])
     clear RJ
     go_wp2_with fail
     refine bP 9 ?_
     refine tP [0,1,2,3,4,5,6,7,8] ?_
     iterate 9 refine tO ?_
     refine ah 0 rfl ?_
     refine dP ?_
     go_simp
     go_wp2_with fail
     exact⟨⟨i+1,ag,by simp,af hw.O.drew,hT⟩,by simp[intOf];omega⟩
    ·have hn:((x:Int)!=(y:Int))=true:=bV
     have hT:Hid (decide (a=b)=false):=af (by
      simp only[decide_eq_false_iff_not]
      intro h;have h1:=HX.O.1;rw[h,HX.O.2]at h1;exact RJ (Option.some.inj h1).symm)
     clear RJ
     go_wp2_with fail
     refine bP 9 ?_
     refine tP [0,1,2,3,4,5,6,7,8] ?_
     iterate 9 refine tO ?_
     refine ah 0 rfl ?_
     refine dP ?_
     go_simp
     go_wp2_with fail
     go_ret
     exact⟨by rw[hT.O];rfl,hw.O.drew⟩
   ·have hT:Hid (decide (a=b)=true):=af (by
     have h:=hc.O
     have hl:=HL.O
     rw[List.take_of_length_le ag,List.take_of_length_le ag]at h
     simp[h])
    have gy:¬ (i:Int)<(a.length:Int):=ag
    go_wp2_with fail
    go_ret
    exact⟨by rw[hT.O];rfl,hw.O⟩
 ·have bS:((a.length:Int)==(b.length:Int))=false:=bV
  have HE:Hid (decide (a=b)=false):=af (by simp;intro h;exact hl (by rw[h]))
  go_enter Tryz.func178,Tryz.ntmps178
  go_wp2_with fail
  go_ret
  exact⟨by rw[HE.O];rfl,dp⟩
structure bN where
 ka:Option Addr
 key:List Nat
 kc:Nat
 put:Bool
 va:Option Addr
 val:List Nat
 vc:Nat
def bN.cells(x:bN):List Value:=(oB x.ka x.key.length x.kc x.put x.va x.val.length x.vc)
abbrev ZX(ka:Option Addr)(kl kc:Nat)(p:Bool)(va:Option Addr)(vl vc:Nat):Value:=.agg (oB ka kl kc p va vl vc)
def dS(W:World)(a:Option Addr)(l:List bN):Prop:=bj bN.cells 5 W a l/\∀x∈l,ai W x.ka x.key/\ai W x.va x.val
theorem dS.below{W W':World}{a:Option Addr}{l:List bN}(h:dS W a l)(hb:Below W W W'):dS W' a l:=⟨h.1.below hb, λ x hx=>⟨(h.2 x hx).1.below hb,(h.2 x hx).2.below hb⟩⟩
def mn(x:bN):Prop:=1<=x.key.length/\x.key.length<=120/\x.val.length<=100/\(x.put=false->x.val=[])
theorem N6{kl vl:Nat}{p:Bool}(h1:1<=kl)(h2:kl<=120)(h3:vl<=100)(h4:p=false->vl=0)(ka va:Option Addr)(kc vc:Nat)(w:World):
 Calls Tryz.prog 139 #[ZX ka kl kc p va vl vc] w λ e w'=>e= .returned (.bool true)/\Below w w w':=by
 have HB:Hid (Below w w (w.alloc (.cells (oB ka kl kc p va vl vc) 194))):=af (by go_grown)
 have e1:decide ((kl:Int)<1)=false:=bV
 have e2:decide ((120:Int)<(kl:Int))=false:=bV
 have e3:decide ((100:Int)<(vl:Int))=false:=bV
 have e4:¬ kl=0:=ag
 have e5:kl<=120:=h2
 have e6:vl<=100:=h3
 cases p with
 |true=>
  clear h1 h2 h3 h4
  go_enter Tryz.func139,Tryz.ntmps139
  go_wp2_with fail
  go_ret
  exact⟨rfl,HB.O⟩
 |false=>
  obtain rfl:=h4 rfl
  clear h1 h2 h3 h4
  go_enter Tryz.func139,Tryz.ntmps139
  go_wp2_with fail
  go_ret
  exact⟨rfl,HB.O⟩
theorem vw{l:List bN}(c:Nat)(h:dS w a l)(ho:∀x∈l,mn x)(hr:bb (l.map bN.key))(hlen:l.length<=1000):
 Calls Tryz.prog 112 (jE a l.length c) w λ e w'=>e= .returned (.int .i64 0)/\Below w w w':=by
 have HE:=cV h ho hr
 have Jl:(l.length:Int)<=1000:=ag
 clear h ho hr
 go_enter Tryz.func112,Tryz.ntmps112
 go_wp2_with fail
 go_loopw [7] (λ iv wr=>∃i:Nat,i<=l.length/\iv= .int .i64 (i:Int)/\Hid (Below w w wr)) (λ iv _=>l.length - (intOf iv).toNat)
 case atStart=>exact⟨0,ag,rfl,af (dp)⟩
 case round=>
  obtain⟨i,hi,rfl,hw⟩:=hrel
  by_cases bg:i<l.length
  ·obtain⟨x,hx⟩:∃x,l[i]? =some x:=⟨l[i],by simp[bg]⟩
   obtain⟨B,o,rfl⟩:=HE.O.1.1.some_ ag
   have hg:wr.rangeAt B (o+i*5) (oB x.ka x.key.length x.kc x.put x.va x.val.length x.vc):=(HE.O.1.below hw.O).1.get hx
   have gW:=HE.O.2.1 x (List.mem_of_getElem? hx)
   have HM:=af λ W=>N6 (p:=x.put) gW.1 gW.2.1 gW.2.2.1 (λ e=>by rw[gW.2.2.2 e];rfl) x.ka x.va x.kc x.vc W
   obtain⟨W1,qF⟩:=aK (wr.alloc (.cells (oB x.ka x.key.length x.kc x.put x.va x.val.length x.vc) 194))
   have zY:Below w w W1:=by rw[qF];exact hw.O.alloc hw.O.size _
   have hn:W1.heap[wr.heap.size]? =some (.cells (oB x.ka x.key.length x.kc x.put x.va x.val.length x.vc) 194):=jJ qF
   have gy:(i:Int)<(l.length:Int):=ag
   have rj:(i:Int)<=1000:=ag
   have HX:=af hx
   clear hx gW
   by_cases h0:i=0
   ·subst h0
    have HV:Hid (∀V,Below W1.drew.heap.size W1.drew V->True/\True/\Hid (Below w w V)):=af λ V hb=>⟨trivial,trivial,af (zY.drew.T (hb.mono zY.size))⟩
    have wP:=run_loadAt_mid (P:=Tryz.prog) W1.drew wr.heap.size 0 194 (oB x.ka x.key.length x.kc x.put x.va x.val.length x.vc) _ (aj (W:=W1.drew) hn) Tryz.underlying194 rfl aO
    have c1:True:=trivial
    rw[qF]at wP HV
    clear hn zY qF
    go_wp2_with first
     |(refine bh 194 ?_)
     |(refine nG 194 rfl _ _ rfl _ _ _ rfl aR rfl rfl aO (by simp[Value.oneCell']) ?_)
     |fail
    refine bP 19 ?_
    refine tP [0] ?_
    refine tO ?_
    refine ah 18 rfl ?_
    refine sP 1 [0] λ K hK=>?_
    go_simp
    (with_reducible refine(HM.O _).mono ?_);rintro e w2 ⟨rfl,aC⟩;obtain⟨v1,v2,v3⟩:=HV.O w2 aC;clear wP c1
    refine nP hK ?_
    clear hK K
    refine Tu [(2,true),(3,true),(4,true),(5,true),(6,true),(7,false),(8,false),(9,false),(10,false),(11,false),(12,false),(13,false),(14,false)] ?_
    iterate 5 refine tO ?_
    iterate 8 refine tF ?_
    refine ah 4 rfl ?_
    refine sP 15 [0,1,2,3,4,5,6,7,8,9,10,11,12,13,14] λ K hK=>?_
    go_simp
    refine nP hK ?_
    clear hK K
    refine Tu [(16,false),(17,true),(18,true)] ?_
    iterate 1 refine tF ?_
    iterate 2 refine tO ?_
    refine ah 0 rfl ?_
    refine dP ?_
    go_simp
    go_wp2_with fail
    exact⟨⟨1,ag,rfl,v3⟩,by simp[intOf];omega⟩
   ·obtain⟨m,rfl⟩:∃m,i=m+1:=⟨i - 1,ag⟩
    obtain⟨y,hy⟩:∃y,l[m]? =some y:=⟨l[m]'ag,by simp<;>omega⟩
    have ZY:wr.rangeAt B (o+m*5) (oB y.ka y.key.length y.kc y.put y.va y.val.length y.vc):=(HE.O.1.below hw.O).1.get hy
    have vV:cmpL y.key x.key= -1:=HE.O.2.2 m _ _ (by simp[hy]) (by simp[HX.O])
    have A2:Hid (∀V,Below w w V->Calls Tryz.prog 140 (jF y.ka y.key.length y.kc x.ka x.key.length x.kc) V λ e w'=>e= .returned (.bool true)/\w'=V):=af λ V hb=>by
     have he:=HE.O.1.below hb
     refine(sH y.kc x.kc (he.2 y (List.mem_of_getElem? hy)).1 (he.2 x (List.mem_of_getElem? HX.O)).1 (by have:=HE.O.2.1 y (List.mem_of_getElem? hy);unfold mn at this;omega)).mono ?_
     rintro e w' ⟨rfl,rfl⟩
     rw[vV];exact⟨rfl,rfl⟩
    have HV:Hid (∀V,Below W1.drew.heap.size W1.drew V->V.cell? ⟨B,o+m*5,none⟩=some (.slice y.ka y.key.length y.kc)/\V.cell? (za wr 0)=some (.slice x.ka x.key.length x.kc)/\Hid (Below w w V)):=af λ V hb=>by
     have aQ:Below wr wr W1:=by rw[qF];go_grown
     exact⟨carry hb (carry aQ.drew (ZY 0 _ rfl)),carry hb ((aa (W:=W1.drew) hn 0).T rfl),af (zY.drew.T (hb.mono zY.size))⟩
    have wP:=run_loadAt_mid (P:=Tryz.prog) W1.drew wr.heap.size 0 194 (oB x.ka x.key.length x.kc x.put x.va x.val.length x.vc) _ (aj (W:=W1.drew) hn) Tryz.underlying194 rfl aO
    have c1:True:=trivial
    have zO:(0:Int)<(m:Int)+1:=ag
    have Qa:IntKind.i64.wrap (m:Int)=(m:Int):=by rw[IntKind.wrap_i64];omega
    have hm3:(m:Int)<(l.length:Int):=ag
    rw[qF]at wP HV
    clear hn zY qF ZY vV hy
    go_wp2_with first
     |(refine bh 194 ?_)
     |(refine nG 194 rfl _ _ rfl _ _ _ rfl aR rfl rfl aO (by simp[Value.oneCell']) ?_)
     |fail
    refine bP 19 ?_
    refine tP [0] ?_
    refine tO ?_
    refine ah 18 rfl ?_
    refine sP 1 [0] λ K hK=>?_
    go_simp
    (with_reducible refine(HM.O _).mono ?_);rintro e w2 ⟨rfl,aC⟩;obtain⟨v1,v2,v3⟩:=HV.O w2 aC;clear wP c1
    refine nP hK ?_
    clear hK K
    refine tP [2,3,4,5,6,7,8,9,10,11,12,13,14] ?_
    iterate 13 refine tO ?_
    refine ah 4 rfl ?_
    refine sP 15 [0,1,2,3,4,5,6,7,8,9,10,11,12,13,14] λ K hK=>?_
    go_simp
    (with_reducible refine(A2.O _ v3.O).mono ?_);rintro e w4 ⟨rfl,gA⟩;rw[gA];clear gA w4
    refine nP hK ?_
    clear hK K
    refine tP [16,17,18] ?_
    iterate 3 refine tO ?_
    refine ah 0 rfl ?_
    refine dP ?_
    go_simp
    go_wp2_with fail
    exact⟨⟨m+2,ag,by simp;omega,v3⟩,by simp[intOf];omega⟩
  ·obtain rfl:i=l.length:=ag
   go_wp2_with fail
   go_ret
   exact⟨rfl,hw.O⟩
def nH(x:bN):an:=⟨x.ka,x.key,x.kc,x.va,x.val,x.vc⟩
def X1(y:an)(x:bN):Bool:=decide (cmpL y.key x.key<0)
def mo(x:bN):List an->List an
 |[]=>[]
 |y::r=>if y.key=x.key then r else y::r
def bE:List an->List bN->List an
 |its,[]=>its
 |its,x::l=>its.takeWhile (X1 · x)++((if x.put then[nH x]else[])++bE (mo x (its.dropWhile (X1 · x))) l)
theorem N7{x:bN}{l:List bN}(h:X1 y x=true):bE (y::r) (x::l)=y::bE r (x::l):=by
 simp[bE,h]
theorem xS{its:List an}{x:bN}{l:List bN}(h:∀y r,its=y::r->X1 y x=false):bE its (x::l)=(if x.put then[nH x]else[])++bE (mo x its) l:=by
 cases its with
 |nil=>simp[bE]
 |cons y r=>simp[bE,h y r rfl]
def ZZ:Value->Nat
 | .slice _ n _=>n
 |_=>0
theorem jc{β:Type}{xs:List β}{x:β}(h:xs[i]? =some x):xs.drop i=x::xs.drop (i+1):=by
 rw[List.drop_eq_getElem_cons (List.getElem?_eq_some_iff.1 h).1,(List.getElem?_eq_some_iff.1 h).2]
structure mW(w:World)(p:Option Addr)(cc:Nat)(its:List an):Prop where
 row:bj an.cells 4 w p its
 bytes:∀y∈its,ai w y.ka y.key/\ai w y.va y.val
 cap:its.length<=cc
 nil:p=none->cc=0
 plain:p=none\/∃B o,p=some ⟨B,o,none⟩
 small:its.length<=1000/\∀y∈its,y.key.length<=1000
theorem mW.next{q:Nat}(h:mW w (some ⟨B,q,none⟩) (cc+1) (y::r)):mW w (some ⟨B,q+4,none⟩) cc r where
 row:=h.row.drop 1
 bytes:= λ z hz=>h.bytes z (List.mem_cons_of_mem _ hz)
 cap:=by have:=h.cap;simp at this;exact this
 nil:= λ e=>by cases e
 plain:=.inr ⟨_,_,rfl⟩
 small:=⟨by have:=h.small.1;simp at this;omega, λ z hz=>h.small.2 z (List.mem_cons_of_mem _ hz)⟩
theorem mW.TK{q:Nat}(h:mW w (some ⟨B,q,none⟩) (cc+1) (y::r)):mW w (if cc=0 then some ⟨B,q,none⟩else some ⟨B,q+4,none⟩) cc r:=by
 by_cases h0:cc=0
 ·subst h0
  have hc:=h.next.cap
  have:r=[]:=List.length_eq_zero_iff.1 ag
  subst this
  rw[if_pos rfl]
  exact⟨.inl rfl, λ y hy=>(by cases hy),aW, λ e=>(by cases e),.inr ⟨_,_,rfl⟩,by simp, λ y hy=>(by cases hy)⟩
 ·rw[if_neg h0];exact h.next
theorem GR{E:Nat}{fz:Nat×Nat}(h:W.ownsRow n₀ e sz (.slice a k c) k xs)(hE:W.heap[E]? =some (.cells cs t fz))(zQ:t≠e):(Value.slice a k c).ownBlock≠some E:= λ he=>by
 rcases ay h with⟨rfl,_⟩|⟨g,cur,rfl,_,hg⟩
 ·simp[Value.ownBlock]at he
 ·obtain rfl:g=E:=by simpa[Value.ownBlock]using he
  rw[hE]at hg
  injection hg with h5
  injection h5 with _ h6 _
  exact zQ h6
theorem mS:(Tryz.prog.info? 114).map (λ i=>(i.zero,i.size,i.bytes))=some (some (.agg iT),4,64):=aO
structure eb(w W:World)(q:Option Addr)(k k':Nat)(ys:List an):Prop where
 base:Below w w W
 row:W.ownsRow w 114 4 (.slice q k k') k (ys.flatMap an.cells)
 len:k=ys.length
theorem eb.drew{w W:World}{q:Option Addr}{k k':Nat}{ys:List an}(h:eb w W q k k' ys):eb w W.drew q k k' ys:=⟨h.base.drew,h.row,h.len⟩
theorem xT:∀its:List an,(its.flatMap an.cells).length=its.length*4
 |[]=>rfl
 |y::r=>by rw[List.flatMap_cons,List.length_append,xT r,List.length_cons,Nat.succ_mul,Nat.add_comm];rfl
theorem xU(y:an):∀u∈y.cells,u.oneCell'=true:=by intro u hu;simp only[an.cells,List.mem_cons,List.not_mem_nil,or_false]at hu;rcases hu with rfl|rfl|rfl|rfl<;>rfl
theorem eb.put{ys:List an}(h:eb w W q k k' ys)(y:an)(hk:k<=100000):
 ∃g' c' w',(Builtin.append_ #[108,108] 108 (jF q k k' (zp W) 1 1)).run Tryz.prog (W.alloc (.cells (dv y.ka y.key.length y.kc y.va y.val.length y.vc) 114))= .ok (.slice (zp g') (k+1) c') w'/\eb w w' (zp g') (k+1) c' (ys++[y])/\
  ∀(E:Nat) (cs:Array Value) (t:TypeId),W.heap[E]? =some (.cells cs t)->t≠114->w'.heap[E]? =some (.cells cs t):=by
 obtain⟨g',c',w',bt,hr,hg⟩:=eF (P:=Tryz.prog) 108 114 (.agg iT) 4 64 aO mS rfl bd y.cells rfl (xU y) h.row ag ag h.base.size
 refine⟨g',c',w',bt,⟨h.base.T hg.below,by simpa using hr,by rw[h.len];simp⟩, λ E cs t hE ht=>?_⟩
 exact(hg.bT E (aX hE).1 (GR h.row hE ht)).T hE
theorem Es{e:Option Addr}{xs:List an}{l:List bN}(ce:Nat)(hx:mW w a c xs)(hrx:bb (xs.map an.key))(h:dS w e l)(ho:∀x∈l,mn x)(hr:bb (l.map bN.key))(hlen:l.length<=1000):
 Calls Tryz.prog 141 (jF a xs.length c e l.length ce) w λ e' w'=>∃a' c',e'= .returned (.tuple (BH a' (bE xs l).length c'))/\w'.ownsRow w 114 4 (.slice a' (bE xs l).length c') (bE xs l).length ((bE xs l).flatMap an.cells)/\Below w w w':=by
 have HC:=af (vw ce h ho hr hlen)
 have HE:=cV h ho hr
 have HX:=cj hx hrx
 have Jl:(l.length:Int)<=1000:=ag
 have hxl:=hx.small.1
 have adm:(xs.length:Int)<=1000:=ag
 clear h ho hr hx hrx
 go_enter Tryz.func141,Tryz.ntmps141
 go_wp2_with first
  |((with_reducible refine HC.O.mono ?_);rintro e' w2 ⟨rfl,aC⟩;have bR:=af aC;clear aC)
  |fail
 go_loopw [18] (λ iv wr=>∃i:Nat,i<=xs.length/\iv= .int .i64 (i:Int)/\Hid (Below w w wr)) (λ iv _=>xs.length - (intOf iv).toNat)
 case atStart=>exact⟨0,ag,rfl,af bR.O⟩
 case round=>
  obtain⟨i,hi,rfl,hw⟩:=hrel
  by_cases bg:i<xs.length
  ·obtain⟨x,hx⟩:∃x,xs[i]? =some x:=⟨xs[i],by simp[bg]⟩
   obtain⟨B,o,rfl⟩:=HX.O.1.row.some_ ag
   have hgx:wr.cell? ⟨B,o+i*4,none⟩=some (.slice x.ka x.key.length x.kc):=carry hw.O ((HX.O.1.row.get hx) 0 _ rfl)
   have gy:(i:Int)<(xs.length:Int):=ag
   have rj:(i:Int)<=1000:=ag
   by_cases h0:i=0
   ·subst h0
    clear hgx hx
    go_wp2_with fail
    refine bP 17 ?_
    refine Tu [(0,true),(1,true),(2,true),(3,false),(4,false),(5,false),(6,false),(7,false),(8,false),(9,false),(10,false),(11,false),(12,false),(13,false)] ?_
    iterate 3 refine tO ?_
    iterate 11 refine tF ?_
    refine ah 3 rfl ?_
    refine sP 14 [0,1,2,3,4,5,6,7,8,9,10,11,12,13] λ K hK=>?_
    go_simp
    refine nP hK ?_
    clear hK K
    refine Tu [(15,false),(16,true)] ?_
    iterate 1 refine tF ?_
    refine tO ?_
    refine ah 0 rfl ?_
    refine dP ?_
    go_simp
    go_wp2_with fail
    exact⟨⟨1,ag,rfl,af hw.O.drew⟩,by simp[intOf];omega⟩
   ·obtain⟨m,rfl⟩:∃m,i=m+1:=⟨i - 1,ag⟩
    obtain⟨y,hy⟩:∃y,xs[m]? =some y:=⟨xs[m]'ag,by simp<;>omega⟩
    have ZY:wr.cell? ⟨B,o+m*4,none⟩=some (.slice y.ka y.key.length y.kc):=carry hw.O ((HX.O.1.row.get hy) 0 _ rfl)
    have tJ:(0:Int)<=(m:Int)+1:=ag
    have vV:cmpL y.key x.key= -1:=HX.O.2 m _ _ (by simp[hy]) (by simp[hx])
    have A2:Hid (Calls Tryz.prog 140 (jF y.ka y.key.length y.kc x.ka x.key.length x.kc) wr.drew λ e w'=>e= .returned (.bool true)/\w'=wr.drew):=af (by
     refine(sH y.kc x.kc ((HX.O.1.bytes y (List.mem_of_getElem? hy)).1.below hw.O.drew) ((HX.O.1.bytes x (List.mem_of_getElem? hx)).1.below hw.O.drew) (aM (HX.O.1.small.2 y (List.mem_of_getElem? hy)))).mono ?_
     rintro e w' ⟨rfl,rfl⟩
     rw[vV];exact⟨rfl,rfl⟩)
    have zO:(0:Int)<(m:Int)+1:=ag
    have Qa:IntKind.i64.wrap (m:Int)=(m:Int):=by rw[IntKind.wrap_i64];omega
    have hm3:(m:Int)<(xs.length:Int):=ag
    clear vV hy hx
    go_wp2_with fail
    refine bP 17 ?_
    refine tP [0,1,2,3,4,5,6,7,8,9,10,11,12,13] ?_
    iterate 14 refine tO ?_
    refine ah 3 rfl ?_
    refine sP 14 [0,1,2,3,4,5,6,7,8,9,10,11,12,13] λ K hK=>?_
    go_simp
    (with_reducible refine A2.O.mono ?_);rintro e w4 ⟨rfl,gA⟩;rw[gA];clear gA w4
    refine nP hK ?_
    clear hK K
    refine tP [15,16] ?_
    iterate 2 refine tO ?_
    refine ah 0 rfl ?_
    refine dP ?_
    go_simp
    go_wp2_with fail
    exact⟨⟨m+2,ag,by simp;omega,af hw.O.drew⟩,by simp[intOf];omega⟩
  ·obtain rfl:i=xs.length:=ag
   go_wp2_with fail
   go_loopw [0,8,41] (λ tv ov iv wr=>∃(j:Nat) (p:Option Addr) (m cc:Nat) (its:List an) (q:Option Addr) (k k':Nat) (ys:List an),j<=l.length/\iv= .int .i64 (j:Int)/\tv= .slice p m cc/\Hid (m=its.length)/\ov= .slice q k k'/\Hid (mW w p cc its)/\Hid (eb w wr q k k' ys)/\Hid (ys++bE its (l.drop j)=bE xs l)/\Hid (k+m<=1000+j)) (λ _ _ iv _=>l.length - (intOf iv).toNat)
   case atStart=>exact⟨0,_,_,_,xs,none,0,0,[],ag,rfl,rfl,af rfl,rfl,af HX.O.1,af ⟨hw.O,World.ownsRow_nil _ _ _ _,rfl⟩,af rfl,af ag⟩
   case round=>
    obtain⟨j,p,m,cc,its,q,k,k',ys,hj,rfl,rfl,hm,rfl,hF,hD,hE,hk⟩:=hrel
    by_cases bg:j<l.length
    ·obtain⟨x,hx⟩:∃x,l[j]? =some x:=⟨l[j],by simp[bg]⟩
     obtain⟨B,o,rfl⟩:=HE.O.1.1.some_ ag
     have hg:wr.rangeAt B (o+j*5) (oB x.ka x.key.length x.kc x.put x.va x.val.length x.vc):=(HE.O.1.below hD.O.base).1.get hx
     have gy:(j:Int)<(l.length:Int):=ag
     have rj:(j:Int)<=1000:=ag
     have HT:=cj hx (jc hx)
     have hn:(wr.alloc (.cells (oB x.ka x.key.length x.kc x.put x.va x.val.length x.vc) 194)).heap[wr.heap.size]? =some (.cells (oB x.ka x.key.length x.kc x.put x.va x.val.length x.vc) 194):=World.alloc_heap_new _ _
     have hD1:Hid (eb w (wr.alloc (.cells (oB x.ka x.key.length x.kc x.put x.va x.val.length x.vc) 194)) q k k' ys):=af ⟨hD.O.base.alloc hD.O.base.size _,hD.O.row.alloc _,hD.O.len⟩
     have HN:=af hn
     clear hn hx bg
     go_wp2_with first
     |(refine bh 194 ?_)
     |(refine nG 194 rfl _ _ rfl _ _ _ rfl aR rfl rfl aO (by simp[Value.oneCell']) ?_)
     |fail
     obtain⟨E,hEq⟩:=aK wr.heap.size
     rw[<-hEq]
     rw[<-hEq]at HN
     have HEW:=af hEq
     clear hEq
     go_loopw [0,8] (λ tv ov wq=>∃(p:Option Addr) (m cc:Nat) (its:List an) (q:Option Addr) (k k':Nat) (ys:List an),tv= .slice p m cc/\Hid (m=its.length)/\ov= .slice q k k'/\Hid (mW w p cc its)/\Hid (eb w wq q k k' ys)/\Hid (ys++bE its (l.drop j)=bE xs l)/\Hid (k+m<=1000+j)/\Hid (wq.heap[E]? =some (.cells (oB x.ka x.key.length x.kc x.put x.va x.val.length x.vc) 194))) (λ tv _ _=>ZZ tv)
     case atStart=>exact⟨_,_,_,its,_,_,_,ys,rfl,hm,rfl,hF,hD1,hE,hk,HN⟩
     case round=>
      clear hF hD hD1 hE hk HN hm
      obtain⟨p,m,cc,its,q,k,k',ys,rfl,hm,rfl,hF,hD,hE,hk,hN⟩:=hrel
      have d0:wr.cell? (za E 0)=some (.slice x.ka x.key.length x.kc):=(aa hN.O 0).T rfl
      cases its with
      |nil=>
       obtain rfl:m=0:=hm.O
       clear d0
       go_wp2_with fail
       refine bP 12 ?_
       refine Tu [(0,true),(1,true),(2,true),(3,true),(4,false),(5,false),(6,false),(7,false),(8,false),(9,false)] ?_
       iterate 4 refine tO ?_
       iterate 6 refine tF ?_
       refine ah 2 rfl ?_
       refine sP 10 [0,1,2,3,4,5,6,7,8,9] λ K hK=>?_
       go_simp
       refine nP hK ?_
       clear hK K
       refine tP [11] ?_
       refine tO ?_
       refine ah 0 rfl ?_
       refine dP ?_
       go_simp
       go_wp2_with fail
       refine bP 12 ?_
       refine Tu [(0,true),(1,true),(2,true),(3,true),(4,false),(5,false),(6,false),(7,false),(8,false),(9,false)] ?_
       iterate 4 refine tO ?_
       iterate 6 refine tF ?_
       refine ah 2 rfl ?_
       refine sP 10 [0,1,2,3,4,5,6,7,8,9] λ K hK=>?_
       go_simp
       refine nP hK ?_
       clear hK K
       refine tP [11] ?_
       refine tO ?_
       refine ah 0 rfl ?_
       refine dP ?_
       go_simp
       have Qw:Hid (mW w p cc (([]:List an))):=af hF.O
       have mU:Hid (0=(([]:List an)).length):=af rfl
       have KF:Hid (k+0<=1000+j):=af (by have:=hk.O;have:=hm.O;(try simp only[List.length_cons]at*);omega)
       have TL:Hid (ys++((if x.put then[nH x]else[])++bE (([]:List an)) (l.drop (j+1)))=bE xs l):=af (by rw[<-hE.O,HT.O.2,xS (by intro y r e;cases e)];rfl)
       have s1:wr.cell? (za E 1)=some (.bool x.put):=(aa hN.O 1).T rfl
       have GS:IntKind.i64.wrap ((j:Int)+1)=(j:Int)+1:=by rw[IntKind.wrap_i64];omega
       rcases jw:x.put with _|_
       ·rw[jw]at s1
        have uq:Hid (ys++bE (([]:List an)) (l.drop (j+1))=bE xs l):=af (by have:=TL.O;rw[jw]at this;simpa using this)
        have KP:=af ((eb.drew (eb.drew hD.O)))
        clear jw
        go_wp2_with fail
        refine⟨⟨j+1,_,_,_,([]:List an),_,_,_,ys,ag,by simp,rfl,mU,rfl,Qw,KP,uq,af (aM KF.O)⟩,by simp[intOf];omega⟩
       ·rw[jw]at s1
        have s0:wr.cell? (za E 0)=some (.slice x.ka x.key.length x.kc):=(aa hN.O 0).T rfl
        have s2:wr.cell? (za E 2)=some (.slice x.va x.val.length x.vc):=(aa hN.O 2).T rfl
        have s3:wr.cell? (za E 3)=some (.bool false):=(aa hN.O 3).T rfl
        have s4:wr.cell? (za E 4)=some (.int .i64 0):=(aa hN.O 4).T rfl
        obtain⟨g',c',w',bt,GU, -⟩:∃g' c' w',(Builtin.append_ #[108,108] 108 (jF q k k' (zp wr) 1 1)).run Tryz.prog (wr.alloc (.cells (dv x.ka x.key.length x.kc x.va x.val.length x.vc) 114)).drew.drew= .ok (.slice (zp g') (k+1) c') w'/\eb w w' (zp g') (k+1) c' (ys++[nH x])/\True:=(let⟨a1,a2,a3,a4,a5,_⟩:=eb.put ((eb.drew (eb.drew hD.O))) (nH x) (aM KF.O);⟨a1,a2,a3,a4,a5,trivial⟩)
        have uq:Hid ((ys++[nH x])++bE (([]:List an)) (l.drop (j+1))=bE xs l):=af (by have:=TL.O;rw[jw]at this;simpa using this)
        have KP:=af GU
        clear jw GU
        go_wp2_with fail
        refine⟨⟨j+1,_,_,_,([]:List an),_,_,_,ys++[nH x],ag,by simp,rfl,mU,rfl,Qw,KP,uq,af (aM KF.O)⟩,by simp[intOf];omega⟩
      |cons y r=>
       obtain⟨m',rfl⟩:∃m',m=m'+1:=⟨r.length,hm.O⟩
       obtain⟨X2,rfl⟩:∃X2,cc=X2+1:=⟨cc - 1,by have:=hF.O.cap;simp at this;omega⟩
       obtain⟨B2,o2,rfl⟩:=hF.O.row.some_ aR
       have y0:wr.cell? ⟨B2,o2,none⟩=some (.slice y.ka y.key.length y.kc):=by have:=hF.O.row.get (j:=0) rfl 0 _ rfl;simp only[Nat.zero_mul,Nat.add_zero]at this;exact carry hD.O.base this
       have y1:wr.cell? (za B2 (o2+1))=some (.slice y.va y.val.length y.vc):=by have:=hF.O.row.get (j:=0) rfl 1 _ rfl;simp only[Nat.zero_mul,Nat.add_zero]at this;exact carry hD.O.base this
       have y2:wr.cell? (za B2 (o2+2))=some (.bool false):=by have:=hF.O.row.get (j:=0) rfl 2 _ rfl;simp only[Nat.zero_mul,Nat.add_zero]at this;exact carry hD.O.base this
       have y3:wr.cell? (za B2 (o2+3))=some (.int .i64 0):=by have:=hF.O.row.get (j:=0) rfl 3 _ rfl;simp only[Nat.zero_mul,Nat.add_zero]at this;exact carry hD.O.base this
       have VI:=hF.O.small.2 y List.mem_cons_self
       have A2:Hid (Calls Tryz.prog 140 (jF y.ka y.key.length y.kc x.ka x.key.length x.kc) wr.drew λ e w'=>e= .returned (.bool (X1 y x))/\w'=wr.drew):=af (sH y.kc x.kc ((hF.O.bytes y List.mem_cons_self).1.below hD.O.base.drew) ((HE.O.1.2 x (List.mem_of_getElem? HT.O.1)).1.below hD.O.base.drew) ag)
       have HQS:Hid (Calls Tryz.prog 178 (jF y.ka y.key.length y.kc x.ka x.key.length x.kc) wr.drew.drew λ e w'=>e= .returned (.bool (decide (y.key=x.key)))/\Below wr.drew.drew.heap.size wr.drew.drew w'):=af (rD y.kc x.kc ((hF.O.bytes y List.mem_cons_self).1.below hD.O.base.drew.drew) ((HE.O.1.2 x (List.mem_of_getElem? HT.O.1)).1.below hD.O.base.drew.drew) ag)
       have hp:(0:Int)<(m':Int)+1:=ag
       have hp1:(1:Int)<=(m':Int)+1:=ag
       clear VI
       rcases bg:X1 y x with _|_
       ·rw[bg]at A2
        go_wp2_with fail
        refine bP 12 ?_
        refine tP [0,1,2,3,4,5,6,7,8,9] ?_
        iterate 10 refine tO ?_
        refine ah 2 rfl ?_
        refine sP 10 [0,1,2,3,4,5,6,7,8,9] λ K hK=>?_
        go_simp
        (with_reducible refine A2.O.mono ?_);rintro e w4 ⟨rfl,gA⟩;rw[gA];clear gA w4
        refine nP hK ?_
        clear hK K
        refine tP [11] ?_
        refine tO ?_
        refine ah 0 rfl ?_
        refine dP ?_
        go_simp
        go_wp2_with fail
        by_cases eK:y.key=x.key
        ·have VT:decide (y.key=x.key)=true:=by simp[eK]
         rw[VT]at HQS
         have VU:=af eK
         clear eK VT
         refine bP 12 ?_
         refine tP [0,1,2,3,4,5,6,7,8,9] ?_
         iterate 10 refine tO ?_
         refine ah 2 rfl ?_
         refine sP 10 [0,1,2,3,4,5,6,7,8,9] λ K hK=>?_
         go_simp
         (with_reducible refine HQS.O.mono ?_);rintro e V ⟨rfl,jA⟩;have eP:=af jA;clear jA
         refine nP hK ?_
         clear hK K
         refine tP [11] ?_
         refine tO ?_
         refine ah 0 rfl ?_
         refine dP ?_
         go_simp
         have Z0:eb w V q k k' ys:=⟨(hD.O.base.drew.drew).T (eP.O.mono hD.O.base.size),bO.row (w:=wr.drew.drew) (n₀:=w.heap.size) eP.O hD.O.row,hD.O.len⟩
         have N9:V.heap[E]? =some (.cells (oB x.ka x.key.length x.kc x.put x.va x.val.length x.vc) 194):=(eP.O.block E (aX hN.O).1).T hN.O
         have Qw:Hid (mW w (if X2=0 then some ⟨B2,o2,none⟩else some ⟨B2,o2+4,none⟩) X2 (r)):=af hF.O.TK
         have mU:Hid (m'=(r).length):=af (by have:=hm.O;simp at this;omega)
         have KF:Hid (k+m'<=1000+j):=af (by have:=hk.O;have:=hm.O;(try simp only[List.length_cons]at*);omega)
         have TL:Hid (ys++((if x.put then[nH x]else[])++bE (r) (l.drop (j+1)))=bE xs l):=af (by rw[<-hE.O,HT.O.2,xS (by intro y2 r2 e;cases e;exact bg)];simp[mo,VU.O])
         have s1:V.cell? (za E 1)=some (.bool x.put):=(aa N9 1).T rfl
         have GS:IntKind.i64.wrap ((j:Int)+1)=(j:Int)+1:=by rw[IntKind.wrap_i64];omega
         rcases jw:x.put with _|_
         ·rw[jw]at s1
          have uq:Hid (ys++bE (r) (l.drop (j+1))=bE xs l):=af (by have:=TL.O;rw[jw]at this;simpa using this)
          have KP:=af (Z0)
          clear jw
          go_wp2_with fail
          refine⟨⟨j+1,_,_,_,r,_,_,_,ys,ag,by simp,rfl,mU,rfl,Qw,KP,uq,af (aM KF.O)⟩,by simp[intOf];omega⟩
         ·rw[jw]at s1
          have s0:V.cell? (za E 0)=some (.slice x.ka x.key.length x.kc):=(aa N9 0).T rfl
          have s2:V.cell? (za E 2)=some (.slice x.va x.val.length x.vc):=(aa N9 2).T rfl
          have s3:V.cell? (za E 3)=some (.bool false):=(aa N9 3).T rfl
          have s4:V.cell? (za E 4)=some (.int .i64 0):=(aa N9 4).T rfl
          obtain⟨g',c',w',bt,GU, -⟩:∃g' c' w',(Builtin.append_ #[108,108] 108 (jF q k k' (zp V) 1 1)).run Tryz.prog (V.alloc (.cells (dv x.ka x.key.length x.kc x.va x.val.length x.vc) 114))= .ok (.slice (zp g') (k+1) c') w'/\eb w w' (zp g') (k+1) c' (ys++[nH x])/\True:=(let⟨a1,a2,a3,a4,a5,_⟩:=eb.put (Z0) (nH x) (aM KF.O);⟨a1,a2,a3,a4,a5,trivial⟩)
          have uq:Hid ((ys++[nH x])++bE (r) (l.drop (j+1))=bE xs l):=af (by have:=TL.O;rw[jw]at this;simpa using this)
          have KP:=af GU
          clear jw GU
          go_wp2_with fail
          refine⟨⟨j+1,_,_,_,r,_,_,_,ys++[nH x],ag,by simp,rfl,mU,rfl,Qw,KP,uq,af (aM KF.O)⟩,by simp[intOf];omega⟩
        ·have VT:decide (y.key=x.key)=false:=by simp[eK]
         rw[VT]at HQS
         have VU:=af eK
         clear eK VT
         refine bP 12 ?_
         refine tP [0,1,2,3,4,5,6,7,8,9] ?_
         iterate 10 refine tO ?_
         refine ah 2 rfl ?_
         refine sP 10 [0,1,2,3,4,5,6,7,8,9] λ K hK=>?_
         go_simp
         (with_reducible refine HQS.O.mono ?_);rintro e V ⟨rfl,jA⟩;have eP:=af jA;clear jA
         refine nP hK ?_
         clear hK K
         refine tP [11] ?_
         refine tO ?_
         refine ah 0 rfl ?_
         refine dP ?_
         go_simp
         have Z0:eb w V q k k' ys:=⟨(hD.O.base.drew.drew).T (eP.O.mono hD.O.base.size),bO.row (w:=wr.drew.drew) (n₀:=w.heap.size) eP.O hD.O.row,hD.O.len⟩
         have N9:V.heap[E]? =some (.cells (oB x.ka x.key.length x.kc x.put x.va x.val.length x.vc) 194):=(eP.O.block E (aX hN.O).1).T hN.O
         have Qw:Hid (mW w (some ⟨B2,o2,none⟩) (X2+1) (y::r)):=af hF.O
         have mU:Hid ((m'+1)=(y::r).length):=af hm.O
         have KF:Hid (k+(m'+1)<=1000+j):=af (by have:=hk.O;have:=hm.O;(try simp only[List.length_cons]at*);omega)
         have TL:Hid (ys++((if x.put then[nH x]else[])++bE (y::r) (l.drop (j+1)))=bE xs l):=af (by rw[<-hE.O,HT.O.2,xS (by intro y2 r2 e;cases e;exact bg)];simp[mo,VU.O])
         have s1:V.cell? (za E 1)=some (.bool x.put):=(aa N9 1).T rfl
         have GS:IntKind.i64.wrap ((j:Int)+1)=(j:Int)+1:=by rw[IntKind.wrap_i64];omega
         rcases jw:x.put with _|_
         ·rw[jw]at s1
          have uq:Hid (ys++bE (y::r) (l.drop (j+1))=bE xs l):=af (by have:=TL.O;rw[jw]at this;simpa using this)
          have KP:=af (Z0)
          clear jw
          go_wp2_with fail
          refine⟨⟨j+1,_,_,_,y::r,_,_,_,ys,ag,by simp,rfl,mU,rfl,Qw,KP,uq,af (aM KF.O)⟩,by simp[intOf];omega⟩
         ·rw[jw]at s1
          have s0:V.cell? (za E 0)=some (.slice x.ka x.key.length x.kc):=(aa N9 0).T rfl
          have s2:V.cell? (za E 2)=some (.slice x.va x.val.length x.vc):=(aa N9 2).T rfl
          have s3:V.cell? (za E 3)=some (.bool false):=(aa N9 3).T rfl
          have s4:V.cell? (za E 4)=some (.int .i64 0):=(aa N9 4).T rfl
          obtain⟨g',c',w',bt,GU, -⟩:∃g' c' w',(Builtin.append_ #[108,108] 108 (jF q k k' (zp V) 1 1)).run Tryz.prog (V.alloc (.cells (dv x.ka x.key.length x.kc x.va x.val.length x.vc) 114))= .ok (.slice (zp g') (k+1) c') w'/\eb w w' (zp g') (k+1) c' (ys++[nH x])/\True:=(let⟨a1,a2,a3,a4,a5,_⟩:=eb.put (Z0) (nH x) (aM KF.O);⟨a1,a2,a3,a4,a5,trivial⟩)
          have uq:Hid ((ys++[nH x])++bE (y::r) (l.drop (j+1))=bE xs l):=af (by have:=TL.O;rw[jw]at this;simpa using this)
          have KP:=af GU
          clear jw GU
          go_wp2_with fail
          refine⟨⟨j+1,_,_,_,y::r,_,_,_,ys++[nH x],ag,by simp,rfl,mU,rfl,Qw,KP,uq,af (aM KF.O)⟩,by simp[intOf];omega⟩
       ·rw[bg]at A2
        obtain⟨g',c',w',bt,GU,Oa⟩:∃g' c' w',(Builtin.append_ #[108,108] 108 (jF q k k' (zp wr) 1 1)).run Tryz.prog (wr.alloc (.cells (dv y.ka y.key.length y.kc y.va y.val.length y.vc) 114)).drew.drew= .ok (.slice (zp g') (k+1) c') w'/\eb w w' (zp g') (k+1) c' (ys++[y])/\∀(E:Nat) (cs:Array Value) (t:TypeId),wr.heap[E]? =some (.cells cs t)->t≠114->w'.heap[E]? =some (.cells cs t):=(eb.drew (eb.drew hD.O)).put y (aM hk.O)
        have KP:=af GU
        have hNF:Hid (w'.heap[E]? =some (.cells (oB x.ka x.key.length x.kc x.put x.va x.val.length x.vc) 194)):=af (Oa _ _ _ hN.O bd)
        have uq:Hid ((ys++[y])++bE r (l.drop j)=bE xs l):=af (by rw[<-hE.O,HT.O.2,N7 bg];simp)
        clear GU Oa bg
        go_wp2_with fail
        refine bP 12 ?_
        refine tP [0,1,2,3,4,5,6,7,8,9] ?_
        iterate 10 refine tO ?_
        refine ah 2 rfl ?_
        refine sP 10 [0,1,2,3,4,5,6,7,8,9] λ K hK=>?_
        go_simp
        (with_reducible refine A2.O.mono ?_);rintro e w4 ⟨rfl,gA⟩;rw[gA];clear gA w4
        refine nP hK ?_
        clear hK K
        refine tP [11] ?_
        refine tO ?_
        refine ah 0 rfl ?_
        refine dP ?_
        go_simp
        go_wp2_with fail
        refine bP 10 ?_
        refine tP [0,1,2,3,6,7] ?_
        iterate 6 refine tO ?_
        refine ah 4 rfl ?_
        refine sP 4 [1,2,3] λ K hK=>?_
        go_simp
        refine nP hK ?_
        clear hK K
        refine sP 5 [0,1,2,3,4] λ K hK=>?_
        go_simp
        refine nP hK ?_
        clear hK K
        refine tP [8,9] ?_
        iterate 2 refine tO ?_
        refine ah 0 rfl ?_
        refine dP ?_
        go_simp
        go_wp2_with fail
        refine⟨⟨_,m',X2,r,_,_,_,ys++[y],rfl,af (by have:=hm.O;simp at this;omega),rfl,af hF.O.TK,KP,uq,af (aM hk.O),hNF⟩,by simp[ZZ]⟩
    ·obtain rfl:j=l.length:=ag
     have ja:=hF.O.cap
     have fG:=hF.O.small.1
     have Rf:=hE.O
     rw[List.drop_of_length_le (aW)]at Rf
     have KM:=hF.O.nil
     obtain⟨a',c',w',bt,DC,mg⟩:=ph (P:=Tryz.prog) 108 114 (.agg iT) 4 64 aO mS rfl bd (W:=wr) (m:=m) (cc:=cc) (src:=p) (news:=its.flatMap an.cells) (by rw[hm.O];exact xT its) (by rw[hm.O];exact(show bj an.cells 4 wr p its from(hF.O.row.below hD.O.base)).src hF.O.plain (λ _=>rfl) bd) (by intro u hu;obtain⟨y,_,hy⟩:=List.mem_flatMap.1 hu;exact xU y u hy) hD.O.row (aM hk.O) ag hD.O.base.size KM
     have HR:Hid ((∃a'' c'',Value.slice a' (k+m) c'= .slice a'' (bE xs l).length c''/\w'.ownsRow w 114 4 (.slice a'' (bE xs l).length c'') (bE xs l).length ((bE xs l).flatMap an.cells))/\Below w w w'):=af (by
      have e1:ys++its=bE xs l:=by
       have:bE its []=its:=by cases its<;>rfl
       rw[<-this];exact Rf
      have e2:k+m=(bE xs l).length:=by rw[<-e1,hD.O.len,hm.O,List.length_append]
      rw[<-List.flatMap_append,e1]at DC
      refine⟨⟨a',c',by rw[e2],?_⟩,hD.O.base.T mg.below⟩
      rw[<-e2];exact DC)
     clear ja fG Rf KM DC mg
     go_wp2_with fail
     go_ret2
     obtain⟨⟨a'',c'',e1,e2⟩,e3⟩:=HR.O
     exact⟨a'',c'',by rw[<-e1]<;>rfl,e2,e3⟩
structure sI(α:Type)where
 f:α->List Value
 sz:Nat
 VV:∀x,(f x).length=sz
 pos:0<sz
 one:∀x,∀u∈f x,u.oneCell'=true
 gp:World->α->Prop
 below:∀{W W':World} (x:α),gp W x->Below W W W'->gp W' x
theorem RK(y:aw):∀u∈y.cells,u.oneCell'=true:=by intro u hu;simp only[aw.cells,List.mem_cons,List.not_mem_nil,or_false]at hu;rcases hu with rfl|rfl|rfl|rfl|rfl|rfl|rfl|rfl<;>rfl
def lC:sI an:=⟨an.cells,4, λ _=>rfl,by decide,xU, λ W y=>ai W y.ka y.key/\ai W y.va y.val, λ _ h hb=>⟨h.1.below hb,h.2.below hb⟩⟩
def r9:sI aw:=⟨aw.cells,8, λ _=>rfl,by decide,RK, λ W y=>ai W y.ka y.key, λ _ h hb=>h.below hb⟩
section
variable {α : Type}
def Pc.cells:Pc α->List Value
 | .kept r=>(oT r.k.ka r.k.key.length r.k.kc r.k.at_ r.k.count r.h)
 | .loose a c ys=>(j6 a ys.length c)
theorem Pc.len(p:Pc α):p.cells.length=11:=by cases p<;>rfl
theorem Pc.one(p:Pc α):∀u∈p.cells,u.oneCell'=true:=by
 intro u hu
 cases p<;>simp only[Pc.cells,List.mem_cons,List.not_mem_nil,or_false]at hu<;>rcases hu with rfl|rfl|rfl|rfl|rfl|rfl|rfl|rfl|rfl|rfl|rfl<;>rfl
inductive Pv(α:Type)where
 |kept (r:aN)
 |loose (ys:List α)
def Pc.val:Pc α->Pv α
 | .kept r=>.kept r
 | .loose _ _ ys=>.loose ys
structure ec(K:sI α)(W:World)(a:Option Addr)(c:Nat)(ys:List α):Prop where
 row:bj K.f K.sz W a ys
 gp:∀y∈ys,K.gp W y
 cap:ys.length<=c
 nil:a=none->c=0
 plain:a=none\/∃B o,a=some ⟨B,o,none⟩
theorem ec.below{K:sI α}{W W':World}{a:Option Addr}{c:Nat}{ys:List α}(h:ec K W a c ys)(hb:Below W W W'):ec K W' a c ys:=⟨h.row.below hb, λ y hy=>K.below y (h.gp y hy) hb,h.cap,h.nil,h.plain⟩
theorem ec.GV{K:sI α}{T:TypeId}{ys:List α}(h:W.ownsRow n₀ T K.sz (.slice a ys.length c) ys.length (ys.flatMap K.f))(hg:∀y∈ys,K.gp W y):ec K W a c ys:=by
 refine⟨bj.gX h K.VV K.pos,hg,js h, λ e=>?_,?_⟩
 ·rcases h.2 with⟨h,_⟩|⟨g,cap,cur,h,_⟩
  ·injection h
  ·subst e;cases h
 ·rcases ay h with⟨h,_⟩|⟨g,cur,h,_⟩
  ·exact .inl h
  ·exact .inr ⟨_,_,h⟩
def rE(K:sI α)(W:World):Pc α->Prop
 | .kept r=>ai W r.k.ka r.k.key
 | .loose a c ys=>ec K W a c ys
theorem rE.below{K:sI α}{W W':World}{p:Pc α}(h:rE K W p)(hb:Below W W W'):rE K W' p:=by
 cases p with
 |kept r=>exact ai.below h hb
 |loose a c ys=>exact ec.below h hb
structure bU(K:sI α)(W:World)(a:Option Addr)(c:Nat)(ps:List (Pc α)):Prop where
 row:bj Pc.cells 11 W a ps
 each:∀p∈ps,rE K W p
 cap:ps.length<=c
 nil:a=none->c=0
 plain:a=none\/∃B o,a=some ⟨B,o,none⟩
theorem bU.below{K:sI α}{W W':World}{a:Option Addr}{c:Nat}{ps:List (Pc α)}(h:bU K W a c ps)(hb:Below W W W'):bU K W' a c ps:=⟨h.row.below hb, λ p hp=>(h.each p hp).below hb,h.cap,h.nil,h.plain⟩
def Jm(K:sI α)(T:TypeId)(n₀:Nat)(w W:World):Pc α->Prop
 | .kept r=>ai w r.k.ka r.k.key
 | .loose a c ys=>ec K w a c ys\/(W.ownsRow n₀ T K.sz (.slice a ys.length c) ys.length (ys.flatMap K.f)/\∀y∈ys,K.gp w y)
theorem Jm.of{K:sI α}{T:TypeId}{p:Pc α}(h:rE K w p):Jm K T n₀ w W p:=by
 cases p with
 |kept r=>exact h
 |loose a c ys=>exact .inl h
theorem Jm.fin{K:sI α}{T:TypeId}{p:Pc α}(h:Jm K T n₀ w W p)(hb:Below w w W):rE K W p:=by
 cases p with
 |kept r=>exact ai.below h hb
 |loose a c ys=>
  rcases h with h|⟨h,hg⟩
  ·exact ec.below h hb
  ·exact ec.GV h λ y hy=>K.below y (hg y hy) hb
def eu(TP:TypeId)(W W':World):Prop:=∀(E:Nat) (cs:Array Value) (t:TypeId) (fz:Nat×Nat),W.heap[E]? =some (.cells cs t fz)->t≠TP->W'.heap[E]? =some (.cells cs t fz)
theorem eu.refl(TP:TypeId)(W:World):eu TP W W:= λ _ _ _ _ h _=>h
theorem eu.T{B C:World}(h:eu TP A B)(k:eu TP B C):eu TP A C:= λ E cs t fz hE ht=>k E cs t fz (h E cs t fz hE ht) ht
theorem eu.aA{B:World}(h:Below A A B):eu TP A B:= λ E _ _ _ hE _=>(h.block E (aX hE).1).T hE
theorem eu.Jn{TP:Nat}(h:W.ownsRow n₀ TP sz (.slice a k c) k xs)(hg:bO n₀ W W' (.slice a k c) v'):eu TP W W':= λ E _ _ _ hE ht=>
 (hg.bT E (aX hE).1 (GR h hE ht)).T hE
theorem eu.row{T:TypeId}(h:eu TP W W')(hT:T≠TP)(hr:W.ownsRow n₀ T sz (.slice a k c) k xs):W'.ownsRow n₀ T sz (.slice a k c) k xs:=dx hr λ g hg=>by
 rcases ay hr with⟨h1,_⟩|⟨g2,cur,h1,_,eU⟩
 ·rw[hg]at h1;cases h1
 ·rw[hg]at h1;cases h1
  exact(h _ _ _ _ eU hT).T eU.symm
theorem Jm.other{K:sI α}{T:TypeId}{p:Pc α}(h:Jm K T n₀ w W p)(ho:eu TP W W')(hT:T≠TP):Jm K T n₀ w W' p:=by
 cases p with
 |kept r=>exact h
 |loose a c ys=>
  rcases h with h|⟨h,hg⟩
  ·exact .inl h
  ·exact .inr ⟨ho.row hT h,hg⟩
theorem dB(ps:List (Pc α)):(ps.flatMap Pc.cells).length=ps.length*11:=by
 induction ps with
 |nil=>rfl
 |cons p ps ih=>rw[List.flatMap_cons,List.length_append,ih,Pc.len,List.length_cons];omega
structure mq(K:sI α)(T TP:TypeId)(w W:World)(q:Option Addr)(k':Nat)(ps:List (Pc α)):Prop where
 base:Below w w W
 row:W.ownsRow w TP 11 (.slice q ps.length k') ps.length (ps.flatMap Pc.cells)
 each:∀p∈ps,Jm K T w.heap.size w W p
theorem mq.fin{K:sI α}{T TP:TypeId}{w W:World}{q:Option Addr}{k':Nat}{ps:List (Pc α)}(h:mq K T TP w W q k' ps):bU K W q k' ps:=by
 refine⟨bj.gX h.row Pc.len bd, λ p hp=>(h.each p hp).fin h.base,js h.row, λ e=>?_,?_⟩
 ·rcases h.row.2 with⟨h,_⟩|⟨g,cap,cur,h,_⟩
  ·injection h
  ·subst e;cases h
 ·rcases ay h.row with⟨h,_⟩|⟨g,cur,h,_⟩
  ·exact .inl h
  ·exact .inr ⟨_,_,h⟩
theorem mq.other{K:sI α}{T:TypeId}{ps:List (Pc α)}(h:mq K T TP w W q k' ps)(hb:Below W W W'):mq K T TP w W' q k' ps:=
 ⟨h.base.T (hb.mono h.base.size),bO.row (n₀:=w.heap.size) hb h.row, λ p hp=>by
  have:=h.each p hp
  cases p with
  |kept r=>exact this
  |loose a c ys=>
   rcases this with h1|⟨h1,hg⟩
   ·exact .inl h1
   ·exact .inr ⟨bO.row (n₀:=w.heap.size) hb h1,hg⟩⟩
theorem mq.put{K:sI α}{T:TypeId}(ht:P.underlying TS=some (.slice TP))(ou:(P.info? TP).map (λ i=>(i.zero,i.size,i.bytes))=some (some z,11,bytes))(oO:z.cells.size=11)(eZ:bytes<=4096)(hT:T≠TP){ps:List (Pc α)}(h:mq K T TP w W q k' ps)(p:Pc α)(hp:Jm K T w.heap.size w W p)(hk:ps.length<=100000):
 ∃g' c' w',(Builtin.append_ #[TS,TS] TS (jF q ps.length k' (zp W) 1 1)).run P (W.alloc (.cells p.cells.toArray TP))= .ok (.slice (zp g') (ps.length+1) c') w'/\mq K T TP w w' (zp g') c' (ps++[p]):=by
 obtain⟨g',c',w',bt,hr,hg⟩:=eF (P:=P) TS TP z 11 bytes ht ou oO bd p.cells p.len p.one h.row ag eZ h.base.size
 refine⟨g',c',w',bt,⟨h.base.T hg.below,by rw[List.length_append,List.flatMap_append];simpa using hr, λ r hr=>?_⟩⟩
 have ho:eu TP W w':=eu.Jn h.row hg
 rcases List.mem_append.1 hr with e|e
 ·exact(h.each r e).other ho hT
 ·rw[List.mem_singleton]at e;subst e;exact hp.other ho hT
theorem mq.KQ{K:sI α}{T:TypeId}(ht:P.underlying TS=some (.slice TP))(ou:(P.info? TP).map (λ i=>(i.zero,i.size,i.bytes))=some (some z,11,bytes))(oO:z.cells.size=11)(eZ:bytes<=4096)(hT:T≠TP){ps:List (Pc α)}(h:mq K T TP w W q k' ps){rs:List (Pc α)}(hr:bU K w a c rs)(hk:ps.length+rs.length<=1000000):
 ∃a' c' w',(Builtin.append_ #[TS,TS] TS (jF q ps.length k' a rs.length c)).run P W= .ok (.slice a' (ps.length+rs.length) c') w'/\mq K T TP w w' a' c' (ps++rs):=by
 obtain⟨a',c',w',bt,DC,hg⟩:=ph (P:=P) TS TP z 11 bytes ht ou oO bd (W:=W) (src:=a) (m:=rs.length) (cc:=c) (news:=rs.flatMap Pc.cells) (dB rs) ((hr.row.below h.base).src hr.plain Pc.len bd) (by intro u hu;obtain⟨y,_,hy⟩:=List.mem_flatMap.1 hu;exact Pc.one y u hy) h.row ag eZ h.base.size hr.nil
 refine⟨a',c',w',bt,⟨h.base.T hg.below,by rw[List.length_append,List.flatMap_append];exact DC, λ r TE=>?_⟩⟩
 have ho:eu TP W w':=eu.Jn h.row hg
 rcases List.mem_append.1 TE with e|e
 ·exact(h.each r e).other ho hT
 ·exact Jm.of (hr.each r e)
end
theorem sJ{α:Type}(K:sI α):∀xs:List α,(xs.flatMap K.f).length=xs.length*K.sz
 |[]=>by simp
 |x::xs=>by rw[List.flatMap_cons,List.length_append,sJ K xs,K.VV,List.length_cons,Nat.succ_mul,Nat.add_comm]
theorem vx(t e:TypeId)(z:Value)(sz bytes:Nat)(ht:P.underlying t=some (.slice e))(ou:(P.info? e).map (λ i=>(i.zero,i.size,i.bytes))=some (some z,sz,bytes))(oO:z.cells.size=sz){src:Option Addr}{ue:List Value}(zS:ue.length=k*sz)(hb:Jj W b k ue)(hl:news.length=m*sz)(hs:Jj W src m news)(hm:0<m)(hk:k+m<=1048576)(eZ:bytes<=4096):
 ∃cap w',(Builtin.append_ #[t,t] t (jF b k k src m cc)).run P W= .ok (.slice (zp W) (k+m) cap) w'/\k+m<=cap/\
  w'.ownsRow W e sz (.slice (zp W) (k+m) cap) (k+m) (ue++news)/\Below W W w':=by
 rcases hs with⟨h0,_⟩|⟨B,o,rfl,hs⟩
 ·omega
 ·refine lL t e z sz bytes ht ou oO b k ue zS ?_ ⟨B,o,none⟩ m cc news hl (λ j v hj=>by rw[Addr.add_mid];exact hs j v hj) hm hk eZ
  rcases hb with⟨h0,h1⟩|⟨B2,o2,rfl,hb⟩
  ·exact .inl ⟨h1,h0⟩
  ·exact .inr ⟨_,rfl, λ j v hj=>by rw[Addr.add_mid];exact hb j v hj⟩
theorem xV(h:W.ownsRow n₀ e sz (.slice (zp g) k c) k xs)(hi:i<xs.length):W.cell? ⟨g,i,none⟩=some xs[i]/\W.frozen? ⟨g,i,none⟩=false:=by
 rcases h.2 with⟨h,_⟩|⟨g2,cap,cur,h,_,hg,_,_,_,ht⟩
 ·cases h
 ·cases h
  refine⟨?_,ak hg i⟩
  rw[aa hg,<-Array.getElem?_toList]
  have:(cur.toList.take (k*sz))[i]? =some xs[i]:=by rw[ht];exact List.getElem?_eq_getElem hi
  rw[List.getElem?_take]at this
  split at this
  ·exact this
  ·cases this
theorem RL(h:W.ownsRow n₀ e sz (.slice (zp g) k c) k xs)(v:Value):(W.setCell ⟨g,i,none⟩ v).ownsRow n₀ e sz (.slice (zp g) k c) k (xs.set i v):=by
 refine⟨by rw[List.length_set];exact h.1,?_⟩
 rcases h.2 with⟨h,_⟩|⟨g2,cap,cur,h,hn,hg,h2,h3,h4,ht⟩
 ·cases h
 ·cases h
  refine .inr ⟨_,_,cur.setIfInBounds i v,rfl,hn,aq v hg,h2,h3,by rw[Array.size_setIfInBounds];exact h4,?_⟩
  rw[Array.toList_setIfInBounds,List.take_set,ht]
theorem eu.set{TP:Nat}{fz:Nat×Nat}(h:W.heap[g]? =some (.cells cs TP fz))(v:Value):eu TP W (W.setCell ⟨g,i,none⟩ v):= λ E cs' t fz' hE ht=>by
 have bS:E≠g:=by
  rintro rfl
  rw[h]at hE
  injection hE with h5
  injection h5 with _ h6 _
  exact ht h6.symm
 exact(Below.heap_setCell W ⟨g,i,none⟩ v E bS).T hE
variable {α : Type}
def bk:List (Pv α)->Pv α->List (Pv α)
 |out,.kept r=>out++[.kept r]
 |out,.loose []=>out
 |out,.loose (y::ys)=>match out.getLast? with
  |some (.loose zs)=>out.dropLast++[.loose (zs++y::ys)]
  |_=>out++[.loose (y::ys)]
def lP(l:List (Pv α)):List (Pv α):=l.foldl bk []
theorem dH{out:List (Pv α)}{zs ys:List α}(h:1<=ys.length):bk (out++[.loose zs]) (.loose ys)=out++[.loose (zs++ys)]:=by
 cases ys with
 |nil=>simp at h
 |cons y ys=>simp[bk]
theorem cT{out:List (Pv α)}{ys:List α}(h:1<=ys.length)(hl:out=[]\/∃o r,out=o++[.kept r]):bk out (.loose ys)=out++[.loose ys]:=by
 cases ys with
 |nil=>simp at h
 |cons y ys=>rcases hl with rfl|⟨o,r,rfl⟩<;>simp[bk]
def bu:List (Pv α)->Nat
 |[]=>0
 | .kept _::l=>bu l
 | .loose ys::l=>ys.length+bu l
theorem cH:∀(a b:List (Pv α)),bu (a++b)=bu a+bu b
 |[],_=>by simp[bu]
 | .kept _::l,b=>by simp[bu,cH l b]
 | .loose ys::l,b=>by simp[bu,cH l b];omega
theorem KR(out:List (Pv α))(p:Pv α):bu (bk out p)=bu out+bu [p]:=by
 cases p with
 |kept r=>simp[bk,cH,bu]
 |loose ys=>
  cases ys with
  |nil=>simp[bk,bu]
  |cons y ys=>
   rcases List.eq_nil_or_concat out with rfl|⟨o,q,rfl⟩
   ·simp[bk,bu]
   ·cases q with
    |kept r=>simp[bk,cH,bu]
    |loose zs=>simp[bk,cH,bu];omega
theorem ur:∀(l out:List (Pv α)),bu (l.foldl bk out)=bu out+bu l
 |[],_=>by simp[bu]
 |p::l,out=>by
  rw[List.foldl_cons,ur l,KR,show p::l=[p]++l from rfl,cH [p] l];omega
theorem Et{l:List (Pv α)}{ys:List α}(h:Pv.loose ys∈l):ys.length<=bu l:=by
 obtain⟨a,b,rfl⟩:=List.append_of_mem h
 rw[cH,bu];omega
theorem nJ:(Tryz.prog.info? 287).map (λ i=>(i.zero,i.size,i.bytes))=some (some (.agg fe),11,120):=aO
theorem sK:(Tryz.prog.info? 333).map (λ i=>(i.zero,i.size,i.bytes))=some (some (.agg fe),11,120):=aO
theorem Ci:(Tryz.prog.info? 175).map (λ i=>(i.zero,i.size,i.bytes))=some (some (.agg BJ),8,80):=aO
theorem GW{qs:List (Pc α)}:qs=[]\/(∃o r,qs=o++[Pc.kept r])\/∃o a c zs,qs=o++[Pc.loose a c zs]:=by
 rcases List.eq_nil_or_concat qs with h|⟨o,p,h⟩
 ·exact .inl h
 ·cases p with
  |kept r=>exact .inr (.inl ⟨o,r,by rw[h];simp⟩)
  |loose a c zs=>exact .inr (.inr ⟨o,a,c,zs,by rw[h];simp⟩)
end
end Go.Proofs.YtkgapncajjafoaaGreatDoor

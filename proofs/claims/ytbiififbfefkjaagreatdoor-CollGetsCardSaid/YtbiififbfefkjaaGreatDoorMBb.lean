/- The store, part 28. -/
import Derived.Test.YtbiififbfefkjaaGreatDoorMAx
import Derived.Test.YtbiififbfefkjaaGreatDoorMAy
set_option linter.unusedSimpArgs false
set_option linter.unusedVariables false
set_option maxRecDepth 100000
set_option maxHeartbeats 16000000
namespace Go.Proofs.YtbiififbfefkjaaGreatDoor
open Go.RowKit Go.Shelf
variable{B a1 d1 c1 a2 d2 c2 q cf:Nat}{t:TypeId}{p:Prop}{W w:World}{ps:List Piece}{es:List bX}{o:Option bX}
section
attribute [local go_sem] Oper.semAt_some
def fZ:Array Value:=kF
def cZ:Array Value:=sO
def rC(g m:Nat):Array Value:=(vk g m)
def rZ:Array Value:=ml
structure AB where
 b:az
 k:Nat
 c:Nat
 a1:Nat
 d1:Nat
 c1:Nat
 a2:Nat
 d2:Nat
 c2:Nat
 q:Nat
 g:Nat
 m:Nat
 er:Int
abbrev AB.fc(D:AB):Array Value:=fC D.b D.k D.c
abbrev AB.cc(D:AB):Array Value:=CU D.a1 D.d1 D.c1 D.a2 D.d2 D.c2 D.q
abbrev AB.T(D:AB):Value:=.tuple #[.agg D.fc,.agg D.cc,.agg (rC D.g D.m),.int .i64 D.er]
structure WkP(U:World)(PD:AB->World->Prop):Prop where
 grow:∀D V V',PD D V->Below V V V'->PD D V'
 set:∀D V V' R (cs:List Value) t,U.heap.size<=R->PD D V->V.heap[R]? =some (.cells cs.toArray t)->(∀v∈cs,∀x:Nat,v≠.int .u8 (x:Int))->(∀v∈cs,∀a n k,v= .slice a n k->n=0)->(∀j,j≠R->V'.heap[j]? =V.heap[j]?)->PD D V'
structure LU(U:World)(R0 R1 R2 R3:Value)(PD:AB->World->Prop)(D:AB)(B0 B1 B2:Nat)(L:Nat->Bool)(vs:Nat->Value)(V:World):Prop where
 lV:Below U U V
 v0:L 0=true->vs 0=R0
 v1:L 1=true->vs 1=R1
 v2:L 2=true->vs 2=R2
 v3:L 3=true->vs 3=R3
 v4:L 4=true->vs 4=D.T/\PD D V
 v5:L 5=true->vs 5=D.T
 v6:L 6=true->vs 6= .agg D.fc
 v7:L 7=true->vs 7= .agg D.cc
 v8:L 8=true->vs 8= .agg (rC D.g D.m)
 v9:L 9=true->vs 9= .int .i64 D.er
 a0:L 10=true->vs 10= .pointer (zp B0)/\U.heap.size<=B0/\B0<V.heap.size/\(L 13=false->V.heap[B0]? =some (.cells fZ 31))/\(L 13=true->V.heap[B0]? =some (.cells D.fc 31))
 a1:L 11=true->vs 11= .pointer (zp B1)/\U.heap.size<=B1/\B1<V.heap.size/\(L 14=false->V.heap[B1]? =some (.cells cZ 37))/\(L 14=true->V.heap[B1]? =some (.cells D.cc 37))
 a2:L 12=true->vs 12= .pointer (zp B2)/\U.heap.size<=B2/\B2<V.heap.size/\(L 15=false->V.heap[B2]? =some (.cells rZ 43))/\(L 15=true->V.heap[B2]? =some (.cells (rC D.g D.m) 43))
 v16:L 16=true->vs 16= .int .i64 D.er
theorem qD{V:World}{A:Nat}{x y:Array Value}{s:TypeId}(h:V.heap[A]? =some (.cells x s))(h':V.heap[B]? =some (.cells y t))(ma:s≠t):A≠B:= λ e=>by rw[e,h']at h;cases h;exact ma rfl
section
variable {U : World} {R0 R1 R2 R3 : Value} {PD : AB -> World -> Prop} {D : AB} {B0 B1 B2 : Nat} {L : Nat -> Bool} {vs : Nat -> Value} {V V' : World}
theorem LU.start(D:AB)(vs:Nat->Value):LU U R0 R1 R2 R3 PD D 0 0 0 (λ _=>false) vs U:=
 have no:∀{p:Prop},false=true->p:= λ e=>Bool.noConfusion e
 ⟨gb,no,no,no,no,no,no,no,no,no,no,no,no,no,no⟩
theorem LU.grow(h:LU U R0 R1 R2 R3 PD D B0 B1 B2 L vs V)(hP:WkP U PD)(hb:Below V V V'):LU U R0 R1 R2 R3 PD D B0 B1 B2 L vs V':=
 {h with
  lV:=h.lV.T (hb.mono h.lV.size)
  v4:= λ e=>⟨(h.v4 e).1,hP.grow D V V' (h.v4 e).2 hb⟩
  a0:= λ e=>⟨(h.a0 e).1,(h.a0 e).2.1,aA (h.a0 e).2.2.1 hb.size, λ e2=>(hb.block _ (h.a0 e).2.2.1).T ((h.a0 e).2.2.2.1 e2), λ e2=>(hb.block _ (h.a0 e).2.2.1).T ((h.a0 e).2.2.2.2 e2)⟩
  a1:= λ e=>⟨(h.a1 e).1,(h.a1 e).2.1,aA (h.a1 e).2.2.1 hb.size, λ e2=>(hb.block _ (h.a1 e).2.2.1).T ((h.a1 e).2.2.2.1 e2), λ e2=>(hb.block _ (h.a1 e).2.2.1).T ((h.a1 e).2.2.2.2 e2)⟩
  a2:= λ e=>⟨(h.a2 e).1,(h.a2 e).2.1,aA (h.a2 e).2.2.1 hb.size, λ e2=>(hb.block _ (h.a2 e).2.2.1).T ((h.a2 e).2.2.2.1 e2), λ e2=>(hb.block _ (h.a2 e).2.2.1).T ((h.a2 e).2.2.2.2 e2)⟩}
theorem xJ(h:p:=by
 obtain⟨-, -, -,q1,q2⟩:=h.a1 e;cases hc:L 14 with
 |false=>exact qD (q1 hc) hz de
 |true=>exact qD (q2 hc) hz de
 ):p:=h
theorem xK(h:p:=by
 obtain⟨-, -, -,q1,q2⟩:=h.a2 e;cases hc:L 15 with
 |false=>exact qD (q1 hc) hz de
 |true=>exact qD (q2 hc) hz de
 ):p:=h
theorem LU.aeK(h:LU U R0 R1 R2 R3 PD D B0 B1 B2 L vs V)(hP:WkP U PD)(hk:L 10=true)(hs:L 13=false)(h1:V'.heap[B0]? =some (.cells D.fc 31))(h2:∀j,j≠B0->V'.heap[j]? =V.heap[j]?)(h3:∀n W,n<=B0->Below n W V->Below n W V'):LU U R0 R1 R2 R3 PD D B0 B1 B2 (ins L 13) vs V':=by
 obtain⟨g1,g2,g3,g4, -⟩:=h.a0 hk;have hz:=g4 hs;have kA:=(h3 0 V (aD _) (ah 0 V)).size;have n1:∀e:L 11=true,B1≠B0:= λ e=>by exact xJ
 have n2:∀e:L 12=true,B2≠B0:= λ e=>by exact xK
 exact{h with
  lV:=h3 _ _ g2 h.lV
  v4:= λ e=>⟨(h.v4 e).1,hP.set D V V' B0 kF _ g2 (h.v4 e).2 hz cP oZ h2⟩
  a0:= λ _=>⟨g1,g2,aA g3 kA, λ e=>Bool.noConfusion (show true=false from e), λ _=>h1⟩
  a1:= λ e=>⟨(h.a1 e).1,(h.a1 e).2.1,aA (h.a1 e).2.2.1 kA, λ e2=>(h2 _ (n1 e)).T ((h.a1 e).2.2.2.1 e2), λ e2=>(h2 _ (n1 e)).T ((h.a1 e).2.2.2.2 e2)⟩
  a2:= λ e=>⟨(h.a2 e).1,(h.a2 e).2.1,aA (h.a2 e).2.2.1 kA, λ e2=>(h2 _ (n2 e)).T ((h.a2 e).2.2.2.1 e2), λ e2=>(h2 _ (n2 e)).T ((h.a2 e).2.2.2.2 e2)⟩}
theorem xL(h:p:=by
 obtain⟨-, -, -,q1,q2⟩:=h.a0 e;cases hc:L 13 with
 |false=>exact qD (q1 hc) hz de
 |true=>exact qD (q2 hc) hz de
 ):p:=h
theorem LU.aeL(h:LU U R0 R1 R2 R3 PD D B0 B1 B2 L vs V)(hP:WkP U PD)(hk:L 11=true)(hs:L 14=false)(h1:V'.heap[B1]? =some (.cells D.cc 37))(h2:∀j,j≠B1->V'.heap[j]? =V.heap[j]?)(h3:∀n W,n<=B1->Below n W V->Below n W V'):LU U R0 R1 R2 R3 PD D B0 B1 B2 (ins L 14) vs V':=by
 obtain⟨g1,g2,g3,g4, -⟩:=h.a1 hk;have hz:=g4 hs;have kA:=(h3 0 V (aD _) (ah 0 V)).size;have n0:∀e:L 10=true,B0≠B1:= λ e=>by exact xL
 have n2:∀e:L 12=true,B2≠B1:= λ e=>by exact xK
 exact{h with
  lV:=h3 _ _ g2 h.lV
  v4:= λ e=>⟨(h.v4 e).1,hP.set D V V' B1 sO _ g2 (h.v4 e).2 hz cP oZ h2⟩
  a1:= λ _=>⟨g1,g2,aA g3 kA, λ e=>Bool.noConfusion (show true=false from e), λ _=>h1⟩
  a0:= λ e=>⟨(h.a0 e).1,(h.a0 e).2.1,aA (h.a0 e).2.2.1 kA, λ e2=>(h2 _ (n0 e)).T ((h.a0 e).2.2.2.1 e2), λ e2=>(h2 _ (n0 e)).T ((h.a0 e).2.2.2.2 e2)⟩
  a2:= λ e=>⟨(h.a2 e).1,(h.a2 e).2.1,aA (h.a2 e).2.2.1 kA, λ e2=>(h2 _ (n2 e)).T ((h.a2 e).2.2.2.1 e2), λ e2=>(h2 _ (n2 e)).T ((h.a2 e).2.2.2.2 e2)⟩}
theorem LU.aeM(h:LU U R0 R1 R2 R3 PD D B0 B1 B2 L vs V)(hP:WkP U PD)(hk:L 12=true)(hs:L 15=false)(h1:V'.heap[B2]? =some (.cells (rC D.g D.m) 43))(h2:∀j,j≠B2->V'.heap[j]? =V.heap[j]?)(h3:∀n W,n<=B2->Below n W V->Below n W V'):LU U R0 R1 R2 R3 PD D B0 B1 B2 (ins L 15) vs V':=by
 obtain⟨g1,g2,g3,g4, -⟩:=h.a2 hk;have hz:=g4 hs;have kA:=(h3 0 V (aD _) (ah 0 V)).size;have n0:∀e:L 10=true,B0≠B2:= λ e=>by exact xL
 have n1:∀e:L 11=true,B1≠B2:= λ e=>by exact xJ
 exact{h with
  lV:=h3 _ _ g2 h.lV
  v4:= λ e=>⟨(h.v4 e).1,hP.set D V V' B2 ml _ g2 (h.v4 e).2 hz cP oZ h2⟩
  a2:= λ _=>⟨g1,g2,aA g3 kA, λ e=>Bool.noConfusion (show true=false from e), λ _=>h1⟩
  a0:= λ e=>⟨(h.a0 e).1,(h.a0 e).2.1,aA (h.a0 e).2.2.1 kA, λ e2=>(h2 _ (n0 e)).T ((h.a0 e).2.2.2.1 e2), λ e2=>(h2 _ (n0 e)).T ((h.a0 e).2.2.2.2 e2)⟩
  a1:= λ e=>⟨(h.a1 e).1,(h.a1 e).2.1,aA (h.a1 e).2.2.1 kA, λ e2=>(h2 _ (n1 e)).T ((h.a1 e).2.2.2.1 e2), λ e2=>(h2 _ (n1 e)).T ((h.a1 e).2.2.2.2 e2)⟩}
theorem Up(h:W.heap[B]? =some (.cells (CU a1 d1 c1 a2 d2 c2 q) t)):W.cell? (za B 0)=some (.int .i64 (a1:Int))/\W.cell? (za B 1)=some (.int .i64 (d1:Int))/\W.cell? (za B 2)=some (.int .i64 (c1:Int))/\W.cell? (za B 3)=some (.int .i64 0)/\W.cell? (za B 4)=some (.int .i64 0)/\W.cell? (za B 5)=some (.int .u64 0)/\W.cell? (za B 6)=some (.int .i64 0)/\W.cell? (za B 7)=some (.int .i64 0)/\W.cell? (za B 8)=some (.int .i64 (a2:Int))/\W.cell? (za B 9)=some (.int .i64 (d2:Int))/\W.cell? (za B 10)=some (.int .i64 (c2:Int))/\W.cell? (za B 11)=some (.int .i64 0)/\W.cell? (za B 12)=some (.int .i64 0)/\W.cell? (za B 13)=some (.int .u64 0)/\W.cell? (za B 14)=some (.int .i64 0)/\W.cell? (za B 15)=some (.int .i64 0)/\W.cell? (za B 16)=some (.int .u64 (q:Int)):=by simp[af h]
theorem ab3(a1 d1 c1 a2 d2 c2 q:Nat):eu cZ 0 (CU a1 d1 c1 a2 d2 c2 q).toList=CU a1 d1 c1 a2 d2 c2 q:=by simp only[eu,cZ,jX]
theorem JY{g m:Nat}(h:W.heap[B]? =some (.cells (rC g m) t)):W.cell? (za B 0)=some (.int .u32 (g:Int))/\W.cell? (za B 1)=some (.int .u32 (m:Int)):=by simp[af h,rC]
end
theorem G0{b:az}(hF:aQ w b cf ps)(hm:Marks (aw ps))(hC:gD (aw ps) a1 d1 c1 a2 d2 c2 q es)(hq:q<=1099511627776)(s:ByteArray)(DG:s.size<=4611686018427387904)(hid:yR s=0)(ho:rS es (kE s) o):
 Calls Tryz.prog 18 #[bN b ps.length cf,j7 a1 d1 c1 a2 d2 c2 q,.string s] w λ e w'=>∃(X B0:Nat) (wk wn:Int),e= .returned (.tuple (ac1 (zp X)))/\(∀x,o=some x->wk=kindOf x.del/\wn=fN x.del x.n)/\w.heap.size<=X/\kP w' X B0 s (o.getD eP) wk wn o.isSome ⟨#[]⟩ 0 0 0 false 0 0 0 0 0 0 0 (j8 o)/\Below w w w':=
 (CW hF hm hC hq s DG).mono λ e w' ⟨hb,h⟩=>by
   rcases h with⟨h1,_⟩|⟨_,o',X,B0,wk,wn,rfl,h2,h3,h4,h5,h6,h7,h8⟩
   ·exact absurd hid h1
   ·have:=J5 hC h5 ho;subst this;exact⟨X,B0,wk,wn,rfl,h8,h2,h7,hb⟩
theorem ab6{b:az}(hF:aQ w b cf ps)(hm:Marks (aw ps))(hC:gD (aw ps) a1 d1 c1 a2 d2 c2 q es)(hq:q<=1099511627776)(s:ByteArray)(DG:s.size<=4611686018427387904)(hid:yR s≠0):
 Calls Tryz.prog 6 #[bN b ps.length cf,j7 a1 d1 c1 a2 d2 c2 q,.string s] w λ e w'=>e= .returned (.tuple (aa2 (.agg kh) (.agg lX)))/\Below w w w':=by
 obtain⟨w4,kd⟩:=bL ((((w.alloc (.cells (fA b ps.length cf) 31)).alloc (.cells (pG a1 d1 c1 a2 d2 c2 q) 37)).alloc (.cells kh 45)).alloc (.cells lX 49));have Hl:w4.heap.size=w.heap.size+4:=by rw[kd];simp
 have dX:Below w w w4:=by rw[kd];go_grown
 obtain⟨v2,mu⟩:=bL ((w.alloc (.cells (fA b ps.length cf) 31)).alloc (.cells (pG a1 d1 c1 a2 d2 c2 q) 37));have Lj:v2.heap.size=w.heap.size+1+1:=by rw[mu];simp
 have zb:Below v2 v2 w4:=by rw[kd,<-mu];go_grown
 obtain⟨e0,e1⟩:=bu (w2:=v2) oY;obtain⟨e2,e3⟩:=bu (w:=v2) (w2:=w4) uw;rw[Lj]at e2 e3;have tg:=aF ((zb.block _ an).T e0);have qa:=aF ((zb.block _ an).T e1);have H4:=oT dX Hl e2 e3;have Aj:=ag kd;have BN:=YL (hF.below dX) hm hC hq s DG hid;rw[kd]at BN tg qa;unfold bN j7 at BN;have BN:=ag BN;clear hF hm hC hq DG hid dX Hl zb e0 e1 e2 e3 Lj mu kd;unfold bN j7;go_enter Tryz.func6,Tryz.ntmps6
 go_wp2_with first
  |(refine dG 31 ?_)
  |(refine dG 37 ?_)
  |((with_reducible refine BN.O.mono ?_);rintro e w5 ⟨rfl,dV⟩;rw[<-Aj.O]at dV;have H5:=eS ((dV.block _ (cm H4.O.2.1)).T H4.O.2.2.1) ((dV.block _ (cm H4.O.2.1)).T H4.O.2.2.2) (H4.O.1.T (dV.mono H4.O.1.size));clear dV)
  |(refine lz 45 kh H5.O.1 (λ w6 h1 h2 h3=>?_);have H6:=eS h1 (show∀j,j≠w.heap.size+1+1->w6.heap[j]? =_ from λ j hj=>h2 j hj) (h3 w w an H5.O.2.2);clear h1 h2 h3)
  |(refine lz 49 lX ((H6.O.2.1 _ an).T H5.O.2.1) (λ w7 h1 h2 h3=>?_);have H7:=eS h1 ((h2 _ an).T H6.O.1) (h3 w w an H6.O.2.2);clear h1 h2 h3)
  |fail
 exact bodyPost_ret (v:=.tuple (aa2 (.agg kh) (.agg lX))) (Ex _ _ (w+1+1) (w+1+1+1) kh lX _ _ rfl rfl rfl (aF H7.O.2.1) (aF H7.O.1) Tryz.underlying45 rfl bU Tryz.underlying49 rfl bU _ rfl) bp ⟨rfl,H7.O.2.2⟩
theorem get_none{b:az}(hF:aQ w b cf ps)(hm:Marks (aw ps))(hC:gD (aw ps) a1 d1 c1 a2 d2 c2 q es)(hq:q<=1099511627776)(s:ByteArray)(DG:s.size<=4611686018427387904)(hid:yR s=0)(ho:rS es (kE s) o)(LZ:j8 o=false):
 Calls Tryz.prog 6 #[bN b ps.length cf,j7 a1 d1 c1 a2 d2 c2 q,.string s] w λ e w'=>e= .returned (.tuple (U9 (.agg kh) (.agg lX)))/\Below w w w':=by
 obtain⟨w4,kd⟩:=bL ((((w.alloc (.cells (fA b ps.length cf) 31)).alloc (.cells (pG a1 d1 c1 a2 d2 c2 q) 37)).alloc (.cells kh 45)).alloc (.cells lX 49));have Hl:w4.heap.size=w.heap.size+4:=by rw[kd];simp
 have dX:Below w w w4:=by rw[kd];go_grown
 obtain⟨v2,mu⟩:=bL ((w.alloc (.cells (fA b ps.length cf) 31)).alloc (.cells (pG a1 d1 c1 a2 d2 c2 q) 37));have Lj:v2.heap.size=w.heap.size+1+1:=by rw[mu];simp
 have zb:Below v2 v2 w4:=by rw[kd,<-mu];go_grown
 obtain⟨e0,e1⟩:=bu (w2:=v2) oY;obtain⟨e2,e3⟩:=bu (w:=v2) (w2:=w4) uw;rw[Lj]at e2 e3;have tg:=aF ((zb.block _ an).T e0);have qa:=aF ((zb.block _ an).T e1);have H4:=oT dX Hl e2 e3;have Aj:=ag kd;have BN:=G0 (hF.below dX) hm hC hq s DG hid ho;rw[kd]at BN tg qa;unfold bN j7 at BN;have BN:=ag BN;clear hF hm hC hq DG hid ho dX Hl zb e0 e1 e2 e3 Lj mu kd;unfold bN j7;go_enter Tryz.func6,Tryz.ntmps6
 go_wp2_with first
  |(refine dG 31 ?_)
  |(refine dG 37 ?_)
  |((with_reducible refine BN.O.mono ?_);rintro e w5 ⟨X,B0,wk,wn,rfl, -, -,hX,dV⟩;rw[<-Aj.O]at dV;have H5:=eS ((dV.block _ (cm H4.O.2.1)).T H4.O.2.2.1) ((dV.block _ (cm H4.O.2.1)).T H4.O.2.2.2) (H4.O.1.T (dV.mono H4.O.1.size));have J0:w5.cell? (za X 36)=some (.bool (j8 o)):=(af hX 36).T rfl;rw[LZ]at J0;clear dV hX)
  |(refine lz 45 kh H5.O.1 (λ w6 h1 h2 h3=>?_);have H6:=eS h1 (show∀j,j≠w.heap.size+1+1->w6.heap[j]? =_ from λ j hj=>h2 j hj) (h3 w w an H5.O.2.2);clear h1 h2 h3)
  |(refine lz 49 lX ((H6.O.2.1 _ an).T H5.O.2.1) (λ w7 h1 h2 h3=>?_);have H7:=eS h1 ((h2 _ an).T H6.O.1) (h3 w w an H6.O.2.2);clear h1 h2 h3)
  |fail
 exact bodyPost_ret (v:=.tuple (U9 (.agg kh) (.agg lX))) (Ex _ _ (w+1+1) (w+1+1+1) kh lX _ _ rfl rfl rfl (aF H7.O.2.1) (aF H7.O.1) Tryz.underlying45 rfl bU Tryz.underlying49 rfl bU _ rfl) bp ⟨rfl,H7.O.2.2⟩
theorem YP{b:az}(hF:aQ w b cf ps)(hm:Marks (aw ps))(hC:gD (aw ps) a1 d1 c1 a2 d2 c2 q es)(hq:q<=1099511627776)(s:ByteArray)(DG:s.size<=4611686018427387904)(hid:yR s=0){x:bX}(ho:rS es (kE s) (some x))(LZ:x.del=false):
 Calls Tryz.prog 6 #[bN b ps.length cf,j7 a1 d1 c1 a2 d2 c2 q,.string s] w λ e w'=>e= .returned (.tuple (ZZ (.agg (BZ x.g x.m x.s x.del x.at_)) (.agg (U5 (kindOf x.del) (fN x.del x.n)))))/\Below w w w':=by
 obtain⟨w4,kd⟩:=bL ((((w.alloc (.cells (fA b ps.length cf) 31)).alloc (.cells (pG a1 d1 c1 a2 d2 c2 q) 37)).alloc (.cells kh 45)).alloc (.cells lX 49));have Hl:w4.heap.size=w.heap.size+4:=by rw[kd];simp
 have dX:Below w w w4:=by rw[kd];go_grown
 obtain⟨v2,mu⟩:=bL ((w.alloc (.cells (fA b ps.length cf) 31)).alloc (.cells (pG a1 d1 c1 a2 d2 c2 q) 37));have Lj:v2.heap.size=w.heap.size+1+1:=by rw[mu];simp
 have zb:Below v2 v2 w4:=by rw[kd,<-mu];go_grown
 obtain⟨e0,e1⟩:=bu (w2:=v2) oY;obtain⟨e2,e3⟩:=bu (w:=v2) (w2:=w4) uw;rw[Lj]at e2 e3;have tg:=aF ((zb.block _ an).T e0);have qa:=aF ((zb.block _ an).T e1);have H4:=oT dX Hl e2 e3;have Aj:=ag kd;have BN:=G0 (hF.below dX) hm hC hq s DG hid ho;rw[kd]at BN tg qa;unfold bN j7 at BN;have BN:=ag BN;clear hF hm hC hq DG hid ho dX Hl zb e0 e1 e2 e3 Lj mu kd;unfold bN j7;go_enter Tryz.func6,Tryz.ntmps6
 go_wp2_with first
  |(refine dG 31 ?_)
  |(refine dG 37 ?_)
  |((with_reducible refine BN.O.mono ?_);rintro e w5 ⟨X,B0,wk,wn,rfl,hwk,O7,hX,dV⟩;obtain⟨rfl,rfl⟩:=hwk x rfl;rw[<-Aj.O]at dV O7;have H5:=eS ((dV.block _ (cm H4.O.2.1)).T H4.O.2.2.1) ((dV.block _ (cm H4.O.2.1)).T H4.O.2.2.2) (H4.O.1.T (dV.mono H4.O.1.size));have J0:w5.cell? (za X 36)=some (.bool (j8 (some x))):=(af hX 36).T rfl;rw[show j8 (some x)=true by simp[j8,LZ]]at J0;have HX:Hid (∀V:World,V.heap[X]? =w5.heap[X]? ->V.cell? (za X 3)=some (.int .u32 (x.g:Int))/\V.cell? (za X 4)=some (.int .u32 (x.m:Int))/\V.cell? (za X 5)=some (.int .u64 (x.s:Int))/\V.cell? (za X 6)=some (.bool x.del)/\V.cell? (za X 7)=some (.int .i64 (x.at_:Int))/\V.cell? (za X 8)=some (.int .i64 (kindOf x.del))/\V.cell? (za X 9)=some (.int .i64 (fN x.del x.n))/\V.cell? (za X 10)=some (.string ⟨#[]⟩)/\V.cell? (za X 11)=some (.slice none 0 0)/\V.cell? (za X 12)=some (.slice none 0 0)):=ag λ V hV=>by
     have e:=hV.T hX;exact⟨(af e 3).T rfl,(af e 4).T rfl,(af e 5).T rfl,(af e 6).T rfl,(af e 7).T rfl,(af e 8).T rfl,(af e 9).T rfl,(af e 10).T rfl,(af e 11).T rfl,(af e 12).T rfl⟩
    have HXN:Hid (X≠w.heap.size+1+1/\X≠w.heap.size+1+1+1):=ag (cm H4.O.2.1);clear dV hX O7 hwk LZ)
  |fail
 obtain⟨y3,y4,y5,y6,y7,y8,y9,y10,y11,y12⟩:=HX.O w5 rfl;refine bP 13 ?_;refine tP [0,1,2,3,4,5,6,7,8,9] ?_
 iterate 10 refine tO ?_
 refine au 3 rfl ?_;refine sP 10 [0,1,2,3,4] λ K hK=>?_;refine pN 45 (BZ x.g x.m x.s x.del x.at_) H5.O.1 ?_;intro w6 h1 h2 h3;have H6:=eS h1 (show∀j,j≠w.heap.size+1+1->w6.heap[j]? =w5.heap[j]? from λ j hj=>h2 j hj) (h3 w w an H5.O.2.2.drew);clear h1 h2 h3 y3 y4 y5 y6 y7 y8 y9 y10 y11 y12;have uW:=H6.O.2.1 X HXN.O.1;obtain⟨-, -, -, -, -,y8,y9,y10,y11,y12⟩:=HX.O w6 uW;clear uW;refine nP hK ?_;clear hK K;refine sP 11 [0,1,2,3,4,5,6,7,8,9,10] λ K hK=>?_;refine pN 49 (U5 (kindOf x.del) (fN x.del x.n)) ((H6.O.2.1 _ an).T H5.O.2.1) ?_;intro w7 h1 h2 h3;have H7:=eS h1 ((h2 _ an).T H6.O.1) (h3 w w an H6.O.2.2);clear h1 h2 h3;refine nP hK ?_;clear hK K;refine tP [12] ?_;refine tO ?_;refine au 0 rfl ?_;refine dP ?_;go_simp
 go_wp2_with fail
 exact bodyPost_ret (v:=.tuple (ZZ (.agg (BZ x.g x.m x.s x.del x.at_)) (.agg (U5 (kindOf x.del) (fN x.del x.n))))) (Ex _ _ (w+1+1) (w+1+1+1) (BZ x.g x.m x.s x.del x.at_) (U5 (kindOf x.del) (fN x.del x.n)) _ _ rfl rfl rfl (aF H7.O.2.1) (aF H7.O.1) Tryz.underlying45 rfl bU Tryz.underlying49 rfl bU _ rfl) bp ⟨rfl,H7.O.2.2⟩
end
end Go.Proofs.YtbiififbfefkjaaGreatDoor

/- The store, part 9. -/
import Derived.Test.YtkgapncajjafoaaGreatDoorMAa
import Derived.Test.YtkgapncajjafoaaGreatDoorMAh
import Derived.Defers
import Derived.Recover
set_option linter.unusedSimpArgs false
set_option linter.unusedVariables false
set_option maxRecDepth 100000
set_option maxHeartbeats 16000000
namespace Go.Proofs.YtkgapncajjafoaaGreatDoor
open Go.RowKit Go.Shelf
variable{D B pos n v n₀ p d wj x:Nat}{W w A C U V:World}{tp tq:TypeId}{a:Option Addr}{neg:Bool}{xs ds:List Nat}{k:Int}
section
attribute [local go_sem] Oper.semAt_some
attribute [-go_sem] Builtin.append_
abbrev dy(n:Int):Array Value:=(BL n)
theorem Ol(n:Int)(w:World):Calls Tryz.prog 187 #[.agg (dy n),.int .i64 n,.string ⟨#[]⟩,.int .i64 0] w λ e w'=>e= .returned (.bool true)/\Below w w w':=by
 go_enter Tryz.func187,Tryz.ntmps187
 go_wp2_with fail
 go_ret
 refine⟨?_,?_⟩
 ·rfl
 ·go_grown
theorem KY(n:Int)(w:World):Calls Tryz.prog 154 #[.agg (dy n)] w λ e w'=>e= .returned (.bool true)/\Below w w w':=by
 go_enter Tryz.func154,Tryz.ntmps154
 go_wp2_with first
  |((with_reducible refine(Ol n _).mono ?_);rintro e w2 ⟨rfl,hb⟩;have HB:=af hb;clear hb)
  |fail
 go_ret
 refine⟨rfl,?_⟩
 exact(by go_grown:Below w w _).T (HB.O.mono aR)
theorem Wd(w:World):Calls Tryz.prog 115 #[.int .i64 3] w λ e w'=>e= .returned (.bool false)/\w'=w:=by
 go_enter Tryz.func115,Tryz.ntmps115
 go_wp2_with fail
 go_ret
 exact⟨rfl,rfl⟩
theorem KZ(n:Int)(w:World):Calls Tryz.prog 116 #[.agg (dy n)] w λ e w'=>e= .returned (.bool true)/\Below w w w':=by
 have i2:IntKind.i64.wrap 2=2:=aO
 go_enter Tryz.func116,Tryz.ntmps116
 go_wp2_with fail
 refine bP 18 ?_
 refine tP [0,1,2,3,4,5,6,7,8,9,10,11,12,13,14] ?_
 iterate 15 refine tO ?_
 refine ah 3 rfl ?_
 refine sP 15 [0,1,2,3,4,5,6,7,8,9,10,11,12,13,14] λ K hK=>?_
 go_simp
 (with_reducible refine(KY n _).mono ?_);rintro e w2 ⟨rfl,hb⟩;have HB:=af hb;clear hb
 refine nP hK ?_
 clear hK K
 refine tP [16,17] ?_
 iterate 2 refine tO ?_
 refine ah 0 rfl ?_
 refine dP ?_
 go_simp
 go_wp2_with fail
 go_ret
 refine⟨rfl,?_⟩
 exact(Below.T (by go_grown) (HB.O.mono (by simp<;>omega)))
abbrev aav(b1:Nat):Value:=.func (.func 150) #[] (dW (zp b1))
theorem RT(n:Int)(w:World):Calls Tryz.prog 114 #[.agg (dy n)] w λ e w'=>e= .returned (aav w.heap.size)/\w'=w.alloc (.cells (dy n) 92):=by
 go_enter Tryz.func114,Tryz.ntmps114
 go_wp2_with fail
 go_ret
 exact⟨rfl,rfl⟩
def ox(D:Nat)(A C:World):Prop:=A.heap.size<=C.heap.size/\∀k o,D<=k->A.heap[k]? =some o->o.isCells=true->C.heap[k]? =some o
theorem Om{N ll B2 B3:Nat}(n:Int){J J' VN:World->Prop}(h2:Boxed W B2 298 (.func (.yield ll) #[] #[]))(hD:D<=W.heap.size)(hN:1<=N)
 (hJ:∀A C,J A->dz W (λ _=>False) A C->J C)(h0:J W)
 (hY:∀W1,J W1->YieldAt Fence.wide (N - 1) Tryz.prog ll #[.int .i64 0,.agg (dy n)] W1 λ e W'=>(e= .returned (.bool true)/\J' W'/\ox D W1 W')\/(e= .returned (.bool false)/\VN W'/\ox D W1 W')):
 Calls Tryz.prog 151 #[.int .i64 0,.agg (dy n),.pointer (zp B2),.pointer (zp B3)] W λ e W'=>(e= .returned (.bool true)/\J' W')\/(e= .returned (.bool false)/\VN W'):=by
 refine(callsIn_wide (n:=N)).1 ?_
 obtain⟨w1,aH⟩:=aK (W.alloc (.cells (dy n) 92))
 have aQ:Below W W w1:=by rw[aH];exact(Below.refl _ W).alloc (aW) _
 have p2:=carry aQ h2.cell
 have bB:w1.heap[W.heap.size]? =some (.cells (dy n) 92):=jJ aH
 obtain⟨f1,t1,a1,b1,lA,J8⟩:=hY w1 (hJ _ _ h0 (dz.aA aQ))
 have AM:=af bB
 have HD:=af hD
 clear hJ h2 h0 hY aQ bB hD
 rw[aH]at p2 lA
 refine callsIn_of_wp Tryz.func151 rfl trivial ?_ rfl
 simp only[Tryz.ntmps151,zEn,Nat.reduceAdd,Nat.reduceSub]
 gi_wp2_with fail
 rw[<-aH]
 refine J8.mono ?_
 rintro e w2 (⟨rfl,hj,hk⟩|⟨rfl,hj,hk⟩)
 ·have z3:=(aa (hk.2 _ _ HD.O AM.O rfl) 3).T rfl
  simp only[aD]at z3
  have HJ:=af hj
  clear hj hk J8 lA p2
  gi_wp2_with fail
  gi_loopw [17] (λ iv wr=>iv= .int .i64 0/\wr=w2) (λ _ _=>0)
  case atStart=>exact⟨rfl,rfl⟩
  case round=>
   obtain⟨rfl,rfl⟩:=hrel
   gi_wp2_with fail
   go_ret
   exact .inl ⟨rfl,HJ.O⟩
 ·gi_wp2_with fail
  go_ret
  exact .inr ⟨rfl,hj⟩
theorem G4{Ba:Nat}{n:Int}(ha:w.heap[Ba]? =some (.cells (dy n) 92)):
 Dx Tryz.prog 150 (dW (zp Ba)) (λ _:Unit=>#[.int .i64 0,.agg (dy n)]) (ox w.heap.size) (λ _=>False) (λ _=>True) (λ pre=>pre=[()]) (λ _ _=>True) (λ s=>s=[()]) w:=by
 intro N l J Jx W hn kN hJ Nf hY h0
 refine callsIn_wide.2 ?_
 have VZ:=(kN.block Ba (aX ha).1).T ha
 obtain⟨w1,aH⟩:=aK (((W.alloc (.cells #[.func (.yield l) #[] #[]] 298)).alloc (.cells (Gi (.func (.func 151) #[] (iS (zp W) (zp (W.heap.size+1))))) 298)))
 have bB:=aS (w2:=w1) (by rw[aH];exact dp)
 have aQ:Below W W w1:=by rw[aH];go_grown
 have HT:=af (Om (B3:=W.heap.size+1) n (J:=J []) (J':=J [()]) (VN:=Jx [()]) (N:=N) bB.1 (show w.heap.size<=w1.heap.size from Nat.le_trans kN.size aQ.size) ag (λ A C h k=>hJ _ _ _ h ⟨k.size,k.os,k.tape,k.output, λ i o hi hd hm=>k.bT i o hi (hd.imp (λ h=>Nat.lt_of_lt_of_le h aQ.size) id) hm⟩) (hJ _ _ _ h0 (dz.aA aQ)) (λ W1 h=>hY [] () W1 h rfl trivial))
 have ct:= λ j=>aa ((aQ.block Ba (aX VZ).1).T VZ) j
 have t0:=(ct 0).T rfl
 have t1:=(ct 1).T rfl
 have t2:=(ct 2).T rfl
 have t3:=(ct 3).T rfl
 have t4:=(ct 4).T rfl
 simp only[aD]at t0 t1 t2 t3 t4
 rw[aH]at t0 t1 t2 t3 t4
 clear ct bB aQ VZ hJ Nf hY h0 kN ha
 rw[aH]at HT
 clear aH
 go_enter Tryz.func150,Tryz.ntmps150
 go_wp2_with first
  |((with_reducible refine HT.O.mono ?_);rintro e w2 (⟨rfl,hj⟩|⟨rfl,hj⟩))
  |fail
 all_goals
  go_wp2_with fail
  go_end0
  first
   |exact⟨⟨_,rfl⟩,.inl ⟨_,rfl,hj⟩,trivial⟩
   |exact⟨⟨_,rfl⟩,.inr ⟨_,rfl,hj⟩,trivial⟩
def jZ(D:Nat)(A C:World):Prop:=A.heap.size<=C.heap.size/\∀k o,D<=k->A.heap[k]? =some o->C.heap[k]? =some o
theorem jZ.setCell{D:Nat}{A B:World}(h:jZ D A B){a:Addr}(ha:a.block<D)(v:Value):jZ D A (B.setCell a v):=⟨by simpa[World.setCell]using h.1, λ k o hk ho=>(Below.heap_setCell B a v k ag).T (h.2 k o hk ho)⟩
theorem jZ.below{B:World}(h:jZ D A B)(hb:Below B B C):jZ D A C:=⟨Nat.le_trans h.1 hb.size, λ k o hk ho=>(hb.block k (aX (h.2 k o hk ho)).1).T (h.2 k o hk ho)⟩
theorem jZ.refl(D:Nat)(A:World):jZ D A A:=⟨aW, λ _ _ _ h=>h⟩
theorem jZ.from{B:World}(h:jZ D A B):KeepsFrom D A B:=⟨h.1, λ k o hD ho _=>h.2 k o hD ho⟩
theorem jZ.c{B:World}(h:jZ D A B):ox D A B:=⟨h.1, λ k o hk ho _=>h.2 k o hk ho⟩
theorem ox.T{B:World}(h:ox D A B)(k:ox D B C):ox D A C:=⟨Nat.le_trans h.1 k.1, λ i o hi ho hc=>k.2 i o hi (h.2 i o hi ho hc) hc⟩
theorem ox.putObj{D:Nat}(W:World)(l:Nat)(o o':Obj)(h:W.heap[l]? =some o)(ho:o.isCells=false):ox D W (W.putObj l o'):=⟨by simp, λ k u _ hk hc=>(World.putObj_heap_other (λ e=>by subst e;rw[h]at hk;cases hk;rw[ho]at hc;cases hc)).T hk⟩
theorem Jq{P:Program}{c:Code}{K:Act->World->Prop}{Q:Exit->Act->World->Prop}{a:Act}(h:c.wp P (Exit.then K (λ _ _ _=>False)) a w):c.wp P (Exit.then K Q) a w:=
 wp_mono h λ e _ _ h=>by cases e<;>first|exact h|exact h.elim
theorem lS{fn:Func}{p q r:Tmp}{tr:TypeId}(h:fn.results=#[.cell p tp,.cell q tq,.cell r tr])(tmps:Array Value)(P:Program)(w:World):
 (results fn tmps).run P w=
   ((asAddr (tmps.getD p undef)).run P w).andThen λ a xv=>((loadVar tp a).run P xv).andThen λ x B9=>((asAddr (tmps.getD q undef)).run P B9).andThen λ b G5=>((loadVar tq b).run P G5).andThen λ y G6=>
     ((asAddr (tmps.getD r undef)).run P G6).andThen λ c We=>((loadVar tr c).run P We).andThen λ z Wf=>.ok (.tuple #[x,y,z]) Wf:=by
 simp only[results,h]
 simp[Sem.run_bind,Result.andThen]
theorem EB(n:Int)(w:World):Calls Tryz.prog 81 #[.agg (dy n)] w λ e w'=>e= .returned (.tuple #[.int .i64 0,.int .i64 1,.bool true])/\Below w w w':=by
 obtain⟨B,hB⟩:=aK w.heap.size
 obtain⟨w1,aH⟩:=aK ((((w.alloc (.cells (dy n) 92)).alloc (.cells mc 3)).alloc (.cells mc 3)).alloc (.cells #[.bool true] 4))
 obtain⟨w2,da⟩:=aK (w1.alloc (.cells (dy n) 92))
 have aQ:Below w w w1:=by rw[aH];go_grown
 have aC:Below w1 w1 w2:=by rw[da];exact(Below.refl _ w1).alloc (aW) _
 have s1:w1.heap.size=B+1+1+1+1:=by rw[aH,hB];simp
 have s2:w2.heap.size=B+1+1+1+1+1:=by rw[da];simp[s1]
 have key:∀(w1:World) (n:Nat) (x:Obj),n=w1.heap.size->(w1.alloc x).heap[n]? =some x:= λ w1 n x e=>e▸World.alloc_heap_new w1 x
 have h2:Boxed w2 (B+1) 3 (.int .i64 0):=(aC.block _ ag).T (by rw[aH];exact(Below.heap_alloc _ _ _ (by simp[<-hB]<;>omega)).T ((Below.heap_alloc _ _ _ (by simp[<-hB])).T (key _ _ _ (by simp[<-hB]))))
 have h3:Boxed w2 (B+1+1) 3 (.int .i64 0):=(aC.block _ ag).T (by rw[aH];exact(Below.heap_alloc _ _ _ (by simp[<-hB])).T (key _ _ _ (by simp[<-hB])))
 have h4:Boxed w2 (B+1+1+1) 4 (.bool true):=(aC.block _ ag).T (by rw[aH];exact key _ _ _ (by simp[<-hB]))
 have hx:w2.heap[w1.heap.size]? =some (.cells (dy n) 92):=jJ da
 have Cv:=af (G4 hx)
 have HA:=af (RT n w1)
 rw[<-da]at HA
 have bR:=af (aQ.T (aC.mono aQ.size))
 have mQ:=cV h2 h3 h4
 have HS:=af s2
 have ab9:=aH
 rw[s1]at Cv HA
 rw[aH]at HA
 clear h2 h3 h4 hx aQ aC key da ab9 aH s1 s2
 refine(callsIn_wide (n:=5)).1 ?_
 refine callsIn_of_wp_marks Tryz.func81 rfl trivial ?_ rfl
 simp only[Tryz.ntmps81,zEn,Nat.reduceAdd,Nat.reduceSub]
 refine wpIn_wide.2 ?_
 subst hB
 go_wp2_with fail
 go_step3
 go_wp2_with fail
 go_step3
 go_wp2_with first
  |((with_reducible refine HA.O.mono ?_);rintro e w3 ⟨rfl,cL⟩;rw[cL];clear cL w3)
  |fail
 have s2:=HS.O
 refine(wpIn_wide (n:=5)).1 ?_
 refine G1 (n:=5) ag rfl (enters_of Tryz.func150 aO rfl) Cv.O (λ _ _ _ _ _=>trivial) ox.T (λ W l o o' _ h1 h2=>ox.putObj W l o o' h1 h2) (dp) (λ _=>rfl) (λ _ h=>h.elim)
  (λ pre W=>Boxed W (w.heap.size+1) 3 (.int .i64 0)/\Boxed W (w.heap.size+1+1) 3 (.int .i64 (pre.length:Int))/\Boxed W (w.heap.size+1+1+1) 4 (.bool true)/\Below w w W)
  (λ _ _ _=>False) ?hI (λ _ _ _ _ h _=>h) (λ _ _ _ _ _ _ _ _=>trivial) ⟨mQ.O.1,mQ.O.2.1,mQ.O.2.2,bR.O⟩
  (λ _ U=>{tmps:=#[.agg (dy n),.pointer (zp w),.pointer (zp (w.heap.size+1)),.pointer (zp (w.heap.size+1+1)),.pointer (zp (w.heap.size+1+1+1)),.int .i64 0,.pointer (zp U),.agg (dy n),aav (w.heap.size+1+1+1+1),.int .i64 0,.agg (dy n),undef,undef,undef,undef,undef,undef,undef,undef,undef,undef,undef,undef,undef,undef,undef,undef,undef,undef,undef,undef,undef,undef,undef,undef],defers:=[]}) (λ _ U=>U.alloc (.cells (dy n) 92)) (λ _ U=>(Below.refl _ U).alloc (aW) _) (λ _ U h=>(jZ.refl _ U).c.T ⟨by simp, λ k o _ hk _=>(Below.heap_alloc _ _ _ (aX hk).1).T hk⟩) ?assign ?body ?done (λ _ _ _ _ _ _ h=>h.elim)
 case assign=>
  intro l x W K hK
  gi_wp2
  exact hK
 case hI=>
  rintro pre U V ⟨h1,h2,h3,h4⟩ hk
  exact⟨fW h1 hk id,fW h2 hk id,fW h3 hk id,gJ h4 hk ag (λ _ _ h=>h) (aW)⟩
 case body=>
  rintro l pre x U W hU dF ⟨h1,h2,h3,h4⟩ gj -
  obtain rfl:pre=[]:=by cases pre;rfl;simp at gj
  have hx:=dF U.heap.size _ (World.alloc_heap_new U _) rfl
  obtain⟨u1,BN⟩:=aK (W.setCell (za (w.heap.size+1+1) 0) (.int .i64 1))
  have g1:Boxed u1 (w.heap.size+1) 3 (.int .i64 0):=by rw[BN];exact(Below.heap_setCell _ _ _ _ aR).T h1
  have g2:Boxed u1 (w.heap.size+1+1) 3 (.int .i64 1):=by rw[BN];exact aq (j:=0) _ h2
  have g3:Boxed u1 (w.heap.size+1+1+1) 4 (.bool true):=by rw[BN];exact(Below.heap_setCell _ _ _ _ aR).T h3
  have gx:u1.heap[U.heap.size]? =some (.cells (dy n) 92):=by rw[BN];exact(Below.heap_setCell _ _ _ _ bV).T hx
  have HK:Hid (∀V,Below u1 u1 V->V.cell? (za (w.heap.size+1+1+1) 0)=some (.bool true)/\V.frozen? ⟨w.heap.size+1+1+1,0,none⟩=false/\Hid (jZ w2.heap.size W (V.setCell (za (w.heap.size+1+1+1) 0) (.bool true))/\Boxed (V.setCell (za (w.heap.size+1+1+1) 0) (.bool true)) (w.heap.size+1) 3 (.int .i64 0)/\Boxed (V.setCell (za (w.heap.size+1+1+1) 0) (.bool true)) (w.heap.size+1+1) 3 (.int .i64 1)/\Boxed (V.setCell (za (w.heap.size+1+1+1) 0) (.bool true)) (w.heap.size+1+1+1) 4 (.bool true)/\Below w w (V.setCell (za (w.heap.size+1+1+1) 0) (.bool true)))):=af λ V hb=>by
   have k1:=(hb.block _ (aX g1).1).T g1
   have k2:=(hb.block _ (aX g2).1).T g2
   have k3:=(hb.block _ (aX g3).1).T g3
   have ka:jZ w2.heap.size W u1:=by rw[BN];exact(jZ.refl _ _).setCell bV _
   have hbu:Below w w u1:=by rw[BN];exact h4.setCell bV _
   exact⟨aJ k3,ak k3 0,af ⟨(ka.below hb).setCell bV _,(Below.heap_setCell _ _ _ _ aR).T k1,(Below.heap_setCell _ _ _ _ aR).T k2,aq (j:=0) _ k3,(hbu.T (hb.mono hbu.size)).setCell bV _⟩⟩
  have m1:=aJ h2
  have f1:=ak h2 0
  have c1:=aJ g1
  have c2:=aJ g2
  have ct:= λ j=>aa gx j
  have t0:=(ct 0).T rfl
  have t1:=(ct 1).T rfl
  have t2:=(ct 2).T rfl
  have t3:=(ct 3).T rfl
  have t4:=(ct 4).T rfl
  simp only[aD]at t0 t1 t2 t3 t4
  have HIS:=af (KZ n u1)
  rw[BN]at c1 c2 t0 t1 t2 t3 t4 HIS
  have HU:=af BN
  clear h1 h2 h3 h4 gj dF hx g1 g2 g3 gx ct hU BN mQ HA Cv
  gi_wp2_with first
   |((refine⟨True.intro,(CallsIn.inRound l (callsIn_wide.2 (Wd _))).mono ?_⟩);rintro e w5 ⟨rfl,eT⟩;rw[eT];clear eT w5)
   |((refine⟨True.intro,(CallsIn.inRound l (callsIn_wide.2 HIS.O)).mono ?_⟩);rintro e w5 ⟨rfl,bJ⟩;rw[<-HU.O]at bJ;obtain⟨y0,y1,y2⟩:=HK.O w5 bJ;clear bJ m1 f1 c1 c2 t0 t1 t2 t3 t4)
   |fail
  obtain⟨e1,e2,e3,e4,e5⟩:=y2.O
  exact⟨e1.from,e1.c,e2,e3,e4,e5⟩
 case done=>
  rintro D s W hD rfl ⟨h1,h2,h3,h4⟩ - hK
  have c1:=aJ h1
  have c2:=aJ h2
  have c3:=aJ h3
  have q1:=ak h1 0
  have q2:=ak h2 0
  have q3:=ak h3 0
  obtain⟨W3,QA⟩:=aK ((((W.setCell (za (w.heap.size+1) 0) (.int .i64 0)).setCell (za (w.heap.size+1+1) 0) (.int .i64 1)).setCell (za (w.heap.size+1+1+1) 0) (.bool true)).drew)
  have r1:W3.cell? (za (w.heap.size+1) 0)=some (.int .i64 0):=aJ (show W3.heap[w.heap.size+1]? =some (.cells mc 3)by
   rw[QA];exact(Below.heap_setCell _ _ _ _ (by simp<;>omega)).T ((Below.heap_setCell _ _ _ _ (by simp<;>omega)).T (aq (j:=0) _ h1)))
  have r2:W3.cell? (za (w.heap.size+1+1) 0)=some (.int .i64 1):=aJ (show W3.heap[w.heap.size+1+1]? =some (.cells #[.int .i64 1] 3)by
   rw[QA];exact(Below.heap_setCell _ _ _ _ (by simp<;>omega)).T (aq (j:=0) _ ((Below.heap_setCell _ _ _ _ (by simp<;>omega)).T h2)))
  have r3:W3.cell? (za (w.heap.size+1+1+1) 0)=some (.bool true):=aJ (show W3.heap[w.heap.size+1+1+1]? =some (.cells #[.bool true] 4)by
   rw[QA];exact aq (j:=0) _ ((Below.heap_setCell _ _ _ _ (by simp<;>omega)).T ((Below.heap_setCell _ _ _ _ (by simp<;>omega)).T h3)))
  have hK3:W3.heap[D]? =some (.deferred (some [])):=by
   rw[QA];exact(Below.heap_setCell _ _ _ _ (by simp<;>omega)).T ((Below.heap_setCell _ _ _ _ (by simp<;>omega)).T ((Below.heap_setCell _ _ _ _ (by simp<;>omega)).T hK))
  have bA:Hid (Below w w (W3.putObj D (.deferred none))):=af (eG (by rw[QA];exact(((h4.setCell (by simp<;>omega) _).setCell (by simp<;>omega) _).setCell (by simp<;>omega) _).drew) _ hK3 ag)
  have HK:=af hK3
  have HR:=cV r1 r2 r3
  have mL:=af QA
  have HD:=af hD
  clear hD h1 h2 h3 h4 hK Cv HA hK3 r1 r2 r3 QA
  go_wp2_with fail
  refine Jq ?_
  refine bP 6 ?_
  refine tP [0,1,2] ?_
  iterate 3 refine tO ?_
  refine ah 3 rfl ?_
  refine sP 3 [0] λ K hK=>?_
  go_simp
  refine nP hK ?_
  clear hK K
  refine sP 4 [0,1,3] λ K hK=>?_
  go_simp
  refine nP hK ?_
  clear hK K
  refine sP 5 [0,1,2,3,4] λ K hK=>?_
  go_simp
  refine nP hK ?_
  clear hK K
  refine dP ?_
  go_simp
  rw[<-mL.O]
  go_wp2_with fail
  have HD':=HD.O
  have R1:(W3.putObj D (.deferred none)).cell? (za (w.heap.size+1) 0)=some (.int .i64 0):=(World.cell?_of_block (w:=W3) (World.putObj_heap_other (by simp<;>omega))).T HR.O.1
  have R2:(W3.putObj D (.deferred none)).cell? (za (w.heap.size+1+1) 0)=some (.int .i64 1):=(World.cell?_of_block (w:=W3) (World.putObj_heap_other (by simp<;>omega))).T HR.O.2.1
  have R3:(W3.putObj D (.deferred none)).cell? (za (w.heap.size+1+1+1) 0)=some (.bool true):=(World.cell?_of_block (w:=W3) (World.putObj_heap_other (by simp<;>omega))).T HR.O.2.2
  clear HD'
  refine⟨by simp,.inl ⟨_,_,rfl,run_takeDeferred HK.O,?_⟩⟩
  refine⟨.tuple #[.int .i64 0,.int .i64 1,.bool true],?_,rfl,bA.O⟩
  rw[lS rfl]
  go_simp
theorem K0(n:Int)(w:World):Calls Tryz.prog 63 #[.agg (dy n)] w λ e w'=>e= .returned (.bool true)/\Below w w w':=by
 go_enter Tryz.func63,Tryz.ntmps63
 go_wp2_with first
  |((with_reducible refine(EB n _).mono ?_);rintro e w2 ⟨rfl,hb⟩;have HB:=af hb;clear hb)
  |fail
 go_ret
 exact⟨rfl,Below.T (by go_grown) (HB.O.mono (by simp<;>omega))⟩
theorem nQ(n:Int)(w:World):Calls Tryz.prog 47 #[.agg (dy n)] w λ e w'=>e= .returned (.int .i64 0)/\Below w w w':=by
 go_enter Tryz.func47,Tryz.ntmps47
 go_wp2_with first
  |((with_reducible refine(K0 n _).mono ?_);rintro e w2 ⟨rfl,hb⟩;have HB:=af hb;clear hb)
  |fail
 go_ret
 exact⟨rfl,Below.T (by go_grown) (HB.O.mono (by simp<;>omega))⟩
end
abbrev WT:TypeId:=160
theorem bsize:(Tryz.prog.info? 158).map (·.size)=some 2:=aO
theorem aad:liesAt Tryz.prog Tryz.prog.depth 160 (2/Tryz.prog.cellsOf 160) 0 158 1=true:=aO
theorem Cz(b:Nat)(w:World)(h0:w.cell? (za b 0)=some (.pointer none))(hsh:w.shape? b=some (WT,2))(hfz:w.frozen? ⟨b,0,none⟩=false):
 Calls Tryz.prog 83 (dW (zp b)) w λ e w'=>e= .returned (.tuple #[])/\w'=w.setCell (za b 0) (.pointer (zp b)):=by
 obtain⟨j,hj,hjs⟩:=Option.map_eq_some_iff.1 bsize
 go_enter Tryz.func83,Tryz.ntmps83
 go_wp2_with fail
 rw[Lib.run_to_unsafe w ⟨b,0,none⟩ Tryz.underlying156 Tryz.underlying239 hj (by rw[hjs];decide) hsh (Nat.zero_lt_succ 1)]
 simp only[Result.andThen]
 rw[Oper.upon_value]
 go_wp2_with fail
 rw[run_callFunc_extern Tryz.func120 aO aO aO (e:=Extern.AbiNoEscape.same) aO]
 rw[Lib.run_noEscape]
 simp only[Result.andThen]
 rw[Oper.upon_value]
 go_wp2_with fail
 rw[Lib.run_from_unsafe w ⟨b,0,none⟩ Tryz.underlying239 Tryz.underlying156 hj hsh aad]
 simp only[Result.andThen]
 rw[Oper.upon_value]
 go_wp2_with fail
 go_end0
 exact⟨rfl,rfl⟩
theorem EC(b:Nat)(w:World)(h0:w.cell? (za b 0)=some (.pointer (zp b))):
 Calls Tryz.prog 83 (dW (zp b)) w λ e w'=>e= .returned (.tuple #[])/\w'=w:=by
 obtain⟨j,hj,_⟩:=Option.map_eq_some_iff.1 bsize
 go_enter Tryz.func83,Tryz.ntmps83
 go_wp2_with fail
 rw[Lib.run_neq_ptr_same w _ Tryz.underlying156 hj]
 go_wp2_with fail
 go_end0
 exact⟨rfl,rfl⟩
theorem RU(n:Nat)(hn:n<=281474976710656)(w:World):∃cs:Array Value,(callFunc 121 (Au n)).run Tryz.prog w.drew= .ok (.value (.slice (zp w) n cs.size)) (w.drew.drew.drew.alloc (.cells cs 5))/\n<=cs.size/\cs.size<=maxLen:=by
 obtain⟨cs,K1,hle,wh⟩:=Lib.run_makeNoZero (P:=Tryz.prog) w.drew #[3] 34 5 Tryz.underlying34 n hn
 refine⟨cs,?_,hle,wh (by unfold maxLen;omega)⟩
 rw[run_callFunc_extern Tryz.func121 aO aO aO (e:=Extern.BytealgMakeNoZero.makeNoZero #[3] #[34]) aO,K1]
 rfl
theorem ED(b n:Nat)(w:World)(pk:w.heap[b]? =some (.cells (UG (zp b)) WT))(hn:n<=1000):
 Calls Tryz.prog 84 (UH (zp b) n) w λ e w'=>e= .returned (.tuple #[])/\∃cs:Array Value,n<=cs.size/\cs.size<=maxLen/\w'=((w.alloc (.cells cs 5)).setCell (za b 1) (.slice (zp w) 0 cs.size)).drew.drew.drew:=by
 obtain⟨cs,acY,hle,wh⟩:=RU n ag w
 have bg:=(aX pk).1
 have h2:(w.alloc (.cells cs 5)).heap[b]? =some (.cells (UG (zp b)) WT):=(Lib.alloc_old w _ b bg).T pk
 have c1:=(aa pk 1).T rfl
 have c2:=(aa h2 1).T rfl
 simp only[aD]at c1 c2
 have f2:=ak h2 1
 have i0:IntKind.i64.wrap 0=0:=aO
 have i1:IntKind.i64.wrap (n:Int)=n:=by rw[IntKind.wrap_i64];omega
 have acZ:∀W:World,(Builtin.copy_ #[34,34] 3 #[.slice (zp w) 0 cs.size,.slice none 0 0]).run Tryz.prog W= .ok (goInt 0) W:=
  λ W=>run_copy_none W 34 34 3 5 _ _ 0 cs.size 0 0 Tryz.underlying34 aO rfl
 have HC:=cj hle wh
 clear hle wh h2 pk bg
 go_enter Tryz.func84,Tryz.ntmps84
 go_wp2_with fail
 refine bP 16 ?_
 refine tP [0,1,2,3,4,5,6,7,9,10,11,12,13] ?_
 iterate 13 refine tO ?_
 refine ah 3 rfl ?_
 refine sP 8 [0,1,2,3,4,5,6,7] λ K hK=>?_
 go_simp
 refine nP hK ?_
 clear hK K
 refine tP [14,15] ?_
 iterate 2 refine tO ?_
 refine ah 0 rfl ?_
 refine dP ?_
 go_simp
 go_wp2_with fail
 go_end0
 exact⟨rfl,_,HC.O.1,HC.O.2,rfl⟩
abbrev G7(B b:Nat)(bs:List Value)(w:World):Prop:=Lib.BuilderAt WT 5 B b (.pointer (zp b)) bs w
theorem aae(B b n:Nat)(w:World)(hB:B<=b)(pk:w.heap[b]? =some (.cells UF WT))(dD:1<=n)(hn:n<=1000)(qv:B<=w.heap.size):
 Calls Tryz.prog 65 (UH (zp b) n) w λ e w'=>e= .returned (.tuple #[])/\G7 B b [] w'/\Below B w w':=by
 obtain⟨w1,aH⟩:=aK (w.setCell (za b 0) (.pointer (zp b)))
 have RV:w1.heap[b]? =some (.cells (UG (zp b)) WT):=by rw[aH];exact aq (j:=0) _ pk
 have aQ:Below B w w1:=by rw[aH];exact(Below.refl B w).setCell (p:=(za b 0)) hB _
 have c1:=(aa RV 1).T rfl
 simp only[aD]at c1
 have HCF:=af (Cz b w ((aa pk 0).T rfl) (by simp[World.shape?,pk]) (ak pk 0))
 rw[<-aH]at HCF
 have HG:=af (ED b n w1.drew RV hn)
 have HB:=cV aQ RV (show B<=w1.drew.heap.size from Nat.le_trans qv aQ.size)
 have i0:IntKind.i64.wrap 0=0:=aO
 have MV:(0:Int)<(n:Int):=ag
 have adp:0<n:=dD
 have RW:¬ ((n:Int)<0):=ag
 clear RV aQ aH pk dD hn qv
 go_enter Tryz.func65,Tryz.ntmps65
 go_wp2_with first
  |((with_reducible refine HCF.O.mono ?_);rintro e w2 ⟨rfl,da⟩;rw[da];clear da w2)
  |fail
 refine bP 13 ?_
 refine tP [0,1,2,3,4,5,6,7,8,9,10,11,12] ?_
 iterate 13 refine tO ?_
 refine ah 0 rfl ?_
 refine dP ?_
 go_simp
 go_wp2_with first
  |((with_reducible refine HG.O.mono ?_);rintro e w2 ⟨rfl,cs,adq,aca,rfl⟩)
  |fail
 go_end0
 obtain⟨h1,h2,h3⟩:=HB.O
 have cu:=Lib.grown_fresh (T:=WT) (e:=5) (cs:=cs) (w:=w1.drew) hB h2 h3 aca bd
 exact⟨rfl,cu.1,h1.drew.T cu.2⟩
theorem Wg(B b:Nat)(bs:List Value)(s:ByteArray)(w:World)(h:G7 B b bs w)(hlen:bs.length+s.size<=140737488355328)(qv:B<=w.heap.size):
 Calls Tryz.prog 122 (BK (zp b) s) w λ e w'=>e= .returned (.tuple #[.int .i64 s.size,.nilIface])/\G7 B b (bs++Lib.strCells s) w'/\Below B w w':=by
 obtain⟨i0,hi,gQ,fq,mx⟩:=info_parts VW.infoByte
 obtain⟨hB,v,pk,eW,bS⟩:=h
 have c0:w.cell? (za b 0)=some (.pointer (zp b)):=by rw[Lib.cell_of_heap pk];rfl
 have c1:w.cell? (za b 1)=some v:=by rw[Lib.cell_of_heap pk];rfl
 go_enter Tryz.func122,Tryz.ntmps122
 go_wp2_with first
  |((with_reducible refine(EC b w c0).mono ?_);rintro e w2 ⟨rfl,da⟩;rw[da];clear da w2)
  |(at_builtin;refine Lib.wpList_append_own_string _ rfl _ _ 34 9 rfl B 5 i0 Tryz.underlying34 Tryz.underlying9 hi gQ fq mx _ _ _ rfl eW s rfl ?c3 ?c4 ?c5 ?_)
  |fail
 case c3=>unfold maxLen;omega
 case c4=>omega
 case c5=>exact qv
 intro v' w2 cY eB _
 have bg:b<w.heap.size:=(aX pk).1
 have aC:w2.heap[b]? =some (.cells #[.pointer (zp b),v] WT):=(eB.block b bg (λ e=>bS e.symm)).T pk
 have d1:w2.cell? (za b 1)=some v:=by rw[Lib.cell_of_heap aC];rfl
 have f1:w2.frozen? ⟨b,1,none⟩=false:=Lib.frozen_of_heap aC 1
 obtain⟨ao,n',cap,rfl⟩:∃ao n' cap,v'= .slice ao n' cap:=by
  rcases cY.2 with⟨hv,_⟩|⟨g,cap,cur,hv,_⟩
  ·exact⟨_,_,_,hv⟩
  ·exact⟨_,_,_,hv⟩
 go_wp2_with fail
 go_ret2
 refine⟨rfl,?_,?_⟩
 ·exact Lib.BuilderAt.put (T:=WT) (e:=5) hB aC (bs':=bs++Lib.strCells s) (by simpa[Lib.strCells_length]using cY) bd
 ·exact((Below.refl B w).grown eB qv (λ k hk=>(eW.lt k hk).1)).setCell (p:=(za b 1)) hB _
theorem RX(B b:Nat)(l:List UInt8)(w:World)(h:G7 B b (Lib.byteCells l) w)(h0:l≠[]):
 Calls Tryz.prog 67 (dW (zp b)) w λ e w'=>e= .returned (.string ⟨l.toArray⟩)/\Below B w w':=by
 obtain⟨hB,v,pk,eW,bS⟩:=h
 have zv:l.length≠0:=by simpa using h0
 rw[Lib.byteCells_length]at eW
 obtain⟨g,cap,cur,rfl,RY,hg,hnc,Zh,Ki,aaf⟩:∃g cap cur,v= .slice (zp g) l.length cap/\B<=g/\w.heap[g]? =some (.cells cur 5)/\l.length<=cap/\cap<=maxLen/\cur.size=cap*1/\cur.toList.take (l.length*1)=Lib.byteCells l:=by
  rcases eW.2 with⟨_,hz⟩|⟨g,cap,cur,hv,r⟩
  ·exact absurd hz zv
  ·exact⟨g,cap,cur,hv,r⟩
 have c1:w.cell? (za b 1)=some (.slice (zp g) l.length cap):=by rw[Lib.cell_of_heap pk];rfl
 have hSD:(Builtin.unsafeSliceData_ #[34] 205 (jE (zp g) l.length cap)).run Tryz.prog w.drew= .ok (.pointer (zp g)) w.drew:=
  Lib.run_unsafeSliceData_row _ _ _ _ _ _ ag
 have hUS:(Builtin.unsafeString_ #[205,3] 9 #[.pointer (zp g),.int .i64 l.length]).run Tryz.prog w.drew= .ok (.string ⟨l.toArray⟩) (w.drew.freeze ⟨g,0,none⟩ l.length):=by
  refine Lib.run_unsafeString_row w.drew 205 3 9 5 Tryz.underlying205 aO g cur.size (by have mg:w.drew.heap[g]? =some (.cells cur 5):=hg;simp[World.shape?,mg]) l h0 ag (by unfold maxLen at Zh;omega) ?_
  intro j x hx
  have:=eW.cells (g:=g) rfl j (.int .u8 x.toNat) (by simp[Lib.byteCells,hx])
  exact this
 clear zv pk eW bS hg hnc Zh Ki aaf
 go_enter Tryz.func67,Tryz.ntmps67
 go_wp2_with fail
 refine bP 12 ?_
 refine tP [0,1,2,3,5,6,7,8,9] ?_
 iterate 9 refine tO ?_
 refine ah 3 rfl ?_
 refine sP 4 [0,1,2,3] λ K hK=>?_
 go_simp
 refine nP hK ?_
 clear hK K
 refine sP 10 [0,1,2,3,4,5,6,7,8,9] λ K hK=>?_
 go_simp
 refine nP hK ?_
 clear hK K
 refine tP [11] ?_
 refine tO ?_
 refine ah 0 rfl ?_
 refine dP ?_
 go_simp
 go_wp2_with fail
 go_ret
 exact⟨rfl,Lib.below_freeze (Below.drew (Below.refl B w)) (p:=(za g 0)) RY _⟩
section
attribute [local go_sem] Oper.semAt_some
attribute [-go_sem] Builtin.append_
theorem K3(n:Int)(dD: -9223372036854775808<=n)(fu:n<9223372036854775808)(w:World):
 Calls Tryz.prog 118 (qV n) w λ e w'=>e= .returned (.int .i64 ((aU (cR n)).size:Nat))/\Below w w w':=by
 have HP:=af (yj n dD fu w)
 clear dD fu
 go_enter Tryz.func118,Tryz.ntmps118
 go_wp2_with first
  |((with_reducible refine HP.O.mono ?_);rintro e w2 ⟨rfl,hb⟩;have HB:=af hb;clear hb)
  |fail
 go_ret
 exact⟨rfl,HB.O⟩
theorem RZ(C D x y:Nat)(w:World)(hx:w.cell? (za C 0)=some (.int .i64 (x:Int)))(hy:Boxed w D 3 (.int .i64 (y:Int)))(hs:y+x<=1000):
 Calls Tryz.prog 117 (UI (zp C) 1 1 (zp D)) w λ e w'=>e= .returned (.tuple #[])/\w'=w.setCell (za D 0) (.int .i64 ((y+x:Nat):Int)):=by
 have hy0:=hy.cell
 have hf:=ak hy 0
 have hw:IntKind.i64.wrap ((y:Int)+(x:Int))=((y+x:Nat):Int):=by rw[IntKind.wrap_i64];omega
 have hs':((y:Int)+(x:Int))=((y+x:Nat):Int):=ag
 clear hs' hy
 obtain⟨z,hz⟩:=aK (y+x)
 rw[<-hz]at hw⊢
 clear hz hs
 go_enter Tryz.func117,Tryz.ntmps117
 go_wp2_with fail
 go_loopw [7] (λ iv wr=>(iv= .int .i64 0/\wr=w)\/(iv= .int .i64 1/\wr=w.setCell (za D 0) (.int .i64 (z:Int)))) (λ iv _=>1 - (intOf iv).toNat)
 case atStart=>exact .inl ⟨rfl,rfl⟩
 case round=>
  rcases hrel with⟨rfl,rfl⟩|⟨rfl,rfl⟩
  ·go_wp2_with fail
   go_roundw
   case rel=>exact .inr ⟨rfl,trivial⟩
   case measure=>simp[intOf]
  ·go_wp2_with fail
   go_end0
   exact⟨rfl,rfl⟩
theorem kx(n:Int)(dD: -9223372036854775808<=n)(fu:n<9223372036854775808):1<=(aU (cR n)).size/\(aU (cR n)).size<=20:=by
 have h:(aU (cR n)).size=(cR n).length:=by simp[aU,ByteArray.size]
 have h1:=yh n.natAbs ag
 have h2:=ux 20 n.natAbs
 rw[h]
 unfold cR
 split<;>simp[qx,gY]<;>omega
theorem K4(n:Int)(dD: -9223372036854775808<=n)(fu:n<9223372036854775808)(w:World):
 Calls Tryz.prog 82 #[.agg (dy n)] w λ e w'=>e= .returned (.int .i64 ((aU (cR n)).size:Nat))/\Below w w w':=by
 obtain⟨w1,aH⟩:=aK ((w.alloc (.cells (dy n) 92)).alloc (.cells mc 3))
 have aQ:Below w w w1:=by rw[aH];go_grown
 have bB:=aS (w2:=w1) (by rw[aH];exact dp)
 have HS:=af (K3 n dD fu w1)
 rw[aH]at HS
 have R0:=af (kx n dD fu)
 obtain⟨z,hz⟩:=aK ((aU (cR n)).size)
 rw[<-hz]at HS R0⊢
 have im:IntKind.i64.wrap (-1)= -1:=aO
 have im2:max (0:Int) (-1)=0:=by decide
 have HW:=cV aQ bB aH
 clear hz aH aQ bB dD fu
 go_enter Tryz.func82,Tryz.ntmps82
 go_wp2_with first
  |((with_reducible refine HS.O.mono ?_);rintro e w2 ⟨rfl,hb⟩;rw[<-HW.O.2.2]at hb
    have ey:=(hb.block _ (aX HW.O.2.1.1).1).T HW.O.2.1.1
    have eZ:=(hb.block _ (aX HW.O.2.1.2).1).T HW.O.2.1.2
    have hB:=HW.O.1.T (hb.mono HW.O.1.size)
    have hr:∀j,(w2.alloc (.cells (Au z) 3)).heap[j]? =w2.heap[j]? \/w2.heap.size<=j:= λ j=>by
     rcases Nat.lt_or_ge j w2.heap.size with h|h
     ·exact .inl (Lib.alloc_old w2 _ j h)
     ·exact .inr h
    have h2y:Boxed (w2.alloc (.cells (Au z) 3)) (w.heap.size+1) 3 (.int .i64 ((0:Nat):Int)):=(Lib.alloc_old w2 _ _ (aX eZ).1).T eZ
    have HA:=af (RZ w2.heap.size (w.heap.size+1) z 0 (w2.alloc (.cells (Au z) 3)) (aJ (World.alloc_heap_new w2 _)) h2y (aM R0.O.2))
    have HE:Hid (∀v,Below w w ((w2.alloc (.cells (Au z) 3)).setCell (za (w.heap.size+1) 0) v)/\((w2.alloc (.cells (Au z) 3)).setCell (za (w.heap.size+1) 0) v).cell? (za (w.heap.size+1) 0)=some v/\((w2.alloc (.cells (Au z) 3)).setCell (za (w.heap.size+1) 0) v).cell? (za w 3)=some (.slice none 0 0)):=af λ v=>by
     refine⟨(hB.alloc hB.size _).setCell (by simp<;>omega) _,aJ (aq (j:=0) v h2y),?_⟩
     exact(aa ((Below.heap_setCell _ _ _ _ aR).T ((Lib.alloc_old w2 _ _ (aX ey).1).T ey)) 3).T rfl
    clear hb ey eZ hB hr h2y)
  |((with_reducible refine HA.O.mono ?_);rintro e w3 ⟨rfl,cL⟩
    rw[Nat.zero_add]at cL
    obtain⟨e1,e2,e3⟩:=HE.O (.int .i64 (z:Int))
    rw[<-cL]at e1 e2 e3
    have HE1:=af e1
    clear e1 cL HE HA)
  |fail
 go_loopw [49] (λ iv wr=>iv= .int .i64 0/\wr=w3) (λ _ _=>0)
 case atStart=>exact⟨rfl,rfl⟩
 case round=>
  obtain⟨rfl,rfl⟩:=hrel
  go_wp2_with fail
  go_ret
  exact⟨rfl,HE1.O⟩
theorem K5(n:Int)(dD: -9223372036854775808<=n)(fu:n<9223372036854775808)(w:World):
 Calls Tryz.prog 64 #[.agg (dy n)] w λ e w'=>e= .returned (.tuple #[.int .i64 ((aU (cR n)).size:Nat),.int .i64 0])/\Below w w w':=by
 obtain⟨w1,aH⟩:=aK (w.alloc (.cells (dy n) 92))
 have aQ:Below w w w1:=by rw[aH];go_grown
 have hx:=World.alloc_heap_new w (.cells (dy n) 92)
 rw[<-aH]at hx
 have HC:=af (nQ n w1)
 have HS:=af (λ W=>K4 n dD fu W)
 rw[aH]at HC
 have HW:=cV aQ hx aH
 clear aH aQ hx dD fu
 go_enter Tryz.func64,Tryz.ntmps64
 go_wp2_with first
  |((with_reducible refine HC.O.mono ?_);rintro e w2 ⟨rfl,hb⟩;rw[<-HW.O.2.2]at hb
    have ct:= λ j=>aa ((hb.block _ (aX HW.O.2.1).1).T HW.O.2.1) j
    have t0:=(ct 0).T rfl
    have t1:=(ct 1).T rfl
    have t2:=(ct 2).T rfl
    have t3:=(ct 3).T rfl
    have t4:=(ct 4).T rfl
    simp only[aD]at t0 t1 t2 t3 t4
    have HB:=af (HW.O.1.T (hb.mono HW.O.1.size))
    clear hb ct)
  |((with_reducible refine(HS.O _).mono ?_);rintro e w3 ⟨rfl,hb⟩;have bA:=af (HB.O.T (hb.mono HB.O.size));clear hb t0 t1 t2 t3 t4)
  |fail
 go_ret2
 exact⟨rfl,bA.O⟩
theorem uy{b:Nat}{bs:List Value}{w':World}(h:G7 B b bs w)(hb:Below w w w'):G7 B b bs w':=by
 obtain⟨hB,v,pk,eW,bS⟩:=h
 obtain⟨ao,cap,rfl⟩:∃ao cap,v= .slice ao bs.length cap:=by
  rcases eW.2 with⟨hv,h0⟩|⟨g,cap,cur,hv,_⟩
  ·exact⟨none,0,by rw[hv,h0]⟩
  ·exact⟨_,_,hv⟩
 exact⟨hB,_,(hb.block b (aX pk).1).T pk,bO.row hb eW,bS⟩
theorem On(B b:Nat)(s:ByteArray)(C:Nat)(w:World)(hx:w.cell? (za C 0)=some (.string s))(h:G7 B b [] w)(hs:s.size<=1000)(qv:B<=w.heap.size):
 Calls Tryz.prog 86 #[.pointer (zp b),.slice (zp C) 1 1] w λ e w'=>e= .returned (.tuple #[])/\G7 B b (Lib.strCells s) w'/\Below B w w':=by
 have aZ:=af (Wg B b [] s w h bV qv)
 have H0:=cj h qv
 clear h hs qv
 go_enter Tryz.func86,Tryz.ntmps86
 go_wp2_with fail
 go_loopw [8] (λ iv wr=>(iv= .int .i64 0/\wr=w)\/(iv= .int .i64 1/\Hid (G7 B b (Lib.strCells s) wr/\Below B w wr))) (λ iv _=>1 - (intOf iv).toNat)
 case atStart=>exact .inl ⟨rfl,rfl⟩
 case round=>
  rcases hrel with⟨rfl,rfl⟩|⟨rfl,hw⟩
  ·go_wp2_with first
    |((with_reducible refine aZ.O.mono ?_);rintro e w2 ⟨rfl,h1,h2⟩;have HH:=cj h1 h2;clear h1 h2)
    |fail
   go_roundw
   case rel=>exact .inr ⟨rfl,HH⟩
   case measure=>simp[intOf]
  ·go_wp2_with fail
   go_end0
   exact⟨rfl,hw.O.1,hw.O.2⟩
theorem G8(B b b1 b2:Nat)(n:Int)(dD: -9223372036854775808<=n)(fu:n<9223372036854775808)(w:World)(h1:w.cell? (za b1 0)=some (.pointer (zp b)))(h2:w.cell? (za b2 1)=some (.int .i64 n))(h:G7 B b [] w)(qv:B<=w.heap.size):
 Calls Tryz.prog 88 (iS (zp b1) (zp b2)) w λ e w'=>e= .returned (.tuple #[])/\G7 B b (Lib.strCells (aU (cR n))) w'/\Below B w w':=by
 have HP:=af (λ W=>yj n dD fu W)
 have R0:=af (show(aU (cR n)).size<=1000 by have:=kx n dD fu;omega)
 have lJ:=af qv
 have HK:Hid (∀W,Below w.drew.heap.size w.drew W->W.cell? (za b1 0)=some (.pointer (zp b))/\W.cell? (za b2 1)=some (.int .i64 n)/\(∀o,(W.alloc o).cell? (za b1 0)=some (.pointer (zp b)))/\G7 B b [] W):=af λ W hb=>
  ⟨carry hb h1,carry hb h2, λ o=>carry ((Below.refl _ W).alloc (aW) o) (carry hb h1),uy (w:=w.drew) h hb⟩
 clear dD fu qv h
 go_enter Tryz.func88,Tryz.ntmps88
 go_wp2_with fail
 refine bP 6 ?_
 refine tP [0,1,2] ?_
 iterate 3 refine tO ?_
 refine ah 3 rfl ?_
 refine sP 3 [1,2] λ K hK=>?_
 go_simp
 (with_reducible refine(HP.O _).mono ?_);rintro e w2 ⟨rfl,hb⟩
 obtain⟨g0,g1,g2,wP⟩:=HK.O w2 hb
 have RB:=af (uy wP ((Below.refl _ w2).alloc (aW) (.cells #[.string (aU (cR n))] 9)))
 have CA:=af (On B b (aU (cR n)) w2.heap.size _ (aJ (World.alloc_heap_new w2 (.cells #[.string (aU (cR n))] 9))) RB.O R0.O (by have h1:=hb.size;have h2:=lJ.O;simp at h1⊢;omega))
 have bR:=af hb
 clear hb wP
 refine nP hK ?_
 clear hK K
 refine sP 4 [1,2,3] λ K hK=>?_
 go_simp
 refine nP hK ?_
 clear hK K
 refine sP 5 [0,1,2,3,4] λ K hK=>?_
 go_simp
 (with_reducible refine CA.O.mono ?_);rintro e w4 ⟨rfl,h4,bH⟩
 have eJ:=cj h4 bH
 clear h4 bH
 refine nP hK ?_
 clear hK K
 refine dP ?_
 go_simp
 go_end0
 have qv:=lJ.O
 have hb:=bR.O
 have h2:Below B w w2:=((Below.refl B w).drew).T (hb.mono qv)
 exact⟨rfl,eJ.O.1,(h2.alloc (Nat.le_trans qv h2.size) _).T eJ.O.2⟩
theorem G9(B b:Nat)(n:Int)(dD: -9223372036854775808<=n)(fu:n<9223372036854775808)(w:World)(h:G7 B b [] w)(qv:B<=w.heap.size):
 Calls Tryz.prog 66 (tQ (zp b) (.agg (dy n))) w λ e w'=>e= .returned (.tuple #[])/\G7 B b (Lib.strCells (aU (cR n))) w'/\Below B w w':=by
 have HW:Hid (∀o,Calls Tryz.prog 88 (iS (zp w) (zp (w.heap.size+1))) (((w.alloc (.cells (dW (zp b)) 199)).alloc (.cells (dy n) 92)).alloc o) λ e w'=>e= .returned (.tuple #[])/\G7 B b (Lib.strCells (aU (cR n))) w'/\Below B w w'):=af λ o=>by
  obtain⟨w1,aH⟩:=aK (((w.alloc (.cells (dW (zp b)) 199)).alloc (.cells (dy n) 92)).alloc o)
  have hx:=aS (w2:=w1) (by rw[aH];exact(dp).alloc (aW) _)
  have aQ:Below w w w1:=by rw[aH];go_grown
  rw[<-aH]
  refine(G8 B b _ _ n dD fu w1 (aJ hx.1) ((aa hx.2 1).T rfl) (uy h aQ) (Nat.le_trans qv aQ.size)).mono ?_
  rintro e w2 ⟨rfl,h1,h2⟩
  exact⟨rfl,h1,(aQ.mono qv).T h2⟩
 have i2:IntKind.i64.wrap 2=2:=aO
 clear dD fu h qv
 go_enter Tryz.func66,Tryz.ntmps66
 go_wp2_with first
  |((with_reducible refine(HW.O _).mono ?_);rintro e w2 ⟨rfl,h1,h2⟩)
  |fail
 go_end0
 exact⟨rfl,h1,h2⟩
theorem Oo(s:ByteArray)(h:1<=s.size):s.data.toList≠[]:= λ e=>by
 have:s.size=s.data.toList.length:=(Array.length_toList ..).symm
 rw[this,e]at h;simp at h
theorem qb(n:Int)(dD: -9223372036854775808<=n)(fu:n<9223372036854775808)(w:World):
 Calls Tryz.prog 48 #[.agg (dy n)] w λ e w'=>e= .returned (.tuple #[.string (aU (cR n)),.int .i64 0])/\Below w w w':=by
 obtain⟨w1,aH⟩:=aK (w.alloc (.cells (dy n) 92))
 have aQ:Below w w w1:=by rw[aH];go_grown
 have hx:=World.alloc_heap_new w (.cells (dy n) 92)
 rw[<-aH]at hx
 have HS:=af (K5 n dD fu w1)
 rw[aH]at HS
 have R0:=af (kx n dD fu)
 have HV:=af (λ (B b:Nat) (W:World)=>G9 B b n dD fu W)
 obtain⟨z,hz⟩:=aK ((aU (cR n)).size)
 rw[<-hz]at HS
 have HZ:=af hz
 have fq:(z:Int)<=20:=by rw[hz];have:=R0.O.2;omega
 have mx:¬ (2048:Int)<(z:Int):=ag
 have HW:=cV aQ hx aH
 clear aH aQ hx dD fu hz fq
 go_enter Tryz.func48,Tryz.ntmps48
 go_wp2_with first
  |((with_reducible refine HS.O.mono ?_);rintro e w2 ⟨rfl,hb⟩;rw[<-HW.O.2.2]at hb
    have I0:=(hb.block _ (aX HW.O.2.1).1).T HW.O.2.1
    have HB:=cj (HW.O.1.T (hb.mono HW.O.1.size)) I0
    have HG:=af (aae (w.heap.size+1) w2.heap.size z (w2.alloc (.cells UF WT)) (by have:=hb.size;have:=HW.O.2.2;simp[this]at*;omega) (World.alloc_heap_new w2 _) (by rw[HZ.O];exact R0.O.1) (by rw[HZ.O];have:=R0.O.2;omega) (by have h2:=hb.size;have:=HW.O.2.2;simp[this]at*;omega))
    clear hb I0)
  |((with_reducible refine HG.O.mono ?_);rintro e w3 ⟨rfl,h3,aL⟩
    have aC:Below w w (w2.alloc (.cells UF WT)):=HB.O.1.alloc HB.O.1.size _
    have aaw:=aC.T (aL.mono (Nat.le_succ _))
    have bA:=af aaw
    have TO:=af (HV.O (w.heap.size+1) w2.heap.size w3 h3 (by have h1:=aL.size;have h2:=(aX HB.O.2).1;simp at h1;omega))
    have x3:w3.heap[w.heap.size]? =some (.cells (dy n) 92):=(aL.block _ (Nat.lt_succ_self _)).T ((Lib.alloc_old w2 _ _ (aX HB.O.2).1).T HB.O.2)
    have ct:= λ j=>aa x3 j
    have t0:=(ct 0).T rfl
    have t1:=(ct 1).T rfl
    have t2:=(ct 2).T rfl
    have t3:=(ct 3).T rfl
    have t4:=(ct 4).T rfl
    simp only[aD]at t0 t1 t2 t3 t4
    clear h3 aL aC aaw x3 ct)
  |((with_reducible refine TO.O.mono ?_);rintro e w4 ⟨rfl,h4,bH⟩
    have acb:=af (RX (w.heap.size+1) w2.heap.size (aU (cR n)).data.toList w4 h4 (Oo _ R0.O.1))
    have iJ:=af (bA.O.T (bH.mono (Nat.le_succ _)))
    clear h4 bH t0 t1 t2 t3 t4)
  |((with_reducible refine acb.O.mono ?_);rintro e w5 ⟨rfl,bJ⟩)
  |fail
 go_ret2
 exact⟨rfl,iJ.O.T (bJ.mono (Nat.le_succ _))⟩
abbrev bQ(pos:Nat)(a:Option Addr)(n c:Nat)(neg:Bool)(v:Nat):Array Value:=#[.int .i64 (pos:Int),.slice a n c,.bool neg,.int .u64 (v:Int),.bool false,.bool false]
def dY(W:World)(B:Nat)(pos:Nat)(a:Option Addr)(n c:Nat)(neg:Bool)(v:Nat):Prop:=W.heap[B]? =some (.cells (bQ pos a n c neg v) 397)
def EE(s:ByteArray):List Nat:=s.data.toList.map UInt8.toNat
theorem Oq(s:ByteArray):(EE s).length=s.size:=by unfold EE;rw[List.length_map,Array.length_toList];rfl
def gq(xs:List Nat)(pos:Nat)(s:ByteArray):Bool:=match xs[pos]? with|none=>false|some x=>(EE s).contains x
theorem dY.cells{c:Nat}(h:dY W B pos a n c neg v):W.cell? (za B 0)=some (.int .i64 (pos:Int))/\W.cell? (za B 1)=some (.slice a n c)/\W.cell? (za B 2)=some (.bool neg)/\W.cell? (za B 3)=some (.int .u64 (v:Int))/\W.cell? (za B 4)=some (.bool false)/\W.cell? (za B 5)=some (.bool false):=
 ⟨(aa h 0).T rfl,(aa h 1).T rfl,(aa h 2).T rfl,(aa h 3).T rfl,(aa h 4).T rfl,(aa h 5).T rfl⟩
theorem EF{c:Nat}(hB:dY W B pos a xs.length c neg v)(hb:ai W a xs)(s:ByteArray)(hs:s.size<=20)(hlen:xs.length<=4096):
 Calls Tryz.prog 253 (BK (zp B) s) W λ e w'=>e= .returned (.bool (gq xs pos s))/\w'.heap=W.heap/\Below W W w':=by
 have HB:=cj hB hb
 have hsi:(s.size:Int)<=20:=ag
 have VS:(xs.length:Int)<=4096:=ag
 have yl:Hid (∀i,∀h:i<s.size,(EE s)[i]? =some (s[i]'h).toNat):=af λ i h=>by
  unfold EE
  rw[List.getElem?_map,Array.getElem?_toList,Array.getElem?_eq_getElem h];rfl
 have eJ:Hid ((∀j x,j<s.size->(EE s)[j]? =some x->xs[pos]? ≠some x)->gq xs pos s=false):=af λ h=>by
  unfold gq
  cases hx:xs[pos]? with
  |none=>rfl
  |some x=>
   cases hc:(EE s).contains x with
   |false=>exact hc
   |true=>
    rw[List.contains_iff_mem]at hc
    obtain⟨j,hj⟩:=List.mem_iff_getElem?.1 hc
    exact absurd hx (h j x (by have:=(List.getElem?_eq_some_iff.1 hj).1;rwa [Oq]at this) hj)
 clear hB hb hs hlen
 go_enter Tryz.func253,Tryz.ntmps253
 go_wp2_with fail
 go_loopw [5,8] (λ _ iv wr=>∃i:Nat,i<=s.size/\iv= .int .i64 (i:Int)/\Hid (wr.heap=W.heap/\Below W W wr)/\Hid (∀j x,j<i->(EE s)[j]? =some x->xs[pos]? ≠some x)) (λ _ iv _=>s.size - (intOf iv).toNat)
 case atStart=>exact⟨0,Nat.zero_le _,rfl,af ⟨rfl,dp⟩,af λ j x h=>ag⟩
 case round=>
  obtain⟨i,hi,rfl,hw,km⟩:=hrel
  obtain⟨c0,c1, -⟩:=dY.cells (show dY wr B pos a xs.length c neg v from(congrArg (·[B]?) hw.O.1).T HB.O.1)
  by_cases bg:i<s.size
  ·obtain⟨z,hz⟩:=aK ((s[i]'bg).toNat)
   have TF:∀V,(Instr.index 9 (.string s) (.int .i64 (i:Int))).run Tryz.prog V= .ok (.int .u8 (z:Int)) V:= λ V=>by
    rw[run_index_string V 9 s .i64 i Tryz.underlying9,dif_pos ⟨ag,ag⟩,hz]
    simp
   have Wh:=yl.O i bg
   rw[<-hz]at Wh
   have HZ:=af Wh
   have DE:(i:Int)<(s.size:Int):=ag
   clear hz Wh
   by_cases hp:pos<xs.length
   ·have d1:decide ((pos:Int)<(xs.length:Int))=true:=bV
    have d1':decide (pos<xs.length)=true:=by simpa using hp
    obtain⟨x,hx⟩:∃x,xs[pos]? =some x:=⟨xs[pos],by simp[hp]⟩
    obtain⟨C,o,rfl,xp⟩:∃C o,a=some ⟨C,o,none⟩/\wr.cell? (za C (o+pos))=some (.int .u8 (x:Int)):=by
     rcases HB.O.2.2 with h0|⟨C,o,e,hc⟩
     ·rw[h0]at hp;simp at hp
     ·exact⟨C,o,e,(World.cell?_of_block (w:=W) (congrArg (·[C]?) hw.O.1)).T (hc pos x hx)⟩
    have HX:=af hx
    have Wi:(pos:Int)<(xs.length:Int):=ag
    clear hx
    by_cases hxz:x=z
    ·subst hxz
     have HT:Hid (gq xs pos s=true):=af (by
      unfold gq;rw[HX.O];simp only[List.contains_iff_mem]
      exact List.mem_of_getElem? HZ.O)
     go_wp2_with fail
     refine bP 28 ?_
     refine tP [0,1,2,3,4,5,6,7,8,9,10,11,12,13,14,15,16,17,18,19,20,21,22,23,24,25,26,27] ?_
     iterate 28 refine tO ?_
     refine ah 0 rfl ?_
     refine dP ?_
     go_simp
     go_wp2_with fail
     go_ret
     exact⟨by rw[HT.O];rfl,hw.O.1,hw.O.2.drew⟩
    ·have hxb:((x:Int)==(z:Int))=false:=bV
     have adr:(x==z)=false:=by simpa using hxz
     have HXZ:=af hxz
     go_wp2_with fail
     refine bP 28 ?_
     refine tP [0,1,2,3,4,5,6,7,8,9,10,11,12,13,14,15,16,17,18,19,20,21,22,23,24,25,26,27] ?_
     iterate 28 refine tO ?_
     refine ah 0 rfl ?_
     refine dP ?_
     go_simp
     go_wp2_with fail
     go_roundw
     case rel=>
      refine⟨i+1,ag,by simp,af ⟨hw.O.1,hw.O.2.drew⟩,af λ j y hj hy=>?_⟩
      by_cases gy:j<i
      ·exact km.O j y gy hy
      ·obtain rfl:j=i:=ag
       rw[HX.O];rw[HZ.O]at hy
       intro e;cases hy;cases e;exact HXZ.O rfl
     case measure=>simp[intOf];omega
   ·have d1:decide ((pos:Int)<(xs.length:Int))=false:=bV
    have d1':decide (pos<xs.length)=false:=by simpa using hp
    have HP:=af hp
    have Wi:¬ ((pos:Int)<(xs.length:Int)):=ag
    go_wp2_with fail
    refine bP 28 ?_
    refine Tu [(0,true),(1,true),(2,true),(3,true),(4,true),(5,true),(6,true),(7,true),(8,true),(9,true),(10,true),(11,true),(12,false),(13,false),(14,false),(15,false),(16,false),(17,false),(18,false),(19,false),(20,false),(21,false),(22,false),(23,false),(24,false),(25,false),(26,false),(27,true)] ?_
    iterate 12 refine tO ?_
    iterate 15 refine tF ?_
    refine tO ?_
    refine ah 0 rfl ?_
    refine dP ?_
    go_simp
    go_wp2_with fail
    go_roundw
    case rel=>
     refine⟨i+1,ag,by simp,af ⟨hw.O.1,hw.O.2.drew⟩,af λ j y hj hy=>?_⟩
     rw[List.getElem?_eq_none (aM HP.O)];simp
    case measure=>simp[intOf];omega
  ·obtain rfl:i=s.size:=ag
   go_wp2_with fail
   go_ret
   exact⟨by rw[eJ.O km.O];rfl,hw.O.1,hw.O.2⟩
structure dV(n₀ B:Nat)(W w':World):Prop where
 bT:∀j,j≠B->w'.heap[j]? =W.heap[j]?
 below:Below n₀ W w'
theorem dV.refl(n₀ B:Nat)(W:World):dV n₀ B W W:=⟨λ _ _=>rfl,dp⟩
theorem dV.T{n₀ B:Nat}{U V W:World}(h:dV n₀ B U V)(k:dV n₀ B V W):dV n₀ B U W:=⟨λ j hj=>(k.bT j hj).T (h.bT j hj),h.below.T k.below⟩
theorem dV.same(h:V.heap=U.heap)(hb:Below U U V)(hn:n₀<=U.heap.size):dV n₀ B U V:=⟨λ j _=>congrArg (·[j]?) h,hb.mono hn⟩
theorem dV.setCell{n₀ B:Nat}(U:World)(j:Nat)(v:Value)(hn:n₀<=B):dV n₀ B U (U.setCell ⟨B,j,none⟩ v):=⟨λ i hi=>Below.heap_setCell _ _ _ _ hi,(dp).setCell hn _⟩
theorem dV.drew{n₀ B:Nat}{U V:World}(h:dV n₀ B U V):dV n₀ B U V.drew:=⟨h.bT,h.below.drew⟩
theorem aag{c:Nat}(j x:Nat):(bQ pos a n c neg v)[j]? ≠some (.int .u8 (x:Int)):=by
 unfold bQ
 rcases j with _|_|_|_|_|_|j<;>simp
theorem dV.bytes{c:Nat}(h:dV n₀ B U V)(hB:dY U B pos a n c neg v)(hb:ai U a xs):ai V a xs:=dR h.bT hB aag hb
theorem qd{c:Nat}(hB:dY W B pos a xs.length c neg v)(hb:ai W a xs)(s:ByteArray)(hs:s.size<=20)(hlen:xs.length<=4096)(hn:n₀<=B):
 Calls Tryz.prog 249 (BK (zp B) s) W λ e w'=>e= .returned (.bool (gq xs pos s))/\dY w' B (if gq xs pos s then pos+1 else pos) a xs.length c neg v/\dV n₀ B W w':=by
 have HS:=af (EF hB hb s hs hlen)
 have hp:gq xs pos s=true->(pos:Int)<=4096:= λ h=>by
  unfold gq at h
  cases hx:xs[pos]? with
  |none=>rw[hx]at h;cases h
  |some x=>have:=(List.getElem?_eq_some_iff.1 hx).1;omega
 have HB:=cj hB (show n₀<=W.heap.size by have:=(aX hB).1;omega)
 obtain⟨b,zo⟩:=aK (gq xs pos s)
 rw[<-zo]at HS hp⊢
 clear hb hs hlen zo hB
 cases b with
 |false=>
  clear hp
  go_enter Tryz.func249,Tryz.ntmps249
  go_wp2_with first
   |((with_reducible refine HS.O.mono ?_);rintro e w2 ⟨rfl,hw,aC⟩
     have h2:dY w2 B pos a xs.length c neg v:=(congrArg (·[B]?) hw).T HB.O.1
     obtain⟨c0, -⟩:=h2.cells
     have f0:=ak h2 0
     have H2:=cj h2 (dV.same (n₀:=n₀) (B:=B) hw aC HB.O.2)
     clear h2 hw aC)
   |fail
  go_ret
  exact⟨rfl,H2.O.1,H2.O.2⟩
 |true=>
  have Wi:=hp rfl
  clear hp
  go_enter Tryz.func249,Tryz.ntmps249
  go_wp2_with first
   |((with_reducible refine HS.O.mono ?_);rintro e w2 ⟨rfl,hw,aC⟩
     have h2:dY w2 B pos a xs.length c neg v:=(congrArg (·[B]?) hw).T HB.O.1
     obtain⟨c0, -⟩:=h2.cells
     have f0:=ak h2 0
     have H2:=cj h2 (dV.same (n₀:=n₀) (B:=B) hw aC HB.O.2)
     clear h2 hw aC)
   |fail
  go_ret
  exact⟨rfl,aq (j:=0) _ H2.O.1,H2.O.2.T (dV.setCell _ _ _ hn)⟩
theorem R4{c:Nat}(hB:dY W B pos a n c neg v)(d:Nat)(hd:d<10)(hv:10*v+d<=18446744073709551615)(hn:n₀<=B):
 Calls Tryz.prog 251 #[.pointer (zp B),.int .u64 (d:Int)] W λ e w'=>e= .returned (.tuple #[])/\dY w' B pos a n c neg (10*v+d)/\dV n₀ B W w':=by
 obtain⟨-, -, -,c3, -⟩:=hB.cells
 have f3:=ak hB 3
 obtain⟨g,hg⟩:=aK (18446744073709551615 - d)
 obtain⟨q,hq⟩:=aK (g/10)
 obtain⟨x,hx⟩:=aK (10*v)
 obtain⟨y,hy⟩:=aK (x+d)
 have w1:IntKind.u64.wrap (18446744073709551615 - (d:Int))=(g:Int):=by rw[IntKind.wrap_u64];omega
 have w2:(g:Int)/10=(q:Int):=ag
 have w3:IntKind.u64.wrap (q:Int)=(q:Int):=by rw[IntKind.wrap_u64];omega
 have w4:¬ ((q:Int)<(v:Int)):=ag
 have w4':¬ (q<v):=ag
 have w5:IntKind.u64.wrap (10*(v:Int))=(x:Int):=by rw[IntKind.wrap_u64];omega
 have w6:IntKind.u64.wrap ((x:Int)+(d:Int))=(y:Int):=by rw[IntKind.wrap_u64];omega
 have HY:Hid (10*v+d=y):=af ag
 have HB:=af hB
 rw[HY.O]
 clear hg hq hx hy hd hv hB
 go_enter Tryz.func251,Tryz.ntmps251
 go_wp2_with fail
 go_end0
 exact⟨rfl,aq (j:=3) _ HB.O,dV.setCell _ _ _ hn⟩
def K6:ByteArray:=⟨#[48,49,50,51,52,53,54,55,56,57]⟩
def eA(v:Nat)(ds:List Nat):Nat:=ds.foldl (λ v d=>10*v+d) v
theorem EG(h:xs[p]? =some (48+d))(hd:d<10):gq xs p K6=true:=by
 unfold gq;rw[h]
 rcases d with _|_|_|_|_|_|_|_|_|_|d
 all_goals first|rfl|omega
theorem A6:∀(ds:List Nat) (v:Nat),v<=eA v ds
 |[],v=>aW
 |d::ds,v=>by have:=A6 ds (10*v+d);unfold eA at*;simp only[List.foldl_cons];omega
theorem K7{i:Nat}(v:Nat)(h:ds[i]? =some d):eA v (ds.take (i+1))=10*eA v (ds.take i)+d:=by
 unfold eA;rw[List.take_add_one,h];simp
theorem CB(v:Nat)(ds:List Nat)(i:Nat):eA v (ds.take i)<=eA v ds:=by
 have:eA v ds=eA (eA v (ds.take i)) (ds.drop i):=by unfold eA;rw[<-List.foldl_append,List.take_append_drop]
 rw[this];exact A6 _ _
theorem Wj{c:Nat}(hB:dY W B pos a xs.length c neg v)(hb:ai W a xs)(hlen:xs.length<=4096)(hn:n₀<=B)
 (Gc:∀i d,ds[i]? =some d->d<10/\xs[pos+i]? =some (48+d))(h0:ds≠[])(dM:gq xs (pos+ds.length) K6=false)(hv:eA v ds<=18446744073709551615):
 Calls Tryz.prog 250 (tQ (zp B) (.func (.func 251) (dW (zp B)) #[])) W λ e w'=>e= .returned (.tuple #[])/\dY w' B (pos+ds.length) a xs.length c neg (eA v ds)/\dV n₀ B W w':=by
 have RF:Hid (Calls Tryz.prog 253 (BK (zp B) ⟨#[48,49,50,51,52,53,54,55,56,57]⟩) W λ e w'=>e= .returned (.bool true)/\w'.heap=W.heap/\Below W W w'):=af (by
  have:=EF hB hb K6 bd hlen
  obtain⟨d,rest,rfl⟩:∃d r,ds=d::r:=by cases ds with|nil=>exact absurd rfl h0|cons d r=>exact⟨d,r,rfl⟩
  have h1:=Gc 0 d rfl
  rwa [show gq xs pos K6=true from EG (by simpa using h1.2) h1.1]at this)
 have HT:Hid (∀(i:Nat) (V:World),dY V B (pos+i) a xs.length c neg (eA v (ds.take i))->dV n₀ B W V->i<ds.length->Calls Tryz.prog 249 (BK (zp B) ⟨#[48,49,50,51,52,53,54,55,56,57]⟩) V λ e w'=>e= .returned (.bool true)/\dY w' B (pos+i+1) a xs.length c neg (eA v (ds.take i))/\dV n₀ B W w'):=af λ i V h1 h2 hi=>by
  have h3:=Gc i ds[i] (by simp[hi])
  have hs:=EG h3.2 h3.1
  have:=qd (n₀:=n₀) h1 (h2.bytes hB hb) K6 bd hlen hn
  rw[hs]at this
  exact this.mono λ e w' ⟨h4,h5,h6⟩=>⟨h4,h5,h2.T h6⟩
 have HT0:Hid (∀(V:World),dY V B (pos+ds.length) a xs.length c neg (eA v ds)->dV n₀ B W V->Calls Tryz.prog 249 (BK (zp B) ⟨#[48,49,50,51,52,53,54,55,56,57]⟩) V λ e w'=>e= .returned (.bool false)/\dY w' B (pos+ds.length) a xs.length c neg (eA v ds)/\dV n₀ B W w'):=af λ V h1 h2=>by
  have:=qd (n₀:=n₀) h1 (h2.bytes hB hb) K6 bd hlen hn
  rw[dM]at this
  exact this.mono λ e w' ⟨h4,h5,h6⟩=>⟨h4,h5,h2.T h6⟩
 have HG:Hid (∀(i d:Nat) (V:World),ds[i]? =some d->dY V B (pos+i+1) a xs.length c neg (eA v (ds.take i))->dV n₀ B W V->Calls Tryz.prog 251 #[.pointer (zp B),.int .u64 (d:Int)] V λ e w'=>e= .returned (.tuple #[])/\dY w' B (pos+(i+1)) a xs.length c neg (eA v (ds.take (i+1)))/\dV n₀ B W w'):=af λ i d V hd h1 h2=>by
  have hm:=CB v ds (i+1)
  rw[K7 v hd]at hm⊢
  exact(R4 (n₀:=n₀) h1 d (Gc i d hd).1 ag hn).mono λ e w' ⟨h4,h5,h6⟩=>⟨h4,h5,h2.T h6⟩
 have HX:Hid (∀(i d:Nat) (V:World),ds[i]? =some d->dV n₀ B W V->d<10/\pos+i<4096/\pos+i<xs.length/\∃C o,a=some ⟨C,o,none⟩/\V.cell? ⟨C,o+(pos+i),none⟩=some (.int .u8 ((48+d:Nat):Int))):=af λ i d V hd h2=>by
  have h3:=Gc i d hd
  have h4:=(List.getElem?_eq_some_iff.1 h3.2).1
  refine⟨h3.1,ag,h4,?_⟩
  rcases(h2.bytes hB hb).2 with h0|⟨C,o,e,hc⟩
  ·rw[h0]at h4;simp at h4
  ·exact⟨C,o,e,hc _ _ h3.2⟩
 have HB:=cj hB (show n₀<=W.heap.size by have:=(aX hB).1;omega)
 have mU:=af (show ds.length<=4096+ds.length from ag)
 clear hB hb hlen Gc h0 dM hv
 go_enter Tryz.func250,Tryz.ntmps250
 go_wp2_with fail
 go_step3
 go_wp2_with first
  |((with_reducible refine RF.O.mono ?_);rintro e w2 ⟨rfl,hw,aC⟩
    have H2:=cj (show dY w2 B pos a xs.length c neg v from(congrArg (·[B]?) hw).T HB.O.1) (dV.same (n₀:=n₀) (B:=B) hw aC HB.O.2)
    clear hw aC)
  |fail
 go_step3
 go_wp2_with fail
 go_loopw [] (λ wr=>∃i:Nat,i<=ds.length/\Hid (dY wr B (pos+i) a xs.length c neg (eA v (ds.take i))/\dV n₀ B W wr)) (λ wr=>pos+ds.length - (intOf ((wr.cell? (za B 0)).getD (.bool false))).toNat)
 case atStart=>exact⟨0,Nat.zero_le _,H2⟩
 case round=>
  obtain⟨i,hi,hw⟩:=hrel
  by_cases bg:i<ds.length
  ·have HTT:=af (HT.O i wr hw.O.1 hw.O.2 bg)
   have hc0:wr.cell? (za B 0)=some (.int .i64 ((pos+i:Nat):Int)):=hw.O.1.cells.1
   obtain⟨d,hd⟩:∃d,ds[i]? =some d:=⟨ds[i],by simp[bg]⟩
   have HD:=af hd
   clear hd
   have HC0:=af hc0
   clear hc0
   go_wp2_with first
    |((with_reducible refine HTT.O.mono ?_);rintro e w3 ⟨rfl,h3,Ot⟩
      obtain⟨ads,hp4,R5,C,o,rfl,xp⟩:=HX.O i d w3 HD.O Ot
      have HGR:=af (HG.O i d w3.drew HD.O h3 Ot.drew)
      obtain⟨y0,y1, -⟩:=h3.cells
      obtain⟨p,hp⟩:=aK (pos+i)
      rw[<-hp]at y0 xp hp4 R5
      obtain⟨x,hx⟩:=aK (48+d)
      rw[<-hx]at xp
      have Zy:IntKind.u8.wrap ((x:Int) - 48)=(d:Int):=by rw[IntKind.wrap_u8];omega
      have hd8:IntKind.u64.wrap (d:Int)=(d:Int):=by rw[IntKind.wrap_u64];omega
      have Wi:(p:Int)<(xs.length:Int):=ag
      have adt:(p:Int)<=4096:=ag
      have hpw:IntKind.i64.wrap (p:Int)=(p:Int):=by rw[IntKind.wrap_i64];omega
      have HP:=af hp
      clear h3 Ot hp hx)
    |fail
   refine bP 16 ?_
   refine tP [0,1,2,3,4,5,6,7,8,9,10,11,12,13,14] ?_
   iterate 15 refine tO ?_
   refine ah 1 rfl ?_
   refine sP 15 [0,1,2,3,4,5,6,7,8,9,10,11,12,13,14] λ K hK=>?_
   go_simp
   (with_reducible refine HGR.O.mono ?_);rintro e w4 ⟨rfl,h4,aax⟩
   have H4:=cj h4 aax
   clear h4 aax
   refine nP hK ?_
   clear hK K
   refine dP ?_
   go_simp
   go_roundw
   case rel=>
    repeat' (first|(apply Exists.intro))
    exact⟨⟨i+1,ag,H4⟩,rfl⟩
   case measure=>
    have e1:w4.cell? (za B 0)=some (.int .i64 ((pos+(i+1):Nat):Int)):=H4.O.1.cells.1
    simp only[e1,HC0.O,Option.getD_some,intOf,Int.toNat_natCast]
    omega
  ·obtain rfl:i=ds.length:=ag
   have h5:=hw.O.1
   rw[List.take_length]at h5
   have HTT:=af (HT0.O wr h5 hw.O.2)
   clear h5
   go_wp2_with first
    |((with_reducible refine HTT.O.mono ?_);rintro e w3 ⟨rfl,h3,Ot⟩)
    |fail
   rw[Exit.noGoto_normal]
   go_end0
   exact⟨rfl,h3,Ot⟩
structure oF(xs ds:List Nat)(neg:Bool):Prop where
 text:xs=(if neg then[45]else[])++ds.map (48+·)
 lt:∀d∈ds,d<10
 ne:ds≠[]
 head:ds.head?=some 0->ds=[0]
 len:xs.length<=4096
 val:eA 0 ds<=18446744073709551615
def nR(neg:Bool):Nat:=if neg then 1 else 0
theorem oF.at(h:oF xs ds neg)(i d:Nat)(hd:ds[i]? =some d):d<10/\xs[nR neg+i]? =some (48+d):=by
 refine⟨h.lt d (List.mem_of_getElem? hd),?_⟩
 rw[h.text]
 cases neg
 ·simp[nR,hd]
 ·simp[nR,Nat.add_comm 1 i,hd]
theorem oF.length{xs ds:List Nat}{neg:Bool}(h:oF xs ds neg):xs.length=nR neg+ds.length:=by
 rw[h.text];cases neg<;>simp[nR,Nat.add_comm]
theorem yo(h:xs.length<=p)(s:ByteArray):gq xs p s=false:=by
 unfold gq;rw[List.getElem?_eq_none h]
theorem oF.sign(h:oF xs ds neg):gq xs 0 ⟨#[45]⟩=neg:=by
 cases neg with
 |true=>unfold gq;rw[h.text];rfl
 |false=>
  obtain⟨d,r,rfl⟩:∃d r,ds=d::r:=by cases ds with|nil=>exact absurd rfl h.ne|cons d r=>exact⟨d,r,rfl⟩
  have h1:=(h.at 0 d rfl)
  unfold gq;rw[show xs[0]? =some (48+d)from h1.2]
  rcases d with _|_|_|_|_|_|_|_|_|_|d
  all_goals first|rfl|(exfalso;have:=h1.1;omega)
theorem oF.zero(h:oF xs ds neg):gq xs (nR neg) ⟨#[48]⟩=decide (ds=[0]):=by
 obtain⟨d,r,rfl⟩:∃d r,ds=d::r:=by cases ds with|nil=>exact absurd rfl h.ne|cons d r=>exact⟨d,r,rfl⟩
 have h1:=(h.at 0 d rfl)
 unfold gq;rw[show xs[nR neg]? =some (48+d)from h1.2]
 by_cases h0:d=0
 ·subst h0
  rw[decide_eq_true (h.head rfl)];rfl
 ·rw[decide_eq_false (by intro e;cases e;exact h0 rfl)]
  rcases d with _|_|_|_|_|_|_|_|_|_|d
  all_goals first|rfl|(exfalso;have:=h1.1;omega)
theorem Wk{c:Nat}(hD:oF xs ds neg)(hB:dY W B 0 a xs.length c false 0)(hb:ai W a xs)(hn:n₀<=B):
 Calls Tryz.prog 244 (dW (zp B)) W λ e w'=>e= .returned (.tuple #[])/\dY w' B (nR neg) a xs.length c neg 0/\dV n₀ B W w':=by
 have HT:=qd (n₀:=n₀) hB hb ⟨#[45]⟩ bd hD.len hn
 rw[hD.sign]at HT
 replace HT:=af HT
 clear hB hb hD
 go_enter Tryz.func244,Tryz.ntmps244
 go_wp2_with first
  |((with_reducible refine HT.O.mono ?_);rintro e w2 ⟨rfl,h2,rI⟩
    obtain⟨-, -,c2, -⟩:=h2.cells
    have f2:=ak h2 2
    have H2:=cj h2 rI
    clear h2 rI)
  |fail
 go_end0
 refine⟨rfl,?_,H2.O.2.T (dV.setCell _ _ _ hn)⟩
 have h:=aq (j:=2) (.bool neg) H2.O.1
 cases neg<;>exact h
theorem R6{c:Nat}(hD:oF xs ds neg)(hB:dY W B (nR neg) a xs.length c neg 0)(hb:ai W a xs)(hn:n₀<=B):
 Calls Tryz.prog 245 (dW (zp B)) W λ e w'=>e= .returned (.tuple #[])/\dY w' B xs.length a xs.length c neg (eA 0 ds)/\dV n₀ B W w':=by
 have HT:=qd (n₀:=n₀) hB hb ⟨#[48]⟩ bd hD.len hn
 rw[hD.zero]at HT
 replace HT:=af HT
 have HL:=af hD.length
 have Ae:=af (λ (V:World) (h1:dY V B (nR neg) a xs.length c neg 0) (h2:dV n₀ B W V)=>Wj (n₀:=n₀) h1 (h2.bytes hB hb) hD.len hn hD.at hD.ne (yo (Nat.le_of_eq hD.length) _) hD.val)
 clear hB hb hD
 by_cases hz:ds=[0]
 ·subst hz
  rw[decide_eq_true rfl]at HT
  clear Ae
  go_enter Tryz.func245,Tryz.ntmps245
  go_wp2_with first
   |((with_reducible refine HT.O.mono ?_);rintro e w2 ⟨rfl,h2,rI⟩;have H2:=cj h2 rI;clear h2 rI)
   |fail
  go_end0
  refine⟨rfl,?_,H2.O.2⟩
  have h:=H2.O.1
  rw[HL.O];exact(by rw[HL.O]at h;exact h)
 ·rw[decide_eq_false hz]at HT
  clear hz
  go_enter Tryz.func245,Tryz.ntmps245
  go_wp2_with first
   |((with_reducible refine HT.O.mono ?_);rintro e w2 ⟨rfl,h2,rI⟩;have C4:=af (Ae.O w2 h2 rI);have HTO:=af rI;clear h2 rI)
   |((with_reducible refine C4.O.mono ?_);rintro e w3 ⟨rfl,h3,sQ⟩;have H3:=cj h3 sQ;clear h3 sQ)
   |fail
  go_end0
  refine⟨rfl,?_,HTO.O.T H3.O.2⟩
  have h:=H3.O.1
  rw[<-HL.O]at h;exact h
theorem Ha{c:Nat}(hlen:xs.length<=4096)(hB:dY W B xs.length a xs.length c neg v)(hb:ai W a xs)(hn:n₀<=B):
 Calls Tryz.prog 246 (dW (zp B)) W λ e w'=>e= .returned (.tuple #[])/\dY w' B xs.length a xs.length c neg v/\dV n₀ B W w':=by
 have HT:=qd (n₀:=n₀) hB hb ⟨#[46]⟩ bd hlen hn
 rw[yo (aW)]at HT
 replace HT:=af HT
 clear hB hb hlen
 go_enter Tryz.func246,Tryz.ntmps246
 go_wp2_with first
  |((with_reducible refine HT.O.mono ?_);rintro e w2 ⟨rfl,h2,rI⟩;have H2:=cj h2 rI;clear h2 rI)
  |fail
 go_end0
 exact⟨rfl,H2.O.1,H2.O.2⟩
theorem Hd{c:Nat}(hlen:xs.length<=4096)(hB:dY W B xs.length a xs.length c neg v)(hb:ai W a xs)(hn:n₀<=B):
 Calls Tryz.prog 247 (dW (zp B)) W λ e w'=>e= .returned (.tuple #[])/\dY w' B xs.length a xs.length c neg v/\dV n₀ B W w':=by
 have HT:=qd (n₀:=n₀) hB hb ⟨#[101,69]⟩ bd hlen hn
 rw[yo (aW)]at HT
 replace HT:=af HT
 clear hB hb hlen
 go_enter Tryz.func247,Tryz.ntmps247
 go_wp2_with first
  |((with_reducible refine HT.O.mono ?_);rintro e w2 ⟨rfl,h2,rI⟩;have H2:=cj h2 rI;clear h2 rI)
  |fail
 go_end0
 exact⟨rfl,H2.O.1,H2.O.2⟩
theorem Hg{fn:Func}{p q:Tmp}(h:fn.results=#[.cell p tp,.cell q tq])(tmps:Array Value)(P:Program)(w:World):
 (results fn tmps).run P w=
   ((asAddr (tmps.getD p undef)).run P w).andThen λ a xv=>((loadVar tp a).run P xv).andThen λ x B9=>((asAddr (tmps.getD q undef)).run P B9).andThen λ b G5=>((loadVar tq b).run P G5).andThen λ y G6=>.ok (.tuple #[x,y]) G6:=by
 simp only[results,h]
 simp[Sem.run_bind,Result.andThen]
theorem Hh(p q:Addr)(w:World):
 CallsD Tryz.prog 239 (iS (some p) (some q)) .returning w λ e u' w'=>e= .returned (.tuple #[])/\u'= .returning/\w'=w:=by
 refine callsD_of_wpS Tryz.func239 rfl λ acd cs hu=>?_
 apply wpS_seq
 apply wpS_region
 simp[wpOpsS,go_sem,recoverD,hu,Tryz.ntmps239,Exit.thenS]
 apply wpS_seq
 apply wpS_region
 simp[wpOpsS,go_sem,Exit.thenS]
 refine wpS_cond (t:=false) (by simp[Act.eval,Array.replicate]) ?_
 simp only[Bool.false_eq_true,if_false]
 refine wpS_of_wp (wp_skip ?_)
 cases acd
 simp_all [bodyPostS,results,Tryz.results239]
theorem R7(w:World):Calls Tryz.prog 240 #[] w λ e w'=>e= .returned (.agg #[.func (.func 244) #[] #[],.func (.func 245) #[] #[],.func (.func 246) #[] #[],.func (.func 247) #[] #[]])/\Below w w w':=by
 go_enter Tryz.func240,Tryz.ntmps240
 go_wp2_with fail
 refine bodyPost_ret (v:=.agg #[.func (.func 244) #[] #[],.func (.func 245) #[] #[],.func (.func 246) #[] #[],.func (.func 247) #[] #[]]) (by rw[cD rfl];go_simp) (by rfl) ⟨rfl,?_⟩
 go_grown
theorem R8{c:Nat}(hD:oF xs ds neg)(hB:dY W B 0 a xs.length c false 0)(hb:ai W a xs):
 Calls Tryz.prog 231 (dW (zp B)) W λ e w'=>e= .returned (.tuple (UJ xs.length))/\dY w' B xs.length a xs.length c neg (eA 0 ds)/\Below B W w':=by
 have bg:=(aX hB).1
 obtain⟨w1,aH⟩:=aK ((W.alloc (.cells mc 3)).alloc (.cells mc 24))
 have bB:=aS (w2:=w1) (by rw[aH];exact dp)
 have aQ:Below W W w1:=by rw[aH];go_grown
 have oG:=af (R7 w1)
 rw[aH]at oG
 have hmf:∀(fn:Fn) (first cap:Array Value) (w:World),(Instr.makeFunc fn first cap).run Tryz.prog w= .ok (.func fn first cap) w:= λ _ _ _ _=>rfl
 have H1:=jo bB aQ aH bg
 have HD:=cV hD hB hb
 have VS:(xs.length:Int)<=4096:=aM hD.len
 clear hD hB hb aH bB aQ bg
 go_enter_defers Tryz.func231,Tryz.ntmps231
 go_wp2_with first
  |((with_reducible refine oG.O.mono ?_);rintro e w2 ⟨rfl,aC⟩;rw[<-H1.O.2.2.1]at aC;have bR:=af aC;clear aC)
  |fail
 have lE:Hid (dY w2 B 0 a xs.length c false 0):=af ((bR.O.block _ (Nat.lt_of_lt_of_le H1.O.2.2.2 H1.O.2.1.size)).T ((H1.O.2.1.block _ H1.O.2.2.2).T HD.O.2.1))
 have R9:Hid (ai w2 a xs):=af ((HD.O.2.2.below H1.O.2.1).below bR.O)
 have HC0:Hid (∀V,dY V B 0 a xs.length c false 0->dV B B w2 V->Calls Tryz.prog 244 (dW (zp B)) V λ e V=>e= .returned (.tuple #[])/\dY V B (nR neg) a xs.length c neg 0/\dV B B w2 V):=af λ V h rI=>
  (Wk (n₀:=B) HD.O.1 h (rI.bytes lE.O R9.O) (aW)).mono λ e w' ⟨h1,h2,h3⟩=>⟨h1,h2,rI.T h3⟩
 have adu:∀V,(Instr.index 410 (.agg #[.func (.func 244) #[] #[],.func (.func 245) #[] #[],.func (.func 246) #[] #[],.func (.func 247) #[] #[]]) (.int .i64 0)).run Tryz.prog V= .ok (.func (.func 244) #[] #[]) V:= λ V=>aO
 have Hi:Hid (∀V,dY V B (nR neg) a xs.length c neg 0->dV B B w2 V->Calls Tryz.prog 245 (dW (zp B)) V λ e V=>e= .returned (.tuple #[])/\dY V B xs.length a xs.length c neg (eA 0 ds)/\dV B B w2 V):=af λ V h rI=>
  (R6 (n₀:=B) HD.O.1 h (rI.bytes lE.O R9.O) (aW)).mono λ e w' ⟨h1,h2,h3⟩=>⟨h1,h2,rI.T h3⟩
 have adv:∀V,(Instr.index 410 (.agg #[.func (.func 244) #[] #[],.func (.func 245) #[] #[],.func (.func 246) #[] #[],.func (.func 247) #[] #[]]) (.int .i64 1)).run Tryz.prog V= .ok (.func (.func 245) #[] #[]) V:= λ V=>aO
 have xR:Hid (∀V,dY V B xs.length a xs.length c neg (eA 0 ds)->dV B B w2 V->Calls Tryz.prog 246 (dW (zp B)) V λ e V=>e= .returned (.tuple #[])/\dY V B xs.length a xs.length c neg (eA 0 ds)/\dV B B w2 V):=af λ V h rI=>
  (Ha (n₀:=B) HD.O.1.len h (rI.bytes lE.O R9.O) (aW)).mono λ e w' ⟨h1,h2,h3⟩=>⟨h1,h2,rI.T h3⟩
 have adw:∀V,(Instr.index 410 (.agg #[.func (.func 244) #[] #[],.func (.func 245) #[] #[],.func (.func 246) #[] #[],.func (.func 247) #[] #[]]) (.int .i64 2)).run Tryz.prog V= .ok (.func (.func 246) #[] #[]) V:= λ V=>aO
 have HC3:Hid (∀V,dY V B xs.length a xs.length c neg (eA 0 ds)->dV B B w2 V->Calls Tryz.prog 247 (dW (zp B)) V λ e V=>e= .returned (.tuple #[])/\dY V B xs.length a xs.length c neg (eA 0 ds)/\dV B B w2 V):=af λ V h rI=>
  (Hd (n₀:=B) HD.O.1.len h (rI.bytes lE.O R9.O) (aW)).mono λ e w' ⟨h1,h2,h3⟩=>⟨h1,h2,rI.T h3⟩
 have adx:∀V,(Instr.index 410 (.agg #[.func (.func 244) #[] #[],.func (.func 245) #[] #[],.func (.func 246) #[] #[],.func (.func 247) #[] #[]]) (.int .i64 3)).run Tryz.prog V= .ok (.func (.func 247) #[] #[]) V:= λ V=>aO
 clear oG
 go_loopw [5,8] (λ _ iv wr=>(iv= .int .i64 0/\Hid (dY wr B 0 a xs.length c false 0/\dV B B w2 wr))\/(iv= .int .i64 1/\Hid (dY wr B (nR neg) a xs.length c neg 0/\dV B B w2 wr))\/(iv= .int .i64 2/\Hid (dY wr B xs.length a xs.length c neg (eA 0 ds)/\dV B B w2 wr))\/(iv= .int .i64 3/\Hid (dY wr B xs.length a xs.length c neg (eA 0 ds)/\dV B B w2 wr))\/(iv= .int .i64 4/\Hid (dY wr B xs.length a xs.length c neg (eA 0 ds)/\dV B B w2 wr))) (λ _ iv _=>4 - (intOf iv).toNat)
 case atStart=>exact .inl ⟨rfl,af ⟨lE.O,dV.refl _ _ _⟩⟩
 case round=>
  rcases hrel with⟨rfl,hw⟩|⟨rfl,hw⟩|⟨rfl,hw⟩|⟨rfl,hw⟩|⟨rfl,hw⟩
  ·have I4:=af (HC0.O wr hw.O.1 hw.O.2)
   go_wp2_with first
    |((with_reducible refine I4.O.mono ?_);rintro e w3 ⟨rfl,h3,sQ⟩;have H3:=cj h3 sQ;clear h3 sQ)
    |fail
   go_roundw
   case rel=>exact(.inr (.inl ⟨rfl,H3⟩))
   case measure=>simp[intOf]
  ·have I4:=af (Hi.O wr hw.O.1 hw.O.2)
   go_wp2_with first
    |((with_reducible refine I4.O.mono ?_);rintro e w3 ⟨rfl,h3,sQ⟩;have H3:=cj h3 sQ;clear h3 sQ)
    |fail
   go_roundw
   case rel=>exact(.inr (.inr (.inl ⟨rfl,H3⟩)))
   case measure=>simp[intOf]
  ·have I4:=af (xR.O wr hw.O.1 hw.O.2)
   go_wp2_with first
    |((with_reducible refine I4.O.mono ?_);rintro e w3 ⟨rfl,h3,sQ⟩;have H3:=cj h3 sQ;clear h3 sQ)
    |fail
   go_roundw
   case rel=>exact(.inr (.inr (.inr (.inl ⟨rfl,H3⟩))))
   case measure=>simp[intOf]
  ·have I4:=af (HC3.O wr hw.O.1 hw.O.2)
   go_wp2_with first
    |((with_reducible refine I4.O.mono ?_);rintro e w3 ⟨rfl,h3,sQ⟩;have H3:=cj h3 sQ;clear h3 sQ)
    |fail
   go_roundw
   case rel=>exact(.inr (.inr (.inr (.inr ⟨rfl,H3⟩))))
   case measure=>simp[intOf]
  ·have c0:wr.cell? (za B 0)=some (.int .i64 (xs.length:Int)):=hw.O.1.cells.1
   have y1:wr.heap[W.heap.size]? =some (.cells mc 3):=(hw.O.2.bT _ (aM H1.O.2.2.2)).T ((bR.O.block _ (aX H1.O.1.1).1).T H1.O.1.1)
   have y2:wr.heap[W.heap.size+1]? =some (.cells mc 24):=(hw.O.2.bT _ (aM H1.O.2.2.2)).T ((bR.O.block _ (aX H1.O.1.2).1).T H1.O.1.2)
   have d1:=aJ y1
   have d2:=aJ y2
   have f1:=ak y1 0
   have f2:=ak y2 0
   have HY:=cj y1 y2
   clear y1 y2 HC0 Hi xR HC3
   go_wp2_with fail
   refine leaves_cons (f:=239) (args:=(iS (zp W) (zp (W.heap.size+1)))) aR (by simp[go_sem]) ?_
   refine(Hh _ _ _).mono ?_
   rintro e u' w' ⟨rfl,rfl,rfl⟩
   obtain⟨y1,y2⟩:=HY.O
   have Sa:=H1.O.2.2.2
   have z1:=aq (j:=0) (.int .i64 (xs.length:Int)) y1
   have z2:(wr.setCell (za W 0) (.int .i64 (xs.length:Int))).heap[W.heap.size+1]? =some (.cells mc 24):=(Below.heap_setCell _ _ _ _ aR).T y2
   have z3:=aq (j:=0) (.int .i64 0) z2
   have R1:=aJ ((Below.heap_setCell _ ⟨W.heap.size+1,0,none⟩ (.int .i64 0) _ aR).T z1)
   have R2:=aJ z3
   have yp:Hid (dY ((wr.setCell (za W 0) (.int .i64 (xs.length:Int))).setCell (za (W.heap.size+1) 0) (.int .i64 0)) B xs.length a xs.length c neg (eA 0 ds)/\Below B W ((wr.setCell (za W 0) (.int .i64 (xs.length:Int))).setCell (za (W.heap.size+1) 0) (.int .i64 0))):=af ⟨(Below.heap_setCell _ _ _ _ (by simp<;>omega)).T ((Below.heap_setCell _ _ _ _ (by simp<;>omega)).T hw.O.1),
    ((((H1.O.2.1.mono (Nat.le_of_lt Sa)).T (bR.O.mono (Nat.le_trans (Nat.le_of_lt Sa) H1.O.2.1.size))).T hw.O.2.below).setCell (by simp<;>omega) _).setCell (by simp<;>omega) _⟩
   clear y1 y2 z1 z2 z3 Sa hw
   refine⟨.tuple (UJ xs.length),?_,rfl,yp.O⟩
   rw[Hg rfl]
   go_simp
def wi(neg:Bool)(ds:List Nat):Int:=if neg then-(eA 0 ds:Int)else eA 0 ds
theorem K9{c:Nat}(hD:oF xs ds neg)(hb:ai w a xs)(Jr:eA 0 ds<=(if neg then 9223372036854775808 else 9223372036854775807)):
 Calls Tryz.prog 218 (BH a xs.length c) w λ e w'=>e= .returned (.tuple #[.int .i64 (wi neg ds),.int .i64 (xs.length:Int),.int .i64 0])/\Below w w w':=by
 obtain⟨w1,aH⟩:=aK (w.alloc (.cells (bQ 0 a xs.length c false 0) 397))
 have aQ:Below w w w1:=by rw[aH];go_grown
 have hB:dY w1 w.heap.size 0 a xs.length c false 0:=jJ aH
 have HR:=af (R8 hD hB (hb.below aQ))
 rw[aH]at HR
 have H1:=cj aQ aH
 unfold wi
 obtain⟨m,hm⟩:=aK (eA 0 ds)
 rw[<-hm]at Jr HR⊢
 have hlen:(xs.length:Int)<=4096:=aM hD.len
 clear hD hb aQ hB aH hm
 replace HR:Hid (Calls Tryz.prog 231 (dW (zp w)) (w.alloc (.cells #[.int .i64 0,.slice a xs.length c,.bool false,.int .u64 0,.bool false,.bool false] 397)) λ e w'=>e= .returned (.tuple (UJ xs.length))/\dY w' w.heap.size xs.length a xs.length c neg m/\Below w (w.alloc (.cells (bQ 0 a xs.length c false 0) 397)) w'):=HR
 cases neg with
 |true=>
  have hm:(m:Int)<=9223372036854775808:=by simp at Jr;omega
  obtain⟨x,hx⟩:∃x:Int,x=IntKind.u64.wrap (-(m:Int)):=⟨_,rfl⟩
  have e1:IntKind.u64.wrap (-(m:Int))=x:=hx.symm
  have e2:IntKind.i64.wrap x= -(m:Int):=by rw[hx,IntKind.wrap_u64,IntKind.wrap_i64];omega
  have e3:IntKind.u64.wrap 9223372036854775808=9223372036854775808:=aO
  have e4:¬ ((9223372036854775808:Int)<(m:Int)):=ag
  have e5:¬ (9223372036854775808<m):=ag
  clear hx Jr hm
  go_enter Tryz.func218,Tryz.ntmps218
  go_wp2_with first
   |((with_reducible refine HR.O.mono ?_);rintro e w2 ⟨rfl,h2,aC⟩
     obtain⟨-, -,c2,c3,c4,c5⟩:=h2.cells
     have bR:=af (by rw[<-H1.O.2]at aC;exact H1.O.1.T aC)
     clear h2 aC)
   |fail
  refine bodyPost_ret (results_tmp3 rfl _ _ _) rfl ?_
  exact⟨rfl,bR.O⟩
 |false=>
  have hm:(m:Int)<=9223372036854775807:=by simp at Jr;omega
  have e2:IntKind.i64.wrap (m:Int)=(m:Int):=by rw[IntKind.wrap_i64];omega
  have e4:¬ ((9223372036854775807:Int)<(m:Int)):=ag
  have e5:¬ (9223372036854775807<m):=ag
  clear Jr hm
  go_enter Tryz.func218,Tryz.ntmps218
  go_wp2_with first
   |((with_reducible refine HR.O.mono ?_);rintro e w2 ⟨rfl,h2,aC⟩
     obtain⟨-, -,c2,c3,c4,c5⟩:=h2.cells
     have bR:=af (by rw[<-H1.O.2]at aC;exact H1.O.1.T aC)
     clear h2 aC)
   |fail
  refine bodyPost_ret (results_tmp3 rfl _ _ _) rfl ?_
  exact⟨rfl,bR.O⟩
abbrev psC(pos:Nat)(a:Option Addr)(n c:Nat)(wj:Nat)(k v:Int):Array Value:=#[.int .i64 (pos:Int),.slice a n c,.int .i64 (wj:Int),.slice none 0 0,.int .i64 k,.int .i64 v,.string ⟨#[]⟩,.slice none 0 0,.slice none 0 0,.int .i64 0]
def nS(W:World)(B pos:Nat)(a:Option Addr)(n c wj:Nat)(k v:Int):Prop:=W.heap[B]? =some (.cells (psC pos a n c wj k v) 267)
theorem nS.cells{c:Nat}{v:Int}(h:nS W B pos a n c wj k v):W.cell? (za B 0)=some (.int .i64 (pos:Int))/\W.cell? (za B 1)=some (.slice a n c)/\W.cell? (za B 2)=some (.int .i64 (wj:Int))/\W.cell? (za B 3)=some (.slice none 0 0)/\W.cell? (za B 4)=some (.int .i64 k)/\W.cell? (za B 5)=some (.int .i64 v)/\W.cell? (za B 6)=some (.string ⟨#[]⟩)/\W.cell? (za B 7)=some (.slice none 0 0)/\W.cell? (za B 8)=some (.slice none 0 0)/\W.cell? (za B 9)=some (.int .i64 0):=
 ⟨(aa h 0).T rfl,(aa h 1).T rfl,(aa h 2).T rfl,(aa h 3).T rfl,(aa h 4).T rfl,(aa h 5).T rfl,(aa h 6).T rfl,(aa h 7).T rfl,(aa h 8).T rfl,(aa h 9).T rfl⟩
theorem Hj{C o c:Nat}{v:Int}(hB:nS W B pos (some ⟨C,o,none⟩) n c wj k v)(hx:W.cell? (za C (o+pos))=some (.int .u8 (x:Int)))(hp:pos<n)(JU:32<x)(hn:n<=4096):
 Calls Tryz.prog 131 (dW (zp B)) W λ e w'=>e= .returned (.int .u8 (x:Int))/\w'=W.drew.drew:=by
 obtain⟨c0,c1, -⟩:=hB.cells
 have Wi:(pos:Int)<(n:Int):=ag
 have hni:(n:Int)<=4096:=ag
 have n1:((x:Int)==32)=false:=bV
 have n2:((x:Int)==9)=false:=bV
 have n3:((x:Int)==10)=false:=bV
 have n4:((x:Int)==13)=false:=bV
 clear hB JU hn
 go_enter Tryz.func131,Tryz.ntmps131
 go_wp2_with fail
 go_loopw [3,28] (λ _ _ wr=>wr=W) (λ _ _ _=>0)
 case atStart=>rfl
 case round=>
  subst hrel
  go_wp2_with fail
  refine bP 11 ?_
  refine tP [0,1,2,3,4,5,6,7,8,9,10] ?_
  iterate 11 refine tO ?_
  refine ah 0 rfl ?_
  refine dP ?_
  go_simp
  go_wp2_with fail
  refine bP 12 ?_
  refine tP [0,1,2,3,4,5,6,7,8,9,10,11] ?_
  iterate 12 refine tO ?_
  refine ah 0 rfl ?_
  refine dP ?_
  go_simp
  go_wp2_with fail
  go_ret
  exact⟨rfl,rfl⟩
theorem La{c:Nat}{v:Int}(hB:nS W B n a n c wj k v):
 Calls Tryz.prog 131 (dW (zp B)) W λ e w'=>e= .returned (.int .u8 0)/\w'=W.drew:=by
 obtain⟨c0,c1, -⟩:=hB.cells
 have Wi:¬ ((n:Int)<(n:Int)):=ag
 clear hB
 go_enter Tryz.func131,Tryz.ntmps131
 go_wp2_with fail
 go_loopw [3,28] (λ _ _ wr=>wr=W) (λ _ _ _=>0)
 case atStart=>rfl
 case round=>
  subst hrel
  go_wp2_with fail
  refine bP 11 ?_
  refine tP [0,1,2,3,4,5,6,7,8,9,10] ?_
  iterate 11 refine tO ?_
  refine ah 0 rfl ?_
  refine dP ?_
  go_simp
  go_wp2_with fail
  go_ret
  exact⟨rfl,rfl⟩
theorem Ou(hx:x=45\/(48<=x/\x<58))(W:World):Calls Tryz.prog 214 (J3 x) W λ e w'=>e= .returned (.bool true)/\w'=W:=by
 rcases hx with rfl|⟨h1,h2⟩
 ·go_enter Tryz.func214,Tryz.ntmps214
  go_wp2_with fail
  go_ret
  exact⟨rfl,rfl⟩
 ·have n1:((x:Int)==34)=false:=bV
  have n2:((x:Int)==91)=false:=bV
  have n3:((x:Int)==123)=false:=bV
  have n4:((x:Int)==45)=false:=bV
  have n5:((x:Int)==110)=false:=bV
  have n6:((x:Int)==116)=false:=bV
  have n7:((x:Int)==102)=false:=bV
  have n8:(48:Int)<=(x:Int):=ag
  have n8':decide ((48:Int)<=(x:Int))=true:=bV
  have n9:(x:Int)<=57:=ag
  go_enter Tryz.func214,Tryz.ntmps214
  go_wp2_with fail
  go_ret
  exact⟨by first|rfl|(simp;done),rfl⟩
theorem Wl{c:Nat}(hB:nS W B pos a n c wj 0 0)(v:Int)(hn:n₀<=B):
 Calls Tryz.prog 216 (tQ (zp B) (.agg (dy v))) W λ e w'=>e= .returned (.int .i64 6)/\nS w' B pos a n c wj 3 v/\Below n₀ W w':=by
 have bg:=(aX hB).1
 obtain⟨w1,aH⟩:=aK (W.alloc (.cells (dy v) 92))
 have h1:nS w1 B pos a n c wj 0 0:=by rw[aH];exact(Lib.alloc_old W _ _ bg).T hB
 obtain⟨c0,c1,c2,c3,c4,c5,c6,c7,c8,c9⟩:=h1.cells
 have f4:=ak h1 4
 have h2:=aq (j:=4) (.int .i64 3) h1
 have f5:=ak h2 5
 have h3:=aq (j:=5) (.int .i64 v) h2
 have f6:=ak h3 6
 have h4:=aq (j:=6) (.string ⟨#[]⟩) h3
 have f7:=ak h4 7
 have h5:=aq (j:=7) (.slice none 0 0) h4
 have f8:=ak h5 8
 have h6:=aq (j:=8) (.slice none 0 0) h5
 have hb:Below n₀ W w1:=by rw[aH];exact(Below.refl _ W).alloc ag _
 have HE:Hid (nS (((((w1.setCell (za B 4) (.int .i64 3)).setCell (za B 5) (.int .i64 v)).setCell (za B 6) (.string ⟨#[]⟩)).setCell (za B 7) (.slice none 0 0)).setCell (za B 8) (.slice none 0 0)) B pos a n c wj 3 v/\Below n₀ W (((((w1.setCell (za B 4) (.int .i64 3)).setCell (za B 5) (.int .i64 v)).setCell (za B 6) (.string ⟨#[]⟩)).setCell (za B 7) (.slice none 0 0)).setCell (za B 8) (.slice none 0 0))):=af ⟨h6,((((hb.setCell hn _).setCell hn _).setCell hn _).setCell hn _).setCell hn _⟩
 rw[aH]at f5 f6 f7 f8 HE
 clear h2 h3 h4 h5 h6 hb
 have H1:=cV h1 aH bg
 rw[aH]at c0 c1 c2 c3 c4 c5 c6 c7 c8 c9 f4
 clear h1 aH bg hB
 go_enter Tryz.func216,Tryz.ntmps216
 go_wp2_with fail
 go_ret
 exact⟨rfl,HE.O.1,HE.O.2⟩
theorem oF.first(h:oF xs ds neg):∃x,xs[0]? =some x/\(x=45\/(48<=x/\x<58)):=by
 obtain⟨d,r,rfl⟩:∃d r,ds=d::r:=by cases ds with|nil=>exact absurd rfl h.ne|cons d r=>exact⟨d,r,rfl⟩
 cases neg with
 |true=>exact⟨45,by rw[h.text];rfl,.inl rfl⟩
 |false=>have h1:=h.at 0 d rfl;exact⟨48+d,h1.2,.inr ag⟩
theorem Ov{c:Nat}(hD:oF xs ds neg)(hB:nS W B 0 a xs.length c 0 0 0)(hb:ai W a xs)(hn:n₀<=B)(Jr:eA 0 ds<=(if neg then 9223372036854775808 else 9223372036854775807)):
 Calls Tryz.prog 197 (dW (zp B)) W λ e w'=>e= .returned (.int .i64 6)/\nS w' B xs.length a xs.length c 1 3 (wi neg ds)/\Below n₀ W w':=by
 obtain⟨x,hx,I0⟩:=hD.first
 have zv:0<xs.length:=(List.getElem?_eq_some_iff.1 hx).1
 obtain⟨C,o,rfl,xp⟩:∃C o,a=some ⟨C,o,none⟩/\W.cell? (za C (o+0))=some (.int .u8 (x:Int)):=by
  rcases hb.2 with h0|⟨C,o,e,hc⟩
  ·rw[h0]at zv;simp at zv
  ·exact⟨C,o,e,hc 0 x hx⟩
 have Gb:=af (Hj hB xp zv ag hD.len)
 have HBG:=af (λ V=>Ou I0 V)
 obtain⟨w1,aH⟩:=aK (W.setCell (za B 2) (.int .i64 1))
 have h1:nS w1 B 0 (some ⟨C,o,none⟩) xs.length c 1 0 0:=by rw[aH];exact aq (j:=2) _ hB
 have aQ:ai w1 (some ⟨C,o,none⟩) xs:=dR (λ j hj=>by rw[aH];exact Below.heap_setCell _ _ _ _ hj) hB (λ j x=>by unfold psC;rcases j with _|_|_|_|_|_|_|_|_|_|j<;>simp) hb
 have X4:=af (K9 (w:=w1.drew.drew.drew) (c:=c) hD (aQ.below (((Below.refl _ w1).drew).drew).drew) Jr)
 have H1:=cV (show B<w1.drew.drew.drew.heap.size from(aX h1).1) (show nS w1.drew.drew.drew B 0 (some ⟨C,o,none⟩) xs.length c 1 0 0 from h1) (show Below n₀ W w1.drew.drew.drew by rw[aH];exact((((Below.refl _ W).setCell hn _).drew).drew).drew)
 have HN:=af hn
 obtain⟨c0,c1,c2, -⟩:=hB.cells
 have f2:=ak hB 2
 obtain⟨y0,y1,y2, -⟩:=h1.cells
 rw[aH]at y0 y1 y2
 rw[aH]at X4
 have kg:=af aH
 have n1:((x:Int)==91)=false:=bV
 have n2:((x:Int)==123)=false:=bV
 have n3:((x:Int)==34)=false:=bV
 have n4:((x:Int)==110)=false:=bV
 have n5:((x:Int)==116)=false:=bV
 have n6:((x:Int)==102)=false:=bV
 clear hD hB hb hn Jr hx I0 zv xp h1 aQ aH
 go_enter Tryz.func197,Tryz.ntmps197
 go_wp2_with first
  |((with_reducible refine Gb.O.mono ?_);rintro e w2 ⟨rfl,da⟩;rw[da];clear da w2)
  |((with_reducible refine(HBG.O _).mono ?_);rintro e w2 ⟨rfl,da⟩;rw[da];clear da w2)
  |fail
 refine bP 17 ?_
 refine tP [0,1,2,3,4,5,6,7,8] ?_
 iterate 9 refine tO ?_
 refine ah 8 rfl ?_
 refine sP 9 [0,1,2,3,4,5,6,7,8] λ K hK=>?_
 go_simp
 (with_reducible refine X4.O.mono ?_);rintro e w4 ⟨rfl,bH⟩
 rw[<-kg.O]at bH
 have h4:nS w4 B 0 (some ⟨C,o,none⟩) xs.length c 1 0 0:=(bH.block B H1.O.1).T H1.O.2.1
 have z0:=(aa h4 0).T rfl
 have g0:=ak h4 0
 have h5:nS (w4.setCell (za B 0) (.int .i64 (xs.length:Int))) B xs.length (some ⟨C,o,none⟩) xs.length c 1 0 0:=aq (j:=0) _ h4
 have CA:=af (Wl (n₀:=n₀) h5 (wi neg ds) HN.O)
 have eN:=af (show Below n₀ W (w4.setCell (za B 0) (.int .i64 (xs.length:Int)))from(H1.O.2.2.T (bH.mono (Nat.le_of_lt (Nat.lt_of_le_of_lt HN.O H1.O.1)))).setCell HN.O _)
 clear bH h4 h5
 refine nP hK ?_
 clear hK K
 refine tP [10,11,12,13,14,15,16] ?_
 iterate 7 refine tO ?_
 refine ah 0 rfl ?_
 refine dP ?_
 go_simp
 go_wp2_with first
  |((with_reducible refine CA.O.mono ?_);rintro e w6 ⟨rfl,h6,fD⟩;have H6:=cj h6 (eN.O.T fD);clear h6 fD)
  |fail
 go_ret
 exact⟨rfl,H6.O.1,H6.O.2⟩
abbrev TQ:Array Value:=#[.func (.func 197) #[] #[],.func (.func 198) #[] #[],.func (.func 199) #[] #[],.func (.func 200) #[] #[],.func (.func 201) #[] #[],.func (.func 202) #[] #[]]
theorem Ow(w:World):Calls Tryz.prog 172 #[] w λ e w'=>e= .returned (.agg TQ)/\Below w w w':=by
 go_enter Tryz.func172,Tryz.ntmps172
 go_wp2_with fail
 refine bodyPost_ret (v:=.agg TQ) (by rw[cD rfl];go_simp) (by rfl) ⟨rfl,?_⟩
 go_grown
theorem Wm{c:Nat}(hD:oF xs ds neg)(hB:nS W B 0 a xs.length c 0 0 0)(hb:ai W a xs)(hn:n₀<=B)(Jr:eA 0 ds<=(if neg then 9223372036854775808 else 9223372036854775807)):
 Calls Tryz.prog 130 (dW (zp B)) W λ e w'=>e= .returned (.tuple #[])/\nS w' B xs.length a xs.length c 1 3 (wi neg ds)/\Below n₀ W w':=by
 have bg:=(aX hB).1
 have HV:Hid (∀V,Below W W V->Calls Tryz.prog 197 (dW (zp B)) V λ e w'=>e= .returned (.int .i64 6)/\nS w' B xs.length a xs.length c 1 3 (wi neg ds)/\Below n₀ W w'):=af λ V hV=>
  (Ov hD ((hV.block B bg).T hB) (hb.below hV) hn Jr).mono λ e w' ⟨h1,h2,h3⟩=>⟨h1,h2,(hV.mono ag).T h3⟩
 have oG:=af (Ow W)
 clear hD hB hb hn Jr bg
 go_enter Tryz.func130,Tryz.ntmps130
 go_wp2_with fail
 go_step3
 go_wp2_with first
  |((with_reducible refine oG.O.mono ?_);rintro e w2 ⟨rfl,aC⟩
    have aL:Below W W (w2.alloc (.cells TQ 321)):=aC.alloc aC.size _
    have jS:=World.alloc_heap_new w2 (.cells TQ 321)
    have p0:=(aa jS 0).T rfl
    have TO:=af (HV.O _ aL)
    unfold TQ at TO
    clear aC aL jS)
  |fail
 go_step3
 go_wp2_with fail
 go_loopw [2] (λ iv wr=>(iv= .int .i64 0/\wr=w2.alloc (.cells TQ 321))\/(iv= .int .i64 6/\Hid (nS wr B xs.length a xs.length c 1 3 (wi neg ds)/\Below n₀ W wr))) (λ iv _=>6 - (intOf iv).toNat)
 case atStart=>exact .inl ⟨rfl,rfl⟩
 case round=>
  rcases hrel with⟨rfl,rfl⟩|⟨rfl,hw⟩
  ·unfold TQ at p0
   unfold TQ
   go_wp2_with first
    |((with_reducible refine TO.O.mono ?_);rintro e w4 ⟨rfl,h4,bH⟩;have H4:=cj h4 bH;clear h4 bH)
    |fail
   go_roundw
   case rel=>exact .inr ⟨rfl,H4⟩
   case measure=>simp[intOf]
  ·go_wp2_with fail
   rw[Exit.noGoto_normal]
   go_end0
   exact⟨rfl,hw.O.1,hw.O.2⟩
theorem Lb{c:Nat}(hD:oF xs ds neg)(hb:ai w a xs)(Jr:eA 0 ds<=(if neg then 9223372036854775808 else 9223372036854775807))(hlen:xs.length<=2048):
 Calls Tryz.prog 106 (jE a xs.length c) w λ e w'=>e= .returned (.tuple (UK (.agg (dy (wi neg ds)))))/\Below w w w':=by
 obtain⟨w1,aH⟩:=aK ((w.alloc (.cells MD 92)).alloc (.cells (psC 0 a xs.length c 0 0 0) 267))
 have aQ:Below w w w1:=by rw[aH];go_grown
 have bB:=aS (w2:=w1) (by rw[aH];exact dp)
 have HG:Hid (Calls Tryz.prog 130 (dW (zp (w.heap.size+1))) ((w.alloc (.cells MD 92)).alloc (.cells #[.int .i64 0,.slice a xs.length c,.int .i64 0,.slice none 0 0,.int .i64 0,.int .i64 0,.string ⟨#[]⟩,.slice none 0 0,.slice none 0 0,.int .i64 0] 267)) λ e w'=>e= .returned (.tuple #[])/\nS w' (w.heap.size+1) xs.length a xs.length c 1 3 (wi neg ds)/\Below (w.heap.size+1) w1 w'):=af (by
  have:=Wm (n₀:=w.heap.size+1) (W:=w1) hD bB.2 (hb.below aQ) (aW) Jr
  rw[aH]at this⊢;exact this)
 have H1:=cj aQ bB
 have hl:¬ (2048:Int)<(xs.length:Int):=ag
 have Wi:¬ ((xs.length:Int)<(xs.length:Int)):=ag
 obtain⟨v,hv⟩:=aK (wi neg ds)
 rw[<-hv]at HG⊢
 clear hD hb Jr hlen aH aQ bB hv
 go_enter Tryz.func106,Tryz.ntmps106
 go_wp2_with first
  |((with_reducible refine HG.O.mono ?_);rintro e w2 ⟨rfl,h2,aC⟩
    have Gb:=af (La h2)
    obtain⟨c0,c1,c2,c3,c4,c5,c6,c7,c8,c9⟩:=h2.cells
    have h0:=(aC.block w (Nat.lt_succ_self _)).T H1.O.2.1
    have s1:=aq (j:=0) (.int .i64 3) h0
    have s2:=aq (j:=1) (.int .i64 v) s1
    have s3:=aq (j:=2) (.string ⟨#[]⟩) s2
    have s4:=aq (j:=3) (.slice none 0 0) s3
    have s5:=aq (j:=4) (.slice none 0 0) s4
    have f0:=ak h0 0
    have f1:=ak s1 1
    have f2:=ak s2 2
    have f3:=ak s3 3
    have f4:=ak s4 4
    have d0:=(aa h0 0).T rfl
    have d1:=(aa s1 1).T rfl
    have d2:=(aa s2 2).T rfl
    have d3:=(aa s3 3).T rfl
    have d4:=(aa s4 4).T rfl
    have RE:=af s5
    have bR:=af (show Below w w w2 from H1.O.1.T (aC.mono (Nat.le_succ _)))
    clear h2 aC h0 s1 s2 s3 s4 s5)
  |((with_reducible refine Gb.O.mono ?_);rintro e w3 ⟨rfl,cL⟩;rw[cL];clear cL w3)
  |fail
 have Sb:Below w w (((((w2.setCell (za w 0) (.int .i64 3)).setCell (za w 1) (.int .i64 v)).setCell (za w 2) (.string ⟨#[]⟩)).setCell (za w 3) (.slice none 0 0)).setCell (za w 4) (.slice none 0 0)).drew:=
  (((((bR.O.setCell (aW) _).setCell (aW) _).setCell (aW) _).setCell (aW) _).setCell (aW) _).drew
 have hs:=RE.O
 obtain⟨w5,eT⟩:=aK (((((w2.setCell (za w 0) (.int .i64 3)).setCell (za w 1) (.int .i64 v)).setCell (za w 2) (.string ⟨#[]⟩)).setCell (za w 3) (.slice none 0 0)).setCell (za w 4) (.slice none 0 0))
 rw[<-eT]at Sb hs⊢
 have e0:=(aa hs 0).T rfl
 have e1:=(aa hs 1).T rfl
 have e2:=(aa hs 2).T rfl
 have e3:=(aa hs 3).T rfl
 have e4:=(aa hs 4).T rfl
 simp only[List.getElem?_toArray,bD,List.getElem?_cons_zero,List.getElem?_cons_succ]at e0 e1 e2 e3 e4
 clear hs eT RE d0 d1 d2 d3 d4 f0 f1 f2 f3 f4 HG Gb c0 c1 c2 c3 c4 c5 c6 c7 c8 c9
 refine bodyPost_ret (v:=.tuple (UK (.agg (BL v)))) ?_ (by rfl) ⟨rfl,Sb⟩
 rw[vd rfl]
 go_simp
def mZ:Nat->Nat->List Nat
 |0,_=>[]
 |k+1,m=>mZ k (m/10)++[m%10]
theorem EH:∀(k m:Nat),sO k m=(mZ k m).map (48+·)
 |0,_=>rfl
 |k+1,m=>by rw[sO,mZ,EH k];simp
theorem yq:∀(k m:Nat),(mZ k m).length=k
 |0,_=>rfl
 |k+1,m=>by simp[mZ,yq k]
theorem Js:∀(k m:Nat),∀d∈mZ k m,d<10
 |0,_,d,h=>by simp[mZ]at h
 |k+1,m,d,h=>by
  rw[mZ]at h
  rcases List.mem_append.1 h with h|h
  ·exact Js k _ d h
  ·simp at h;omega
theorem Ox(v:Nat)(xs:List Nat)(d:Nat):eA v (xs++[d])=10*eA v xs+d:=by unfold eA;simp
theorem EI:∀(k m:Nat),eA 0 (mZ k m)=m%10^k
 |0,m=>by simp[mZ,eA,Nat.mod_one]
 |k+1,m=>by
  rw[mZ,Ox,EI k,Nat.pow_succ,Nat.mul_comm (10^k) 10,Nat.mod_mul]
  omega
theorem A7:∀(k m:Nat),(mZ (k+1) m).head?=some (m/10^k%10)
 |0,m=>by simp[mZ]
 |k+1,m=>by
  have h:=A7 k (m/10)
  rw[mZ]
  have bS:mZ (k+1) (m/10)≠[]:= λ e=>by have:=yq (k+1) (m/10);rw[e]at this;simp at this
  obtain⟨x,r,hr⟩:∃x r,mZ (k+1) (m/10)=x::r:=by
   cases hd:mZ (k+1) (m/10)with
   |nil=>exact absurd hd bS
   |cons x r=>exact⟨x,r,rfl⟩
  rw[hr]at h⊢
  rw[Nat.div_div_eq_div_mul,Nat.mul_comm 10,<-Nat.pow_succ]at h
  simpa using h
theorem EJ(n:Int)(dD: -9223372036854775808<=n)(fu:n<9223372036854775808):
 ∃ds,oF (cR n) ds (decide (n<0))/\wi (decide (n<0)) ds=n/\eA 0 ds<=(if decide (n<0)then 9223372036854775808 else 9223372036854775807):=by
 obtain⟨m,hm⟩:=aK n.natAbs
 have V8:m<=9223372036854775808:=ag
 obtain⟨h1,h2⟩:=nO 20 m ag
 have h3:=ux 20 m
 have h19:=yh m ag
 obtain⟨k,hk⟩:∃k,lR 20 m=k+1:=⟨lR 20 m - 1,ag⟩
 rw[hk]at h1 h2 h19
 have bg:m<10^(k+1):=by
  rcases Nat.lt_or_ge m (10^(k+1))with h|h
  ·exact h
  ·have:=Nat.div_pos h (Nat.pow_pos bd);omega
 have Am:eA 0 (mZ (k+1) m)=m:=by rw[EI,Nat.mod_eq_of_lt bg]
 have hd:qx m=(mZ (k+1) m).map (48+·):=by unfold qx;rw[hk,EH]
 have hlen:=yq (k+1) m
 refine⟨mZ (k+1) m,⟨?_,Js _ _, λ e=>by rw[e]at hlen;simp at hlen, λ h0=>?_,?_,by rw[Am];omega⟩,?_,?_⟩
 ·unfold cR
  rw[<-hm,hd]
  by_cases h:n<0
  ·simp[h]
  ·simp[h]
 ·rw[A7]at h0
  have h0':m/10^k%10=0:=by simpa using h0
  have hq:m/10^k<10:=by rw[Nat.div_lt_iff_lt_mul (Nat.pow_pos bd),Nat.mul_comm,<-Nat.pow_succ];exact bg
  have hz:m/10^k=0:=by rw[Nat.mod_eq_of_lt hq]at h0';exact h0'
  rcases k with _|k
  ·simp at hz;subst hz;rfl
  ·exact absurd hz (h2 (k+1) ag ag)
 ·have hl:(qx m).length=k+1:=by rw[hd];simp[hlen]
  unfold cR
  rw[<-hm]
  split<;>simp[hl]<;>omega
 ·unfold wi
  rw[Am]
  by_cases h:n<0
  ·simp[h];omega
  ·simp[h];omega
 ·rw[Am]
  by_cases h:n<0
  ·simp[h];omega
  ·simp[h];omega
theorem Lc(n:Int)(dD: -9223372036854775808<=n)(fu:n<9223372036854775808){c:Nat}(hb:ai w a (cR n)):
 Calls Tryz.prog 106 (jE a (cR n).length c) w λ e w'=>e= .returned (.tuple (UK (.agg (dy n))))/\Below w w w':=by
 obtain⟨ds,h1,h2,h3⟩:=EJ n dD fu
 have hl:=kx n dD fu
 have:=Lb (c:=c) h1 hb h3 (by have h:(aU (cR n)).size=(cR n).length:=(by simp[aU,ByteArray.size]);omega)
 rwa [h2]at this
abbrev Sc(b:Option Addr)(k c a1 d1 c1 a2 d2 c2 q:Nat):Array Value:=(zJ b k c a1 d1 c1 a2 d2 c2 q)
def eE(W:World)(B:Nat)(b:Option Addr)(k c a1 d1 c1 a2 d2 c2 q:Nat):Prop:=W.heap[B]? =some (.cells (Sc b k c a1 d1 c1 a2 d2 c2 q) 97)
theorem pq(h:∀j,j≠B->V.heap[j]? =W.heap[j]?)(i:Nat)(v:Value):∀j,j≠B->(V.setCell ⟨B,i,none⟩ v).heap[j]? =W.heap[j]? := λ j hj=>(Below.heap_setCell _ _ _ _ hj).T (h j hj)
theorem Ld{c a1 d1 c1 a2 d2 c2 q:Nat}{b:Option Addr}{ps:List Piece}(hS:eE w B b ps.length c a1 d1 c1 a2 d2 c2 q)(hF:au w b c ps)(hm:Marks (al ps))(at_:Nat)(n:Int)(dD: -9223372036854775808<=n)(fu:n<9223372036854775808)(hr:dO (al ps) at_ (cR n)):
 Calls Tryz.prog 74 (UH (zp B) at_) w λ e w'=>e= .returned (.tuple (lD (.agg (dy n))))/\Below w w w':=by
 obtain⟨w1,aH⟩:=aK (w.alloc (.cells MD 92))
 have aQ:Below w w w1:=by rw[aH];go_grown
 have bB:w1.heap[w.heap.size]? =some (.cells MD 92):=jJ aH
 have HG:=af (B6 (hF.below aQ) hm at_ _ hr)
 have hs:= λ j=>aa ((aQ.block B (aX hS).1).T hS) j
 have y0:=(hs 0).T rfl
 have y1:=(hs 1).T rfl
 have y2:=(hs 2).T rfl
 have y3:=(hs 3).T rfl
 have y4:=(hs 4).T rfl
 simp only[aD]at y0 y1 y2 y3 y4
 rw[aH]at HG y0 y1 y2 y3 y4
 unfold aE at HG
 have H1:=cV aQ bB aH
 have HN:=cj dD fu
 obtain⟨l,hl⟩:=aK ((cR n).length)
 have HL:=af hl
 rw[<-hl]at HG
 clear hS hF hm hr dD fu aH aQ bB hs hl
 go_enter Tryz.func74,Tryz.ntmps74
 go_wp2_with first
  |((with_reducible refine HG.O.mono ?_);rintro e w2 ⟨a,k,z,rfl, -, -,eZ,aC⟩
    rw[<-H1.O.2.2]at aC
    have HP:=af (Lc n HN.O.1 HN.O.2 (c:=k) eZ)
    rw[<-HL.O]at HP
    have bR:=cj aC eZ
    clear aC eZ)
  |((with_reducible refine HP.O.mono ?_);rintro e w3 ⟨rfl,aL⟩
    have bA:=af aL
    have TR:=af (qb n HN.O.1 HN.O.2 (w3.alloc (.cells (dy n) 92)))
    clear aL)
  |((with_reducible refine TR.O.mono ?_);rintro e w4 ⟨rfl,bH⟩
    have Sd:Below w3 w3 w4:=((Below.refl _ w3).alloc (aW) _).T (bH.mono aR)
    have hv:=(bH.block w3 aR).T (World.alloc_heap_new w3 (.cells (dy n) 92))
    have u0:=(aa hv 0).T rfl
    have u1:=(aa hv 1).T rfl
    have u2:=(aa hv 2).T rfl
    have u3:=(aa hv 3).T rfl
    have u4:=(aa hv 4).T rfl
    simp only[aD]at u0 u1 u2 u3 u4
    have KC:ai w4 a (cR n):=(bR.O.2.below bA.O).below Sd
    have hz:w4.heap[w.heap.size]? =some (.cells MD 92):=by
     have g1:=(aX H1.O.2.1).1
     have g2:=bR.O.1.size
     have g3:=bA.O.size
     exact(Sd.block _ ag).T ((bA.O.block _ ag).T ((bR.O.1.block _ g1).T H1.O.2.1))
    have Ml:=cy (c:=k) (KC.below (Below.refl _ w4).drew) HL.O.symm
    have s1:=aq (j:=0) (.int .i64 3) hz
    have s2:=aq (j:=1) (.int .i64 n) s1
    have s3:=aq (j:=2) (.string ⟨#[]⟩) s2
    have s4:=aq (j:=3) (.slice none 0 0) s3
    have s5:=aq (j:=4) (.slice none 0 0) s4
    have f0:=ak hz 0
    have f1:=ak s1 1
    have f2:=ak s2 2
    have f3:=ak s3 3
    have f4:=ak s4 4
    have d0:=(aa hz 0).T rfl
    have d1:=(aa s1 1).T rfl
    have d2:=(aa s2 2).T rfl
    have d3:=(aa s3 3).T rfl
    have d4:=(aa s4 4).T rfl
    have aay:ai (((((w4.setCell (za w 0) (.int .i64 3)).setCell (za w 1) (.int .i64 n)).setCell (za w 2) (.string ⟨#[]⟩)).setCell (za w 3) (.slice none 0 0)).setCell (za w 4) (.slice none 0 0)) a (cR n):=
     dR (pq (pq (pq (pq (pq (λ _ _=>rfl) 0 _) 1 _) 2 _) 3 _) 4 _) hz (λ j x=>by rcases j with _|_|_|_|_|j<;>simp) KC
    have ace:=cy (c:=k) (aay.below (dp).drew) HL.O.symm
    have gu:Below w w w4:=H1.O.1.T ((bR.O.1.mono H1.O.1.size).T ((bA.O.mono (cG H1.O.1.size bR.O.1.size)).T (Sd.mono (zI H1.O.1.size bR.O.1.size bA.O.size))))
    have HE:=cj gu s5
    clear bH Sd hv KC hz s1 s2 s3 s4 s5 aay gu)
  |fail
 refine bP 11 ?_
 refine tP [0,1,2,3,4,5,6,7,8] ?_
 iterate 9 refine tO ?_
 refine ah 2 rfl ?_
 refine sP 9 [0,1,2,3] λ K hK=>?_
 go_simp
 refine nP hK ?_
 clear hK K
 refine tP [10] ?_
 refine tO ?_
 refine ah 0 rfl ?_
 refine dP ?_
 go_simp
 go_wp2_with fail
 have Sb:Below w w (((((w4.setCell (za w 0) (.int .i64 3)).setCell (za w 1) (.int .i64 n)).setCell (za w 2) (.string ⟨#[]⟩)).setCell (za w 3) (.slice none 0 0)).setCell (za w 4) (.slice none 0 0)).drew:=
  (((((HE.O.1.setCell (aW) _).setCell (aW) _).setCell (aW) _).setCell (aW) _).setCell (aW) _).drew
 have hs:=HE.O.2
 obtain⟨w5,eT⟩:=aK (((((w4.setCell (za w 0) (.int .i64 3)).setCell (za w 1) (.int .i64 n)).setCell (za w 2) (.string ⟨#[]⟩)).setCell (za w 3) (.slice none 0 0)).setCell (za w 4) (.slice none 0 0))
 rw[<-eT]at Sb hs⊢
 have e0:=(aa hs 0).T rfl
 have e1:=(aa hs 1).T rfl
 have e2:=(aa hs 2).T rfl
 have e3:=(aa hs 3).T rfl
 have e4:=(aa hs 4).T rfl
 simp only[List.getElem?_toArray,bD,List.getElem?_cons_zero,List.getElem?_cons_succ]at e0 e1 e2 e3 e4
 clear hs eT HE d0 d1 d2 d3 d4 f0 f1 f2 f3 f4 Ml ace u0 u1 u2 u3 u4 y0 y1 y2 y3 y4 HG HP TR
 refine bodyPost_ret (v:=.tuple (lD (.agg (BL n)))) ?_ (by rfl) ⟨rfl,Sb⟩
 rw[results_cell_tmp rfl]
 go_simp
end
end Go.Proofs.YtkgapncajjafoaaGreatDoor

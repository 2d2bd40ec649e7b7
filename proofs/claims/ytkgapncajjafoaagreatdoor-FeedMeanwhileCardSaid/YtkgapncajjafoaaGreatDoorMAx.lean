/- FeedMeanwhile: for every two rows of deeds and every number the law returns true, and its arguments read behind the call as they read before; conditions: none but the statement's own. -/
import Derived.Test.YtkgapncajjafoaaGreatDoorMAa
import Derived.Test.YtkgapncajjafoaaGreatDoorMAk
import Derived.Test.YtkgapncajjafoaaGreatDoorMBb
import Derived.Test.YtkgapncajjafoaaGreatDoorMAt
import Derived.Test.YtkgapncajjafoaaGreatDoorMAv
import Derived.Test.YtkgapncajjafoaaGreatDoorMAs
import Derived.Carry
set_option linter.unusedSimpArgs false
set_option linter.unusedVariables false
set_option maxRecDepth 100000
set_option maxHeartbeats 16000000
namespace Go.Proofs.YtkgapncajjafoaaGreatDoor
open Go.RowKit Go.Shelf
variable{W V w:World}{M B o j t S lc:Nat}{x y:aG}{es:List aG}{N:Int}{la:Option Addr}
section
open Go.MapKept (IsKey)
section
variable {P : Program} {W : World} {M T K E : Nat} {d : TypeDesc} {l : List (Value × Value)} {key : Value}
theorem afl(h:l9 W M l)(hT:P.underlying T=some (.map K E))(hK:P.underlying K=some d)(hk:IsKey d key)(fK:∀p∈l,IsKey d p.1)(v:Value)(qN:∃p∈l,p.1=key):
 ∃o j p,(Instr.mapUpdate T (.map (some M)) key v).run P W= .ok () (W.putObj M o)/\l[j]? =some p/\p.1=key/\l9 (W.putObj M o) M (l.set j (key,v))/\o.isCells=false/\∃es c,W.heap[M]? =some (.map es c):=by
 obtain⟨es,c,hb,hl⟩:=h
 subst hl
 rcases MapKept.findNow_spec hk es.toList 0 (λ x hx=>fK _ (List.mem_map.2 ⟨x,hx,rfl⟩))with⟨h1,h2⟩|⟨j,e,h1,h2,h3⟩
 ·obtain⟨p,hp,hpk⟩:=qN
  obtain⟨x,hx,rfl⟩:=List.mem_map.1 hp
  exact absurd hpk (h2 x hx)
 ·have hj:es[j]? =some e:=by simpa using h2
  refine⟨.map (es.modify j λ e=>{e with key:=key,val:=v}) c,j,(e.key,e.val),?_,by simp[hj],h3,⟨_,_,(MapKept.heap_set hb).1,?_⟩,rfl,_,_,hb⟩
  ·simp[Instr.mapUpdate,run_underlying hT,MapKept.run_getObj_map hb,MapKept.run_checkKey hK hk,MapKept.run_findKey hK h1,hj,h3,MapKept.run_keyThatStays hk,MapKept.run_setObj_map _ hb,Result.andThen,World.putObj]
  ·refine List.ext_getElem? λ i=>?_
   simp only[List.getElem?_map,Array.getElem?_toList,Array.getElem?_modify,List.getElem?_set,List.length_map,Array.length_toList]
   by_cases hi:j=i
   ·subst hi
    have bg:=(aX hj).1
    simp[hj,bg]
   ·rw[if_neg hi,if_neg hi]
end
end
section
attribute [local go_sem] Oper.semAt_some
attribute [-go_sem] Builtin.append_
theorem aei(hm:∃es c,W.heap[M]? =some (.map es c))(hk:gd (λ j=>j=M) W V){v:Value}(h:W.cell? ⟨B,o,none⟩=some v):V.cell? ⟨B,o,none⟩=some v:=by
 have bg:B<W.heap.size:=World.block_lt_of_cell? W _ h
 have bS:B≠M:= λ e2=>by
  obtain⟨es,c,hm⟩:=hm
  subst e2
  simp[World.cell?,hm]at h
 exact(World.cell?_of_block (w:=W) (hk.block B bg bS)).T h
theorem aev(hm:∃es c,W.heap[M]? =some (.map es c))(hk:gd (λ j=>j=M) W V){a:Option Addr}{xs:List Nat}(h:ai W a xs):ai V a xs:=
 ⟨h.1,h.2.elim .inl λ ⟨B,o,e,hc⟩=>.inr ⟨B,o,e, λ j x hx=>aei hm hk (hc j x hx)⟩⟩
theorem ae1(hm:∃es c,W.heap[M]? =some (.map es c))(hk:gd (λ j=>j=M) W V){s:lG}(h:s.At W):s.At V:=
 ⟨⟨⟨h.file.pieces.1.elim .inl λ ⟨B,o,e,hc⟩=>.inr ⟨B,o,e, λ j x hx=>aei hm hk (hc j x hx)⟩, λ p hp=>⟨(h.file.pieces.2 p hp).1,(h.file.pieces.2 p hp).2.1,aev hm hk (h.file.pieces.2 p hp).2.2⟩⟩,h.file.small,h.file.room⟩,h.marks,h.oI,h.SZ⟩
def kvC(x:aG):Value×Value:=(.string (aU x.id),.agg (se x.s (aU x.id) x.g x.m x.del))
def aeA(l:List (Value×Value)):Prop:=(∀p∈l,∃s:ByteArray,p.1= .string s)/\l.Pairwise λ p r=>p.1≠r.1
theorem aeA.is{l:List (Value×Value)}(h:aeA l):∀p∈l,Go.MapKept.IsKey .string p.1:= λ p hp=>by
 obtain⟨s,e⟩:=h.1 p hp;rw[e];trivial
theorem aeA.one{l:List (Value×Value)}(h:aeA l){p r:Value×Value}(hp:p∈l)(hr:r∈l)(e:p.1=r.1):p=r:=yG (f:=Prod.fst) h.2 hp hr e
theorem afx{l:List (Value×Value)}{p q:Value×Value}(h:l.Pairwise λ p r=>p.1≠r.1)(hj:l[j]? =some p)(e:p.1=q.1):(l.set j q).Pairwise λ p r=>p.1≠r.1:=by
 have key:(l.set j q).map Prod.fst=l.map Prod.fst:=by
  refine List.ext_getElem? λ i=>?_
  rw[List.map_set,List.getElem?_set,List.getElem?_map]
  by_cases hi:j=i
  ·subst hi
   obtain⟨bg,e2⟩:=List.getElem?_eq_some_iff.1 hj
   rw[if_pos rfl,if_pos (by rw[List.length_map];exact bg),hj,<-e];rfl
  ·rw[if_neg hi]
 have h1:(l.map Prod.fst).Pairwise (·≠·):=List.pairwise_map.2 h
 rw[<-key]at h1
 exact List.pairwise_map.1 h1
theorem afG{l:List (Value×Value)}(h:l9 W M l)(hk:aeA l)(x:aG):
 ∃o l',(Instr.mapUpdate 61 (.map (some M)) (.string (aU x.id)) (.agg (se x.s (aU x.id) x.g x.m x.del))).run Tryz.prog W= .ok () (W.putObj M o)/\l9 (W.putObj M o) M l'/\aeA l'/\kvC x∈l'/\∀p∈l,p.1≠.string (aU x.id)->p∈l':=by
 by_cases qN:∃p∈l,p.1= .string (aU x.id)
 ·obtain⟨o,j,p,h1,h2,h3,h4, -, -⟩:=afl (P:=Tryz.prog) (T:=61) (K:=9) (E:=56) (key:=.string (aU x.id)) h aO (d:=.string) aO trivial hk.is (kvC x).2 qN
  obtain⟨bg,e2⟩:=List.getElem?_eq_some_iff.1 h2
  refine⟨o,l.set j (kvC x),h1,h4,⟨λ r hr=>?_,afx hk.2 h2 h3⟩,List.mem_iff_getElem.2 ⟨j,by rw[List.length_set];exact bg,by simp⟩, λ r hr bS=>?_⟩
  ·rcases List.mem_or_eq_of_mem_set hr with h9|h9
   ·exact hk.1 r h9
   ·exact⟨_,by rw[h9];rfl⟩
  ·obtain⟨i,hi,rfl⟩:=List.getElem_of_mem hr
   have hij:j≠i:= λ e=>by subst e;rw[e2]at bS;exact bS h3
   exact List.mem_iff_getElem.2 ⟨i,by rw[List.length_set];exact hi,by rw[List.getElem_set_ne hij]⟩
 ·have km:∀p∈l,p.1≠.string (aU x.id):= λ p hp e=>qN ⟨p,hp,e⟩
  obtain⟨o,h1,h2, -, -⟩:=Sq (P:=Tryz.prog) (T:=61) (K:=9) (E:=56) (key:=.string (aU x.id)) h aO (d:=.string) aO trivial hk.is (kvC x).2 km
  refine⟨o,l++[kvC x],h1,h2,⟨λ r hr=>?_,?_⟩,by simp, λ r hr _=>List.mem_append_left _ hr⟩
  ·rcases List.mem_append.1 hr with h9|h9
   ·exact hk.1 r h9
   ·rw[List.mem_singleton]at h9;exact⟨_,by rw[h9];rfl⟩
  ·rw[List.pairwise_append]
   exact⟨hk.2,List.pairwise_singleton _ _, λ a ha b hb=>by rw[List.mem_singleton]at hb;rw[hb];exact km a ha⟩
theorem afy{l:List (Value×Value)}(h:l9 W M l)(hk:aeA l)(hx:kvC x∈l):
 (Instr.lookup 61 (.map (some M)) (.string (aU x.id)) false).run Tryz.prog W= .ok (.agg (se x.s (aU x.id) x.g x.m x.del)) W:=by
 have:=Lw (P:=Tryz.prog) (T:=61) (K:=9) (E:=56) (key:=.string (aU x.id)) h aO (d:=.string) aO trivial hk.is (v:=(kvC x).2) (λ p hp e=>by rw[hk.one hp hx e]) ⟨_,hx,rfl⟩ false
 simpa[kvC]using this
theorem afz(ha:es.Pairwise λ x y=>x.id≠y.id)(hb:∀x∈es,∀y∈x.id,y<256)(hx:x∈es)(hy:y∈es)(h:x≠y):(kvC x).1≠.string (aU y.id):= λ e=>by
 have e2:aU x.id=aU y.id:=by injection e
 refine h (yG (f:=aG.id) ha hx hy ?_)
 rw[<-yH (hb x hx),<-yH (hb y hy),e2]
theorem ae2(hr:es.Pairwise λ x y=>x.s<y.s)(hN:1<=N)(hx:x∈es)(h1:t<x.s)(h2:x.s<=j5 t (eS es t N)):x∈eS es t N:=by
 have h3:=P2 hr t hN
 by_cases h:x∈eS es t N
 ·exact h
 ·have hf:x∈es.filter λ y=>decide (t<y.s):=List.mem_filter.2 ⟨hx,decide_eq_true h1⟩
  have O8:es.filter (λ y=>decide (t<y.s))=eS es t N++(es.filter λ y=>decide (t<y.s)).drop N.toNat:=(List.take_append_drop _ _).symm
  rw[O8]at hf
  rcases List.mem_append.1 hf with h4|h4
  ·exact h4
  ·rw[<-h3]at h4
   have:=of_decide_eq_true (List.mem_filter.1 h4).2
   omega
def ad9(es:List aG)(t:Nat):Nat:=(es.filter λ y=>decide (t<y.s)).length
theorem aeE(es:List aG)(t:Nat):ad9 es t<=es.length:=List.length_filter_le _ _
theorem aeN(hr:es.Pairwise λ x y=>x.s<y.s)(t:Nat)(hN:1<=N):ad9 es (j5 t (eS es t N))+(eS es t N).length=ad9 es t:=by
 unfold ad9
 rw[P2 hr t hN]
 unfold eS
 rw[List.length_drop,List.length_take]
 omega
theorem ae3(hN:1<=N)(h:eS es t N=[]):∀x∈es,x.s<=t:= λ x hx=>by
 rcases Nat.lt_or_ge t x.s with h1|h1
 ·have hf:x∈es.filter λ y=>decide (t<y.s):=List.mem_filter.2 ⟨hx,decide_eq_true h1⟩
  have h2:=congrArg List.length h
  unfold eS at h2
  rw[List.length_take,List.length_nil]at h2
  have:=List.length_pos_of_mem hf
  omega
 ·exact h1
def TD(es:List aG)(t:Nat)(l:List (Value×Value)):Prop:=∀x∈es,x.s<=t->kvC x∈l
theorem TD.step{s s':lG}{id:ByteArray}{gone right:Bool}{l:List (Value×Value)}(h:TD s.es t l)(ht:t<=s.q)(hs:Step s s' id gone right):TD s'.es t l/\t<=s'.q:=by
 rcases hs.2 with⟨_,h3,x,_,h5,_,h7⟩|⟨_,h3⟩
 ·refine⟨λ y hy hyt=>?_,ag⟩
  rw[h7]at hy
  rcases List.mem_append.1 hy with h8|h8
  ·exact h y (List.mem_filter.1 h8).1 hyt
  ·rw[List.mem_singleton]at h8;subst h8;omega
 ·rw[h3];exact⟨h,ht⟩
structure aey(w:World)(S:Nat)(l:List gr)(s:lG)(la:Option Addr)(lc t:Nat)(m:List (Value×Value))(W:World):Prop where
 blk:W.heap[S]? =some (.cells (s.sto la lc) 46)
 at_:s.At W
 row:bj eQ 5 W la s.es
 lv:iR l s
 tq:t<=s.q
 mp:l9 W (S+1) m
 key:aeA m
 td:TD s.es t m
 oJ:Below w w W
theorem aey.below{w W V:World}{S lc t:Nat}{l:List gr}{s:lG}{la:Option Addr}{m:List (Value×Value)}(h:aey w S l s la lc t m W)(hb:Below W W V):aey w S l s la lc t m V:=
 ⟨(hb.block _ (aX h.blk).1).T h.blk,h.at_.below hb,h.row.below hb,h.lv,h.tq,h.mp.below hb,h.key,h.td,h.oJ.T (hb.mono h.oJ.size)⟩
theorem aey.off{t':Nat}{l:List gr}{s:lG}{m m':List (Value×Value)}(h:aey w S l s la lc t m W)(hS:w.heap.size<=S)(hk:gd (λ z=>z=S+1) W V)(hm:l9 V (S+1) m')(Rv:aeA m')(htd:TD s.es t' m')(ht:t'<=s.q):aey w S l s la lc t' m' V:=by
 have h5:∃es c,W.heap[S+1]? =some (.map es c):=by obtain⟨e,c,h1, -⟩:=h.mp;exact⟨e,c,h1⟩
 exact⟨(hk.block S (aX h.blk).1 ag).T h.blk,ae1 h5 hk h.at_,aeg h.row h5 hk,h.lv,ht,hm,Rv,htd,h.oJ.T (hk.below (λ z hz=>ag) h.oJ.size)⟩
theorem aey.set{tM:Nat}{l:List gr}{d:gr}{s s':lG}{qM:Option Addr}{m:List (Value×Value)}(h:aey w S l s la lc t m W)(hA:s'.At W)(hr:bj eQ 5 W qM s'.es)(hs:Step s s' d.id d.gone d.right)(h1:V.heap[S]? =some (.cells (s'.sto qM tM) 46))(h2:∀j,j≠S->V.heap[j]? =W.heap[j]?)(hb:Below w w V):aey w S (l++[d]) s' qM tM t m V:=
 ⟨h1,⟨cO (λ j _ hj=>h2 j hj) hA.file (PI h.at_.file h.row rfl h.blk hA.file),hA.marks,hA.oI,hA.SZ⟩,JS hr h.blk (S6 _ _ _ _ _ _ _ _ _ _ _ _ _) h2,h.lv.snoc hs,(h.td.step h.tq hs).2,h.mp.same (h2 _ ag),h.key,(h.td.step h.tq hs).1,hb⟩
theorem aeO{F:List aG}(ha:es.Pairwise λ x y=>x.id≠y.id)(hb:∀x∈es,∀y∈x.id,y<256)(hF:∀x∈F,x∈es)(hy:F[j]? =some y){l l':List (Value×Value)}(h:∀x∈es,(x.s<=t\/x∈F.take j)->kvC x∈l)(h1:kvC y∈l')(h2:∀p∈l,p.1≠.string (aU y.id)->p∈l'):∀x∈es,(x.s<=t\/x∈F.take (j+1))->kvC x∈l':= λ x hx hc=>by
 by_cases e:x=y
 ·rw[e];exact h1
 ·refine h2 _ (h x hx ?_) (afz ha hb hx (hF y (List.mem_of_getElem? hy)) e)
  rcases hc with hc|hc
  ·exact .inl hc
  ·rw[List.take_add_one,hy]at hc
   rcases List.mem_append.1 hc with h3|h3
   ·exact .inr h3
   ·simp at h3;exact absurd h3 e
theorem ae4(hr:es.Pairwise λ x y=>x.s<y.s)(hN:1<=N){l:List (Value×Value)}(h:∀x∈es,(x.s<=t\/x∈eS es t N)->kvC x∈l):TD es (j5 t (eS es t N)) l:= λ x hx hs=>by
 rcases Nat.lt_or_ge t x.s with h1|h1
 ·exact h x hx (.inr (ae2 hr hN hx h1 hs))
 ·exact h x hx (.inl h1)
theorem ae5{c i:Nat}{ds:List gr}(h:bj BB 4 W (some ⟨B,o,none⟩) (ds.drop i))(hc:ds.length<=c+i):bj BB 4 W (if c=1 then some ⟨B,o,none⟩else some ⟨B,o+4,none⟩) (ds.drop (i+1)):=by
 by_cases e:c=1
 ·exact .inl (List.drop_eq_nil_of_le ag)
 ·rw[if_neg e]
  have:=h.drop 1
  rw[List.drop_drop]at this
  simpa using this
theorem ae6{A0 A1:Option Addr}{C0 C1:Nat}{l0 l1:List gr}(h0:bj BB 4 w A0 l0)(hc0:l0.length<=C0)(hd0:C0<140737488355328)(afa:∀d∈l0,IH d)(h1:bj BB 4 w A1 l1)(F5:l1.length<=C1)(RH:C1<140737488355328)(afB:∀d∈l1,IH d)(n2:Nat):
 Calls Tryz.prog 6 #[.slice A0 l0.length C0,.slice A1 l1.length C1,.int .u8 (n2:Int)] w λ e w'=>e= .returned (.bool true)/\Below w w w':=by
 have Fq:=af (λ (V:World) (hV:Below w w V)=>BC (h0.below hV) hc0 hd0 afa)
 obtain⟨K,hK⟩:=aK l0.length
 rw[<-hK]at Fq⊢
 obtain⟨K1,hK1⟩:=aK l1.length
 rw[<-hK1]at F5⊢
 obtain⟨M,hM⟩:=aK (min K1 20)
 have q1:min (K1:Int) 20=(M:Int):=ag
 have q2:(M:Int)<=(C1:Int):=ag
 have HQ:Hid (M<=20/\M<=l1.length/\M<=C1/\l1.length<=C1/\C1<140737488355328/\bj BB 4 w A1 l1/\∀d∈l1,IH d):=af ⟨ag,ag,ag,ag,RH,h1,afB⟩
 have IV:∀W:World,(Instr.makeMap 61 none).run Tryz.prog W= .ok (.map (some W.heap.size)) (W.alloc (.map #[] 0)):= λ W=>aO
 clear h0 hc0 hd0 afa h1 F5 RH afB hK hK1 hM
 go_enter Tryz.func6,Tryz.ntmps6
 go_wp2_with first
  |((with_reducible refine(Mg _).mono ?_);rintro e w1 ⟨rfl,aQ⟩;have HL1:=af (Fq.O w1 aQ);have cZ:=af aQ;clear aQ)
  |((with_reducible refine HL1.O.mono ?_);rintro e w2 ⟨b,la,cf,ps,a1,d1,c1,a2,d2,c2,q,lc,es,rfl,hL,hA,hr,aC⟩
    obtain⟨L,PJ⟩:=aK es.length
    rw[<-PJ]
    have H2:=BM hL hA hr aC PJ
    have hN1:w.heap.size<=w2.heap.size:=Nat.le_trans cZ.O.size aC.size
    have HN:=cj hN1 trivial
    clear hL hA hr aC PJ hN1)
  |(refine et 46 ?_)
  |fail
 generalize Value.agg (uR b ps.length cf a1 d1 c1 a2 d2 c2 q la L lc)=Z
 have HM0:Hid (aey w w2.heap.size (l0.take 30++l1.take 0) ⟨b,cf,ps,a1,d1,c1,a2,d2,c2,q,es⟩ la lc 0 [] ((w2.alloc (.cells (uR b ps.length cf a1 d1 c1 a2 d2 c2 q la L lc) 46)).alloc (.map #[] 0))):=af (by
  obtain⟨w3,cL⟩:=aK (w2.alloc (.cells (uR b ps.length cf a1 d1 c1 a2 d2 c2 q la L lc) 46))
  have aL:Below w2 w2 w3:=by rw[cL];go_grown
  have iU:w3.heap.size=w2.heap.size+1:=by rw[cL];simp
  have C1:w3.heap[w2.heap.size]? =some (.cells (uR b ps.length cf a1 d1 c1 a2 d2 c2 q la L lc) 46):=jJ cL
  rw[<-cL]
  have bH:Below w3 w3 (w3.alloc (.map #[] 0)):=(dp).alloc (aW) _
  have fH:=aL.T (bH.mono aL.size)
  refine⟨?_,H2.O.2.1.below fH,H2.O.2.2.1.below fH,?_,Nat.zero_le _,?_,⟨λ p hp=>absurd hp List.not_mem_nil,List.Pairwise.nil⟩, λ x hx hs=>?_,cZ.O.T ((H2.O.2.2.2.1.T (fH.mono H2.O.2.2.2.1.size)).mono cZ.O.size)⟩
  ·rw[H2.O.2.2.2.2]at C1
   exact(bH.block _ ag).T C1
  ·rw[List.take_zero,List.append_nil];exact H2.O.1
  ·rw[<-iU];exact l9.new w3
  ·have:=(H2.O.2.1.oI.ok x hx).s1;omega)
 have HN1:Hid ((1:Int)<=1+(n2:Int)%5):=af ag
 clear q1 q2
 go_loopw [1,8,10,12] (λ sl bv tk rd wr=>∃(i n c t r:Nat) (a':Option Addr),sl= .slice a' n c/\bv= .bool true/\tk= .string (cX t)/\rd= .int .i64 (r:Int)/\Hid (n+i=M/\n<=c/\c<140737488355328/\l1.length<=c+i/\bj BB 4 w a' (l1.drop i)/\(i<M->r=i)/\r<=52)/\Hid (∃(s:lG) (la:Option Addr) (lc:Nat) (m:List (Value×Value)),aey w w2.heap.size (l0.take 30++l1.take i) s la lc t m wr/\(i=M->r+ad9 s.es t<=52))) (λ _ _ _ rd _=>100 - (intOf rd).toNat)
 case atStart=>
  refine⟨0,M,C1,0,0,A1,rfl,rfl,by rw[<-J1],rfl,af ⟨rfl,HQ.O.2.2.1,HQ.O.2.2.2.2.1,HQ.O.2.2.2.1,by rw[List.drop_zero];exact HQ.O.2.2.2.2.2.1, λ _=>rfl,ag⟩,af ⟨_,la,lc,[],HM0.O, λ _=>?_⟩⟩
  have h3:=aeE es 0
  have h4:es.length<=32:=H2.O.2.1.oI.many
  show 0+ad9 es 0<=52
  omega
 case round=>
  clear HM0 H2
  obtain⟨i,n,c,t,r,a',rfl,rfl,rfl,rfl,HC,HS⟩:=hrel
  obtain⟨⟨b,cf,ps,a1,d1,c1,a2,d2,c2,q,es⟩,la,lc,m,hS,lH⟩:=HS.O
  obtain⟨L,hL⟩:=aK es.length
  have VJ:=af hL
  have af3:(r:Int)<=52:=aM HC.O.2.2.2.2.2.2
  have afb:wr.heap[w2.heap.size]? =some (.cells (uR b ps.length cf a1 d1 c1 a2 d2 c2 q la L lc) 46):=by rw[hL];exact hS.blk
  obtain⟨hf,kL,x21,x22⟩:=ad6 afb
  have fG:=hS.lv.small
  have hlen:(l0.take 30++l1.take i).length<=50:=by
   rw[List.length_append,List.length_take,List.length_take]
   have h3:=HC.O.1;have h4:=HQ.O.1;omega
  have Ae:Hid (q<=50/\(al ps).length<=8000*50):=af ⟨by have h3:q<=_:=fG.1;omega,by have h3:(al ps).length<=_:=fG.2;omega⟩
  have key:=zn (w:=wr) (b:=b) (cf:=cf) (a1:=a1) (d1:=d1) (c1:=c1) (a2:=a2) (d2:=d2) (c2:=c2) (q:=q) (ps:=ps) (es:=es) hS.at_.file hS.at_.marks hS.at_.oI (aM Ae.O) (k:=t) hS.tq HN1.O
  unfold aE cU at key
  obtain⟨F,hF⟩:=aK (eS es t (1+(n2:Int)%5))
  rw[<-hF]at key
  obtain⟨f,hfe⟩:=aK F.length
  rw[<-hfe]at key
  have afQ:(f:Int)<=32:=by
   have h3:F.length<=es.length:=by
    rw[hF];unfold eS;rw[List.length_take]
    have:=List.length_filter_le (λ x:aG=>decide (t<x.s)) es
    omega
   have h4:es.length<=32:=hS.at_.oI.many
   omega
  have HF:=cj hF hfe
  have HR:=af lH
  have RF:=af hS
  have VU:=af key
  clear hS lH hL afb fG hlen key hF hfe HS
  go_wp2_with first
   |(refine bh 37 ?_)
   |(refine bh 43 ?_)
   |((with_reducible refine VU.O.mono ?_);rintro e w5 ⟨x5,k5,rfl,Uy,bJ⟩
     have RE:=af (RF.O.below bJ)
     have HR5:=af (bj.gX Uy iG bd)
     clear bJ Uy hf kL x21 x22)
   |fail
  go_loopw [60] (λ iv wv=>∃j:Nat,j<=f/\iv= .int .i64 (j:Int)/\Hid (∃m2,l9 wv (w2.heap.size+1) m2/\aeA m2/\∀x∈es,(x.s<=t\/x∈F.take j)->kvC x∈m2)/\Hid (gd (λ z=>z=w2.heap.size+1) w5 wv)) (λ iv _=>f - (intOf iv).toNat)
  case atStart=>exact⟨0,Nat.zero_le _,rfl,af ⟨m,RE.O.mp,RE.O.key, λ x hx hc=>RE.O.td x hx (hc.elim id λ h=>absurd h aR)⟩,af (gd.refl _ _)⟩
  case round=>
   obtain⟨j,hj,rfl,HMj,HOj⟩:=hrel
   obtain⟨m2,Qa,oN,fK⟩:=HMj.O
   by_cases bg:j<f
   ·as_aux_lemma=>
     obtain⟨y,hy⟩:∃y,F[j]? =some y:=⟨_,List.getElem?_eq_getElem (aM HF.O.2)⟩
     have JN:∃es c,w5.heap[w2.heap.size+1]? =some (.map es c):=by obtain⟨e1,c1,h1, -⟩:=RE.O.mp;exact⟨e1,c1,h1⟩
     have ax:=aeg HR5.O JN HOj.O
     obtain⟨B1,o1,RD⟩:=ax.some_ (by have:=(List.getElem?_eq_some_iff.1 hy).1;omega)
     rw[RD]at ax
     have Lu:=ax.get hy
     obtain⟨wx,oH⟩:=aK (wr.alloc (.cells (se y.s (aU y.id) y.g y.m y.del) 56))
     have ey:Below wr wr wx:=by rw[oH];go_grown
     have qz:wx.heap[wr.heap.size]? =some (.cells (se y.s (aU y.id) y.g y.m y.del) 56):=jJ oH
     have hMx:=Qa.below ey
     obtain⟨o,m3,hmu,zF,fY,qN,dF⟩:=afG hMx oN y
     obtain⟨wp,hwp⟩:=aK (wx.putObj (w2.heap.size+1) o)
     have hOp:gd (λ z=>z=w2.heap.size+1) w5 wp:=by rw[hwp];exact HOj.O.T ((gd.aA ey).T (aeD _ _ _))
     rw[<-hwp]at hmu zF
     have Yr:(j:Int)<(f:Int):=ag
     have HP:Hid (∃m2,l9 wp (w2.heap.size+1) m2/\aeA m2/\∀x∈es,(x.s<=t\/x∈F.take (j+1))->kvC x∈m2):=af ⟨m3,zF,fY,aeO RE.O.at_.oI.apart RE.O.at_.SZ (λ x hx=>by rw[HF.O.1]at hx;exact(FH x hx).1) hy fK qN dF⟩
     have HO:=af hOp
     obtain⟨-,k1, -, -, -⟩:=gF qz
     have hdx:=aj qz
     unfold eQ at Lu
     subst RD
     rw[oH]at k1 hmu hdx
     clear hy JN ax oH ey qz hMx zF fY qN dF hwp hOp Qa oN fK hj
     go_wp2_with first
      |(refine bh 56 ?_)
      |(refine et 56 ?_)
      |fail
     exact⟨⟨j+1,ag,by simp,HP,HO⟩,by simp[intOf];omega⟩
   ·obtain rfl:f=j:=ag
    obtain⟨w6,rfl⟩:=aK wr
    obtain⟨t',ht'⟩:∃t',t'=j5 t F:=⟨_,rfl⟩
    rw[<-ht']
    have aeV:TD es t' m2:=by
     rw[ht',HF.O.1]
     refine ae4 RE.O.at_.oI.oW HN1.O λ x hx hc=>fK x hx (hc.imp id λ h=>?_)
     rw[HF.O.2,List.take_length,HF.O.1];exact h
    have htq:t'<=q:=by rw[ht',HF.O.1];exact P3 (λ x hx=>(RE.O.at_.oI.ok x hx).le) RE.O.tq _
    have hS6:=RE.O.off HN.O.1 HOj.O Qa oN aeV htq
    have HS6:=af hS6
    have afb:w6.heap[w2.heap.size]? =some (.cells (uR b ps.length cf a1 d1 c1 a2 d2 c2 q la L lc) 46):=by rw[VJ.O];exact hS6.blk
    have afM:ad9 es t'+f=ad9 es t:=by
     rw[ht',HF.O.2,HF.O.1];exact aeN RE.O.at_.oI.oW t HN1.O
    by_cases vV:i<M
    ·as_aux_lemma=>
      obtain⟨y,hy⟩:∃y,l1[i]? =some y:=⟨_,List.getElem?_eq_getElem (aM HQ.O.2.1)⟩
      have ax:=HC.O.2.2.2.2.1
      have hy0:(l1.drop i)[0]? =some y:=by rw[List.getElem?_drop];exact hy
      obtain⟨B,o,RD⟩:=ax.some_ (by have:=(List.getElem?_eq_some_iff.1 hy0).1;omega)
      rw[RD]at ax
      have Dj:=ax.get hy0
      have fR:=ae5 ax HC.O.2.2.2.1
      have Uk:=HQ.O.2.2.2.2.2.2 y (List.mem_of_getElem? hy)
      have AY:l1.take (i+1)=l1.take i++[y]:=by rw[List.take_add_one,hy];rfl
      obtain⟨di,dg,dr,dn⟩:=y
      have Lu:w6.drew.rangeAt B o (oh di dg dr dn):=by
       have h3:=fQ Dj hS6.oJ.drew
       simpa[BB]using h3
      have iZ:=aj (show w6.drew.heap[w2.heap.size]? =_ from afb)
      have hdo:=PF (w:=w6.drew) (b:=b) (la:=la) (cf:=cf) (a1:=a1) (d1:=d1) (c1:=c1) (a2:=a2) (d2:=d2) (c2:=c2) (q:=q) (lc:=lc) (ps:=ps) (es:=es) (hS6.at_.below ((Below.refl _ w6).drew)) (hS6.row.below ((Below.refl _ w6).drew)) (aM Ae.O) (aM Ae.O) di Uk.id dg dr dn Uk.n1 Uk.n2
      rw[<-VJ.O]at hdo
      have HDO:=af hdo
      have MV:(0:Int)<(n:Int):=aM HC.O.1
      have dD:(1:Int)<=(n:Int):=ag
      have hnc:(n:Int)<=(c:Int):=aM HC.O.2.1
      have wK:r=i:=HC.O.2.2.2.2.2.1 vV
      have af4:(r:Int)<20:=aM HQ.O.1
      have HT:=cV AY fR wK
      subst RD
      clear hy hy0 ax Dj fR Uk AY hdo hS6 afb aeV htq ht' afM Qa oN fK HMj wK
      go_wp2_with fail
      refine Jq ?_
      refine bP 10 ?_
      refine tP [0,1,2,3] ?_
      iterate 4 (refine sh rfl aO ?_ ?_ ?_;rotate_left;·(first|(refine Pu 46 ?lf1 ?lf2 ?lf3 0 ?lf4 ?lf5 ?lf6 ?lf7 ?lf8 ?lf9 ?lfa;(case lf2=>rfl);(case lf4=>rfl);(case lf7=>assumption);(case lf8=>exact Tryz.underlying46);(case lf9=>rfl);(case lfa=>kernel_rfl))|(refine Pu 64 ?lc1 ?lc2 ?lc3 o ?lc4 ?lc5 ?lc6 ?lc7 ?lc8 ?lc9 ?lca;(case lc2=>rfl);(case lc4=>rfl);(case lc7=>assumption);(case lc8=>exact Tryz.underlying64);(case lc9=>rfl);(case lca=>kernel_rfl))|(go_simp<;>with_reducible rfl));try simp only[Act.put,bD,Yt])
      refine ah 6 rfl ?_
      refine sP 4 [0,1,2,3] λ K hK=>?_
      go_simp
      (with_reducible refine HDO.O.mono ?_);rintro e w7 ⟨b',qM,bL,bY,p1,e1,f1,p2,e2,f2,q',tM,qS,rfl,hT,hA7,hr7,mv⟩
      obtain⟨L',Xt⟩:∃L',L'=qS.length:=⟨_,rfl⟩
      rw[<-Xt]
      have HS7:=af (HS6.O.below (((Below.refl _ w6).drew).T mv))
      have X9:Hid (w7.heap[w2.heap.size]? =some (.cells (iI b ps.length cf a1 d1 c1 a2 d2 c2 q la L lc) 46)):=af (by rw[VJ.O];exact HS7.O.blk)
      have H7:=jo hT hA7 hr7 Xt
      clear hT hA7 hr7 Xt mv Lu iZ
      refine nP hK ?_
      clear hK K
      refine tP [5,6,7] ?_
      iterate 3 (refine sh rfl aO ?_ ?_ ?_;rotate_left;·(first|(refine Pu 46 ?lf1 ?lf2 ?lf3 0 ?lf4 ?lf5 ?lf6 ?lf7 ?lf8 ?lf9 ?lfa;(case lf2=>rfl);(case lf4=>rfl);(case lf7=>assumption);(case lf8=>exact Tryz.underlying46);(case lf9=>rfl);(case lfa=>kernel_rfl))|(refine Pu 64 ?lc1 ?lc2 ?lc3 o ?lc4 ?lc5 ?lc6 ?lc7 ?lc8 ?lc9 ?lca;(case lc2=>rfl);(case lc4=>rfl);(case lc7=>assumption);(case lc8=>exact Tryz.underlying64);(case lc9=>rfl);(case lca=>kernel_rfl))|(go_simp<;>with_reducible rfl));try simp only[Act.put,bD,Yt])
      refine ah 2 rfl ?_
      refine sP 8 [0,1,2,3,4,5,6] λ K hK=>?_
      refine lB ?_
      refine bI 46 _ _ rfl w2.heap.size 0 (iI b ps.length cf a1 d1 c1 a2 d2 c2 q la L lc) (iI b' bY.length bL p1 e1 f1 p2 e2 f2 q' qM L' tM) 46 rfl rfl X9.O aR aO (by simp[Value.oneCell']) (λ w8 g1 g2 g3=>?_)
      simp only[aF,bD,aD]at g1
      have H8:=cV g1 g2 (g3 w w HN.O.1 HS7.O.oJ)
      clear g1 g2 g3
      refine nP hK ?_
      clear hK K
      refine tP [9] ?_
      iterate 1 (refine sh rfl aO ?_ ?_ ?_;rotate_left;·(first|(refine Pu 46 ?lf1 ?lf2 ?lf3 0 ?lf4 ?lf5 ?lf6 ?lf7 ?lf8 ?lf9 ?lfa;(case lf2=>rfl);(case lf4=>rfl);(case lf7=>assumption);(case lf8=>exact Tryz.underlying46);(case lf9=>rfl);(case lfa=>kernel_rfl))|(refine Pu 64 ?lc1 ?lc2 ?lc3 o ?lc4 ?lc5 ?lc6 ?lc7 ?lc8 ?lc9 ?lca;(case lc2=>rfl);(case lc4=>rfl);(case lc7=>assumption);(case lc8=>exact Tryz.underlying64);(case lc9=>rfl);(case lca=>kernel_rfl))|(go_simp<;>with_reducible rfl));try simp only[Act.put,bD,Yt])
      refine ah 0 rfl ?_
      refine dP ?_
      go_simp
      go_wp2_with fail
      have HV:Hid (aey w w2.heap.size (l0.take 30++l1.take (i+1)) ⟨b',bL,bY,p1,e1,f1,p2,e2,f2,q',qS⟩ qM tM t' m2 w8):=af (by
       rw[HT.O.1,<-List.append_assoc]
       exact HS7.O.set (d:=⟨di,dg,dr,dn⟩) H7.O.2.1 H7.O.2.2.1 H7.O.1 (by have h3:=H8.O.1;rw[H7.O.2.2.2]at h3;exact h3) H8.O.2.1 H8.O.2.2)
      have hc9:=HC.O
      have wK:=HT.O.2.2
      have hm9:=HQ.O.1
      exact⟨⟨i+1,n - 1,c - 1,t',r+1,_,rfl,rfl,rfl,by simp,af ⟨ag,ag,ag,ag,HT.O.2.1, λ _=>ag,ag⟩,af ⟨_,qM,tM,m2,HV.O, λ _=>by
       have h3:=aeE qS t'
       have h4:qS.length<=32:=H7.O.2.1.oI.many
       show r+1+ad9 qS t'<=52
       omega⟩⟩,by simp[intOf];omega⟩
    ·have hiM:i=M:=aM HC.O.1
     obtain rfl:n=0:=aM HC.O.1
     have hrr:r+ad9 es t<=52:=HR.O hiM
     by_cases hf0:f=0
     ·as_aux_lemma=>
       have hfz:((f:Int)==0)=true:=bV
       have afU:=af (λ x (hx:x∈es)=>fK x hx (.inl (ae3 HN1.O (List.eq_nil_of_length_eq_zero (by rw[<-HF.O.1,<-HF.O.2];exact hf0)) x hx)))
       obtain⟨-, -, -,x22⟩:=ad6 afb
       have af5:(L:Int)<=32:=by
        have h4:es.length<=32:=HS6.O.at_.oI.many
        have:=VJ.O
        omega
       clear hS6 afb aeV htq ht' afM Qa oN fK HMj hf0 hrr
       go_wp2_with fail
       go_loopw [91] (λ iv wv=>∃j:Nat,j<=L/\iv= .int .i64 (j:Int)/\Hid (Below w6 w6 wv)) (λ iv _=>L - (intOf iv).toNat)
       case atStart=>exact⟨0,Nat.zero_le _,rfl,af (dp)⟩
       case round=>
        obtain⟨j,hj,rfl,hBj⟩:=hrel
        by_cases afD:j<L
        ·obtain⟨y,hy⟩:∃y,es[j]? =some y:=⟨_,List.getElem?_eq_getElem (aM VJ.O)⟩
         have ax:bj eQ 5 wr la es:=HS6.O.row.below hBj.O
         obtain⟨B1,o1,RD⟩:=ax.some_ (by have:=(List.getElem?_eq_some_iff.1 hy).1;omega)
         have Jt:=ax
         rw[RD]at Jt
         have Lu:=Jt.get hy
         obtain⟨wx,oH⟩:=aK (wr.alloc (.cells (se y.s (aU y.id) y.g y.m y.del) 56))
         have ey:Below wr wr wx:=by rw[oH];go_grown
         have qz:wx.heap[wr.heap.size]? =some (.cells (se y.s (aU y.id) y.g y.m y.del) 56):=jJ oH
         have Ye:=afy ((HS6.O.mp.below hBj.O).below ey) HS6.O.key (afU.O y (List.mem_of_getElem? hy))
         have Mh:= λ W=>SY (y.s:Int) (y.g:Int) (y.m:Int) (aU y.id) y.del W
         have mQ:=af (hBj.O.T (ey.mono hBj.O.size))
         have hjL:(j:Int)<(L:Int):=ag
         obtain⟨-,k1, -, -, -⟩:=gF qz
         have hdx:=aj qz
         unfold eQ at Lu
         subst RD
         rw[oH]at k1 Ye hdx mQ
         clear hy ax Jt oH ey qz hj
         go_wp2_with first
          |(refine bh 56 ?_)
          |(refine et 56 ?_)
          |fail
         exact⟨⟨j+1,ag,by simp,mQ⟩,by simp[intOf];omega⟩
        ·obtain rfl:L=j:=ag
         have HE:=af (HS6.O.oJ.T (hBj.O.mono HS6.O.oJ.size))
         go_wp2_with fail
         go_ret
         exact⟨rfl,HE.O⟩
     ·as_aux_lemma=>
       have hfz:((f:Int)==0)=false:=bV
       clear hS6 afb aeV htq ht' Qa oN fK HMj
       go_wp2_with fail
       have hc9:=HC.O
       exact⟨⟨i,0,c,t',r+1,a',rfl,rfl,rfl,by simp,af ⟨ag,ag,ag,ag,hc9.2.2.2.2.1, λ _=>ag,ag⟩,af ⟨_,la,lc,m2,HS6.O, λ _=>by
        show r+1+ad9 es t'<=52
        omega⟩⟩,by simp[intOf];omega⟩
end
section
open Go.ChangeShapes Go.WideShapes Go.ChangeAt Go.RowKit
namespace fMea
theorem laidOut:laidOutB Tryz.prog=true:=aO
theorem params7:Tryz.f6.params.toList=[33,33,5]:=aO
theorem P6(H:Type)(enc:TypeId×Value->H)(W:World)(base:Nat)(args:Array Value)(ds gs:List (DataW H))(before:List MemPlace)
 (Am:∀(j:Nat) t v,Tryz.f6.params[j]? =some t->args[j]? =some v->Value.okWide Tryz.prog W .any base t v)
 (hW:DataW.Whole enc Tryz.prog Tryz.f6.params.toList Rows.feedMeanwhileSpec.vars false W args.toList ds gs before)
 (jr:(DataW.weightsEach Tryz.prog (Tryz.f6.params.toList++(OpenSpec.ofChange Rows.feedMeanwhileSpec).bare.plain.varTypes Tryz.prog) (ds++gs)).all (·<=reachBytes)=true):
 Calls Tryz.prog 6 args W λ e W'=>∃v,e= .returned v/\Rows.feedMeanwhileSpec.post enc Tryz.prog Tryz.f6 false true false false W args v W':=by
 have hW':=hW
 have bg:= λ x hx=>hW.lt x hx
 obtain⟨p,q,hA0,hV,rfl,hfz,CV⟩:=hW
 have hA:DataW.TrodAll enc Tryz.prog W 0 (λ _=>true) true Tryz.f6.params.toList args.toList ds p:=hA0
 have acS:Tryz.f6.params=#[33,33,5]:=aO
 rw[params7]at hA jr
 rw[acS]at Am
 obtain⟨v0,vs0,d0,ds0,p0,q0,To,rfl,rfl,h0,r0⟩:=trodAll_cons hA
 obtain⟨v1,vs1,d1,ds1,p1,q1,abB,rfl,rfl,h1,r1⟩:=trodAll_cons r0
 obtain⟨v2,vs2,d2,ds2,p2,q2,abC,rfl,rfl,h2,r2⟩:=trodAll_cons r1
 obtain⟨rfl,rfl,rfl⟩:=trodAll_nil r2
 obtain rfl:args=#[v0,v1,v2]:=by cases args;simp_all
 obtain⟨rfl,rfl⟩:=trodVars_none hV
 obtain⟨n2,rfl,rfl,rfl,da⟩:=open_int Tryz.underlying5 (Am 2 _ v2 rfl rfl) h2
 obtain⟨a0,c0,l0,rfl,Tq,hc0,hd0,afa⟩:=II (Am 0 _ v0 rfl rfl) h0 (λ n hn=>by
  have:=List.all_eq_true.1 jr n (by
   simp only[List.cons_append,DataW.weightsEach]
   exact List.mem_append_left _ hn)
  simpa using this)
 obtain⟨a1,c1,l1,rfl,rh,F5,RH,afB⟩:=II (Am 1 _ v1 rfl rfl) h1 (λ n hn=>by
  have:=List.all_eq_true.1 jr n (by
   simp only[List.cons_append,DataW.weightsEach]
   exact List.mem_append_right _ (List.mem_append_left _ hn))
  simpa using this)
 clear hA0
 have h8:∀n:Int,(Lit.int .u8 n).wf=true->∃k:Nat,n=(k:Int):= λ n h=>by
  simp only[Lit.wf,Bool.and_eq_true,decide_eq_true_eq]at h
  have e1:IntKind.u8.min=0:=by decide
  exact Int.eq_ofNat_of_zero_le ag
 obtain⟨n2,rfl⟩:=h8 n2 da
 refine(ae6 Tq hc0 hd0 afa rh F5 RH afB n2).mono λ e W' ⟨he,hb⟩=>?_
 subst he
 have hsh:DataW.TrodAll enc Tryz.prog W' 0 (λ b=>decide (b<W.heap.size)) true Tryz.f6.params.toList [.slice a0 l0.length c0,.slice a1 l1.length c1,.int .u8 (n2:Int)] [d0,d1,.lit (.int .u8 (n2:Int))] (p0++(p1++([]++[]))):=by
  rw[params7]
  exact trodAll_cons_mk (Below.trod laidOut aO (of_decide_eq_true aO) h0 hb (λ x hx=>bg x (by simp[hx]))) (trodAll_cons_mk (Below.trod laidOut aO (of_decide_eq_true aO) h1 hb (λ x hx=>bg x (by simp[hx]))) (trodAll_cons_mk (shut_int Tryz.underlying5 da) trodAll_mk0))
 refine⟨_,rfl,MQ hW' (λ _ _ _=>trodAll_cons_mk (shut_bool Tryz.underlying4 _) trodAll_mk0) ?_ rfl hb⟩
 rw[show p0++(p1++([]++[]))++[]=p0++(p1++([]++[]))from List.append_nil _]
 exact hsh
end fMea
namespace fMea
noncomputable def J2:Array Value:=#[.slice none 0 0,.slice none 0 0,.int .u8 0]
theorem P7(os:Os):laidMet Tryz.prog Rows.feedMeanwhileRow.laid ((tR os).forCall (λ _ _=>0) ⟨#[],J2,[]⟩).memory:=
 laidMet_of_run' 8 aO aO
theorem reads(os:Os){H:Type}(enc:TypeId×Value->H):∃places,DataW.whole enc Tryz.prog ((tR os).forCall (λ _ _=>0) ⟨#[],J2,[]⟩).memory Tryz.f6.params.toList Rows.feedMeanwhileSpec.vars false J2.toList 8=some ([.nil,.nil,.lit (.int .u8 0)],[],places):=
 ⟨[],aO⟩
theorem lifted(os:Os)(started:os.Started)(H:Type)(enc:TypeId×Value->H)(F:Stop.Interp):
 ReturnsInHanded {} Tryz.checked os 6 .any ((OpenSpec.ofChange Rows.feedMeanwhileSpec).preRow enc Tryz.prog Tryz.f6 Rows.feedMeanwhileRow.domain false Rows.feedMeanwhileRow.laid) (((OpenSpec.ofChange Rows.feedMeanwhileSpec).at F).post enc Tryz.prog Tryz.f6 false true false false):=by
 obtain⟨places,hx⟩:=reads os enc
 refine returnsInHanded_of_row (C:=Tryz.checked) (s:=OpenSpec.ofChange Rows.feedMeanwhileSpec) own started aO Tryz.func6
  (witness_row_at (enc:=enc) (C:=Tryz.checked) false (tR os) J2 rfl aO aO aO
    (OpenSpec.preRow_of_cond 8 hx aO (λ k hk=>by cases hk) aO (P7 os))) ?_
 intro W base args ds gs before Am hW _ _ jr _ _ _
 exact P6 H enc W base args ds gs before Am hW jr
theorem aas:Tryz.pinned.checked.prog.funcNamed Rows.feedMeanwhileRow.func=some 6:=aO
theorem Tl:joinedFacts Tryz.pinned.checked.prog 6 Tryz.f6 (OpenSpec.ofChange Rows.feedMeanwhileSpec).bare Rows.feedMeanwhileRow=true:=aO
theorem aat:Tryz.f6.isInstance Tryz.pinned.checked.prog Rows.feedMeanwhileRow.origin Rows.feedMeanwhileRow.targs:=of_decide_eq_true aO
theorem aau:Tryz.f6.isWrapper Tryz.pinned.checked.prog Rows.feedMeanwhileRow.wrapper Rows.feedMeanwhileRow.mainSum:=by
 unfold Func.isWrapper;first|(rw[if_pos (by decide+kernel)];kernel_rfl)|(rw[if_neg (by decide+kernel)];exact⟨rfl,rfl⟩)
theorem said:Rows.FeedMeanwhileSaid:=
 OpenClaim.holds_of_cond 6 Tryz.f6 rfl rfl rfl rfl rfl rfl rfl ⟨rfl,rfl,rfl,rfl,rfl⟩ rfl rfl rfl rfl rfl aas Tryz.func6 Tl aat aau
  (λ os started H enc _ F=>by rw[OpenClaim.pre_eq_preRow];exact lifted os started H enc F)
theorem plain(f:FuncId)(fn:Func)(hf:Tryz.pinned.checked.prog.funcNamed "davenport/davenportlaw21.FeedMeanwhile" =some f)(Za:Tryz.pinned.checked.prog.funcs[f]? =some fn):
 true=Tryz.pinned.checked.prog.looks []/\∀(j:Nat) t,fn.params[j]? =some t->Tryz.pinned.checked.prog.wantsStandIn t=false:=by
 obtain rfl:f=6:=Option.some.inj ((show Tryz.prog.funcNamed "davenport/davenportlaw21.FeedMeanwhile" =some 6 by kernel_rfl).symm.T hf)|>.symm
 obtain rfl:fn=Tryz.f6:=(Option.some.inj (Tryz.func6.symm.T Za)).symm
 refine⟨aO, λ j t ht=>?_⟩
 rw[show Tryz.f6.params=#[33,33,5]by kernel_rfl]at ht
 have ht':t=33\/t=5:=by simpa using Array.mem_of_getElem? ht
 rcases ht' with rfl|rfl
 ·exact(show Tryz.prog.wantsStandIn 33=false by kernel_rfl)
 ·exact(show Tryz.prog.wantsStandIn 5=false by kernel_rfl)
theorem acT:Rows.FeedMeanwhileCardSaid:=
 Claim7.holds_tied_plain_at .later [] _ _ _ _ said (λ _ h=>by cases h) aO (λ _ h=>by cases h) feedMeanwhile_row_tie rfl ⟨rfl,rfl⟩ aO rfl plain aO
end fMea
theorem feedMeanwhile_holds:Rows.FeedMeanwhileCardSaid:=fMea.acT
#print axioms feedMeanwhile_holds
end
end Go.Proofs.YtkgapncajjafoaaGreatDoor

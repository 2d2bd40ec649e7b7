/- The store, part 3. -/
import Derived.Test.YtkgapncajjafoaaGreatDoorMAa
import Derived.Maps.AppendAt
import Derived.Test.YtkgapncajjafoaaGreatDoorMAb
import Derived.OwnWalk
import Derived.Laws.BytesArg
import Derived.Laws.ResultCell
import Derived.Laws.StructEq
import Derived.Lib.Bytealg
import Derived.Laws.Externs
import Derived.Lib.BytesEntry
set_option maxRecDepth 100000
set_option maxHeartbeats 16000000
namespace Go.Proofs.YtkgapncajjafoaaGreatDoor
open Go.RowKit Go.Shelf
variable{W W' w w0 w2:World}{n₀ k c e sz B j D n R d m:Nat}{a b:Option Addr}{xs ys:List Nat}{P:Program}{t ty:TypeId}{u a0 a1 a2 a3 a4 v0 v1 v2 v3 v4 a5 v5:Value}{cs ds:Array Value}{ps:List Piece}{r:Bool}
section
attribute [local go_sem] Oper.semAt_some
attribute [-go_sem] Builtin.append_
theorem _root_.Go.World.grownBy.T{a b c:World}{row:Option Nat}(h:a.grownBy b row)(k:b.grownBy c row):a.grownBy c row:=World.grownBy.trans h k
theorem ay{e:TypeId}{xs:List Value}(h:W.ownsRow n₀ e sz (.slice a k c) k xs):(a=none/\k=0/\c=0)\/∃g cur,a=some ⟨g,0,none⟩/\n₀<=g/\W.heap[g]? =some (.cells cur e (0,0)):=by
 rcases h.2 with⟨h,h2⟩|⟨g,cap,cur,h,hb,hg,_⟩
 ·cases h;exact .inl ⟨rfl,rfl,rfl⟩
 ·cases h;exact .inr ⟨g,cur,rfl,hb,hg⟩
theorem fM(t e:TypeId)(z:Value)(sz bytes:Nat)(ht:P.underlying t=some (.slice e))(ou:(P.info? e).map (λ i=>(i.zero,i.size,i.bytes))=some (some z,sz,bytes))(oO:z.cells.size=sz)(jr:0<sz){xs:List Value}(cells:Array Value)(ng:cells.size=sz)(h1:∀u∈cells.toList,u.oneCell'=true)(ax:W.ownsRow n₀ e sz (.slice a k c) k xs)(hk:k+1<=1048576)(eZ:bytes<=4096)(hn:n₀<=W.heap.size):
 ∃g' c' w',(Builtin.append_ #[t,t] t (jF a k c (zp W) 1 1)).run P (W.alloc (.cells cells e))= .ok (.slice (zp g') (k+1) c') w'/\
  w'.ownsRow n₀ e sz (.slice (zp g') (k+1) c') (k+1) (xs++cells.toList)/\Below n₀ W w'/\n₀<=g'/\W.grownBy w' (Value.slice a k c).ownBlock/\((Value.slice a k c).ownBlock=some g'\/W.heap.size<=g'):=by
 obtain⟨i0,hi,gQ,fq,mx⟩:=info_parts ou
 have Gz:=World.alloc_heap_new W (.cells cells e)
 have hmul:(k+1)*bytes<=1048576*4096:=Nat.mul_le_mul hk eZ
 obtain⟨v',w1,bt,cY,eB, -,ot⟩:=run_append_own_at (P:=P) (W.alloc (.cells cells e)) n₀ t t e i0 z sz bytes ht hi gQ fq mx oO jr _ _ xs (ax.alloc _)
  ⟨W.heap.size,0,none⟩ 1 1 cells.toList (by simp[ng]) (λ j u hj=>by
   have Vj:cells[j]? =some u:=by simpa using hj
   have:(⟨W.heap.size,0,none⟩:Addr).add j=⟨W.heap.size,j,none⟩:=by cases j<;>simp[Addr.add]
   rw[this,World.cell?_alloc_new];exact Vj) h1 (by simp[maxLen];omega) ag bV
 obtain⟨g',k',rfl⟩:=ownsRow_succ cY
 have hg:W.grownBy w1 (Value.slice a k c).ownBlock:=(World.grownBy_alloc W _ _).T eB
 refine⟨g',k',w1,bt,cY,?_,?_,hg,?_⟩
 ·refine(Below.refl n₀ W).grown hg hn λ j ej=>?_
  rcases ay ax with⟨rfl,_⟩|⟨g,cur,rfl,hb,_⟩
  ·simp[Value.ownBlock]at ej
  ·obtain rfl:g=j:=by simpa[Value.ownBlock]using ej
   exact hb
 ·rcases cY.2 with⟨h,_⟩|⟨g2,cap,cur,h,hb,_⟩
  ·cases h
  ·cases h;exact hb
 ·rcases ot with h|h
  ·left;rw[<-h];rfl
  ·right
   have:g'=W.heap.size+1:=by simpa[Value.ownBlock]using h
   omega
theorem ud(h:Boxed W B t (.slice a k c)):rowOf B W=(Value.slice a k c).ownBlock:=by
 cases a with
 |none=>rw[mF h];rfl
 |some a=>rw[gH h];rfl
theorem gI{e u:TypeId}{xs:List Value}{fz:Nat×Nat}(hb:Boxed W B t (.slice a k c))(ax:W.ownsRow n₀ e sz (.slice a k c) k xs)(hj:W.heap[j]? =some (.cells cs u fz))(hu:u≠e):rowOf B W≠some j:=by
 rw[ud hb]
 intro h
 rcases ay ax with⟨rfl,_⟩|⟨g,cur,rfl,_,hg⟩
 ·cases h
 ·obtain rfl:g=j:=by simpa[Value.ownBlock]using h
  rw[hg]at hj;cases hj;exact hu rfl
theorem rb(t e:TypeId)(z:Value)(sz bytes:Nat)(ht:P.underlying t=some (.slice e))(ou:(P.info? e).map (λ i=>(i.zero,i.size,i.bytes))=some (some z,sz,bytes))(oO:z.cells.size=sz)(jr:0<sz)(zQ:t≠e){xs:List Value}(cells:Array Value)(ng:cells.size=sz)(h1:∀u∈cells.toList,u.oneCell'=true)(hb:Boxed W B t (.slice a k c))(ax:W.ownsRow n₀ e sz (.slice a k c) k xs)(hk:k+1<=1048576)(eZ:bytes<=4096)(hn:n₀<=W.heap.size)(hB:n₀<=B)(X:Nat->Prop):
 ∃g' c' w',(Builtin.append_ #[t,t] t (jF a k c (zp W) 1 1)).run P (W.alloc (.cells cells e))= .ok (.slice (zp g') (k+1) c') w'/\
  w'.cell? (za B 0)=some (.slice a k c)/\w'.frozen? ⟨B,0,none⟩=false/\
  Boxed (w'.setCell (za B 0) (.slice (zp g') (k+1) c')) B t (.slice (zp g') (k+1) c')/\
  (w'.setCell (za B 0) (.slice (zp g') (k+1) c')).ownsRow n₀ e sz (.slice (zp g') (k+1) c') (k+1) (xs++cells.toList)/\
  Lets n₀ X B W (w'.setCell (za B 0) (.slice (zp g') (k+1) c'))/\KeepsOthers W (w'.setCell (za B 0) (.slice (zp g') (k+1) c'))/\
  (∀j,j<W.heap.size->j≠B->rowOf B W≠some j->w'.heap[j]? =W.heap[j]? /\(w'.setCell (za B 0) (.slice (zp g') (k+1) c')).heap[j]? =W.heap[j]?):=by
 obtain⟨g',c',w',bt,eW,ua,mg,eB,ot⟩:=fM t e z sz bytes ht ou oO jr cells ng h1 ax hk eZ hn
 have hnr:some B≠(Value.slice a k c).ownBlock:=Boxed.not_row hb zQ ax
 have gu:Boxed w' B t (.slice a k c):=hb.kept eB hnr
 have aC:Boxed (w'.setCell (za B 0) (.slice (zp g') (k+1) c')) B t (.slice (zp g') (k+1) c'):=gu.set _
 have rX:=ud hb
 have DE:g'<w'.heap.size:=by
  rcases ay eW with⟨h,_⟩|⟨g,cur,h,_,hg⟩
  ·cases h
  ·cases h;exact(aX hg).1
 have DF:∀j,j≠B->(w'.setCell (za B 0) (.slice (zp g') (k+1) c')).heap[j]? =w'.heap[j]? := λ j hj=>Below.heap_setCell w' ⟨B,0,none⟩ _ j hj
 have dF:∀j,j<W.heap.size->rowOf B W≠some j->w'.heap[j]? =W.heap[j]? := λ j hj hr=>eB.block j hj (λ e=>hr (rX.T e.symm))
 refine⟨g',c',w',bt,gu.cell,gu.frozen,aC,eW.kept (grownBy_setCell' w' B _) (.inr (Boxed.not_row gu zQ eW).symm),⟨ua.setCell hB _,?_,?_,?_⟩,?_, λ j hj Zf hr=>⟨dF j hj hr,(DF j Zf).T (dF j hj hr)⟩⟩
 ·intro j cs u fz hj _ Zf hr
  exact((DF j Zf).T (dF j (aX hj).1 hr)).T hj
 ·intro j hj
  rw[gH aC]at hj
  obtain rfl:g'=j:=by simpa using hj
  rw[rX]
  exact ot
 ·intro _ j hj
  rw[gH aC]at hj
  obtain rfl:g'=j:=by simpa using hj
  simpa[World.setCell]using DE
 ·refine(KeepsOthers.of_grownBy eB λ j o ej hj=>?_).T (KeepsOthers.setCell _ _ _)
  rcases ay ax with⟨rfl,_⟩|⟨g,cur,rfl,_,hg⟩
  ·simp[Value.ownBlock]at ej
  ·obtain rfl:g=j:=by simpa[Value.ownBlock]using ej
   rw[hg]at hj;cases hj;rfl
theorem dx{xs:List Value}(h:W.ownsRow n₀ e sz (.slice a k c) k xs)(hk:∀g,a=some ⟨g,0,none⟩->W'.heap[g]? =W.heap[g]?):W'.ownsRow n₀ e sz (.slice a k c) k xs:=by
 refine⟨h.1,?_⟩
 rcases h.2 with h2|⟨g,cap,cur,hv,hb,hg,r⟩
 ·exact .inl h2
 ·refine .inr ⟨g,cap,cur,hv,hb,?_,r⟩
  cases hv
  exact(hk g rfl).T hg
theorem sl{M:Nat->Prop}{xs:List Value}(h:W.ownsRow n₀ e sz (.slice a k c) k xs)(hk:dz D M W W')(hM:∀g,n₀<=g->¬ M g):W'.ownsRow n₀ e sz (.slice a k c) k xs:=
 dx h λ g hg=>by
  rcases ay h with⟨h1,_⟩|⟨g2,cur,h1,hb,eU⟩
  ·rw[hg]at h1;cases h1
  ·rw[hg]at h1;cases h1
   exact(hk.bT _ _ eU (.inr rfl) (hM _ hb)).T eU.symm
theorem fW{M:Nat->Prop}{v:Value}(h:Boxed W B t v)(hk:dz D M W W')(hM:¬ M B):Boxed W' B t v:=hk.bT _ _ h (.inr rfl) hM
theorem gJ{M:Nat->Prop}(h:Below n₀ w W)(hk:dz D M W W')(hn:n₀<=D)(hM:∀k,k<n₀->¬ M k)(hw:n₀<=w.heap.size):Below n₀ w W':=by
 refine⟨hk.os.T h.os,hk.tape.T h.tape,hk.output.T h.output,Nat.le_trans h.size hk.size, λ k zy=>?_⟩
 have bg:k<W.heap.size:=Nat.lt_of_lt_of_le zy (Nat.le_trans hw h.size)
 have e:=Array.getElem?_eq_getElem bg
 exact((hk.bT k _ e (.inl ag) (hM k zy)).T e.symm).T (h.block k zy)
theorem lK{X:Nat->Prop}(hB:B<w.heap.size)(hn:n₀<=w.heap.size)(W:World)(l:Nat)(o o':Obj)(hl:w.heap.size<=l)(h:W.heap[l]? =some o)(ho:o.isCells=false):Lets n₀ X B W (W.putObj l o'):=Lets.putObj W l o o' h ho ag ag
theorem lL(t e:TypeId)(z:Value)(sz bytes:Nat)(ht:P.underlying t=some (.slice e))(ou:(P.info? e).map (λ i=>(i.zero,i.size,i.bytes))=some (some z,sz,bytes))(oO:z.cells.size=sz)(b:Option Addr)(k:Nat)(ue:List Value)(zS:ue.length=k*sz)(hb:(b=none/\k=0)\/∃a:Addr,b=some a/\∀j v,ue[j]? =some v->W.cell? (a.add j)=some v)
 (ad:Addr)(m c:Nat)(news:List Value)(hl:news.length=m*sz)(TA:∀j v,news[j]? =some v->W.cell? (ad.add j)=some v)(hm:0<m)(hk:k+m<=1048576)(eZ:bytes<=4096):
 ∃cap w',(Builtin.append_ #[t,t] t (jF b k k (some ad) m c)).run P W= .ok (.slice (zp W) (k+m) cap) w'/\k+m<=cap/\
  w'.ownsRow W e sz (.slice (zp W) (k+m) cap) (k+m) (ue++news)/\Below W W w':=by
 obtain⟨i,hi,gQ,fq,mx⟩:=info_parts ou
 subst fq
 have hmul:(k+m)*bytes<=1048576*4096:=Nat.mul_le_mul hk eZ
 have hx:(k+m:Nat)<=maxLen:=by simp only[maxLen];omega
 have hlen:(ue++news).length=(k+m)*i.size:=by rw[List.length_append,zS,hl,Nat.add_mul]
 have grown:∀(Zg:Nat),(W.drew.alloc (.cells (ue.toArray++news.toArray++Builtin.zeroCells z.cells (grownCap W (k+m) Zg e - (k+m))) e)).ownsRow W e i.size
  (.slice (zp W) (k+m) (grownCap W (k+m) Zg e)) (k+m) (ue++news):=by
  intro Zg
  have F6:=grownCap_ge W (k+m) Zg e
  have Zh:=grownCap_le_maxLen W (k+m) Zg e hx
  refine⟨hlen,.inr ⟨W.heap.size,_,_,rfl,aW,heap_alloc_new W.drew _,F6,Zh,?_,?_⟩⟩
  ·simp only[Array.size_append,List.size_toArray,size_zeroCells,oO,zS,hl,<-Nat.add_mul]
   congr 1
   omega
  ·simp only[Array.toList_append,List.append_assoc]
   rw[<-List.append_assoc,<-hlen]
   exact List.take_left
 have ua:∀o,Below W W (W.drew.alloc o):= λ o=>((Below.refl _ W).drew).alloc (aW) o
 rcases hb with⟨rfl,rfl⟩|⟨a,rfl,ha⟩
 ·have ho:ue=[]:=List.eq_nil_of_length_eq_zero (by simpa using zS)
  subst ho
  have hr:=run_append_nil (P:=P) W t t e i z ht hi gQ ad m c news hl TA hm ag (by rw[mx];have:=hmul;rw[Nat.zero_add]at this;omega)
  have XO:=grown 0
  simp only[Nat.zero_add,List.nil_append,Array.empty_append]at XO⊢
  exact⟨_,_,hr,grownCap_ge W m 0 e,XO,ua _⟩
 ·have hr:=run_append_grow (P:=P) W t t e i z ht hi gQ a k k ue zS ha ad m c news hl TA ag ag (growslice_fits ag (by rw[mx];omega))
  exact⟨_,_,hr,grownCap_ge W (k+m) k e,grown k,ua _⟩
def aU(xs:List Nat):ByteArray:=⟨(xs.map UInt8.ofNat).toArray⟩
theorem cy(h:ai W a xs)(hl:xs.length=k):(convert 34 9 (.slice a k c)).run Tryz.prog W= .ok (.string (aU xs)) W:=by
 rw[run_convert_bytes_string W _ _ 5 _ k c aO aO aO]
 cases a with
 |none=>
  rcases h.2 with h0|⟨B,o,h1,_⟩
  ·subst h0;simp[Conv.bytesToString,aU];rfl
  ·cases h1
 |some p=>
  have hc:(loadCells p k).run Tryz.prog W= .ok ((xs.map Int.ofNat).map (Value.int .u8)).toArray W:=by
   have:=run_loadCells_list (P:=Tryz.prog) W p ((xs.map Int.ofNat).map (Value.int .u8)) (λ j v hj=>by
    obtain⟨x,hx,rfl⟩:∃x,xs[j]? =some x/\Value.int .u8 (Int.ofNat x)=v:=by simpa using hj
    rcases h.2 with h0|⟨B,o,h1,h2⟩
    ·rw[h0]at hx;cases hx
    ·cases h1
     have e:(⟨B,o,none⟩:Addr).add j=⟨B,o+j,none⟩:=by unfold Addr.add;split<;>simp_all
     rw[e,h2 j x hx];rfl)
   simpa[hl]using this
  rw[run_bytesToString W p k c _ hc,foldl_push_bytes]
  simp[aU,ByteArray.empty,ByteArray.emptyWithCapacity]
  show[]++_=_
  rw[List.nil_append]
  exact List.map_congr_left λ x _=>rfl
theorem ai.drop{W:World}{B o:Nat}{xs:List Nat}(h:ai W (some ⟨B,o,none⟩) xs)(n:Nat):ai W (some ⟨B,o+n,none⟩) (xs.drop n):=by
 refine⟨λ x hx=>h.1 x (List.mem_of_mem_drop hx),?_⟩
 rcases h.2 with h0|⟨B',o',h1,h2⟩
 ·exact .inl (by rw[h0];simp)
 ·cases h1
  exact .inr ⟨B,o+n,rfl, λ j x hx=>by rw[List.getElem?_drop]at hx;rw[Nat.add_assoc];exact h2 _ _ hx⟩
theorem ai.take{W:World}{a:Option Addr}{xs:List Nat}(h:ai W a xs)(n:Nat):ai W a (xs.take n):=by
 refine⟨λ x hx=>h.1 x (List.mem_of_mem_take hx),?_⟩
 rcases h.2 with h0|⟨B',o',h1,h2⟩
 ·exact .inl (by rw[h0];simp)
 ·exact .inr ⟨B',o',h1, λ j x hx=>by
   rw[List.getElem?_take]at hx
   split at hx
   ·exact h2 _ _ hx
   ·cases hx⟩
theorem ad0{c:Code}{K:Act->World->Prop}{Q:Exit->Act->World->Prop}{a:Act}(h:c.wp P (Exit.then K (λ _ _ _=>False)) a w):c.wp P (Exit.then K Q) a w:=
 wp_mono h λ e _ _ h=>by cases e<;>first|exact h|exact h.elim
theorem Rj(p:List Nat)(h:p.length<=4096):(eV p)[0]? =some (p.length/256)/\(eV p)[1]? =some (p.length%256):=by
 constructor
 ·show some (p.length/256%256)=_;congr 1;omega
 ·rfl
theorem Lets.drew{n₀:Nat}{X:Nat->Prop}{B:Nat}{W W':World}(h:Lets n₀ X B W W'):Lets n₀ X B W W'.drew:=⟨h.below.drew,h.bT,h.row,h.lt⟩
theorem xu(h:KeepsFrom D W W'):KeepsFrom D W W'.drew:=⟨h.size,h.same⟩
theorem kr{M:Nat->Prop}(h:ai W a xs)(hk:dz D M W W')(hM:∀p,a=some p->¬ M p.block):ai W' a xs:=by
 refine⟨h.1,?_⟩
 rcases h.2 with h0|⟨C,o,ha,hc⟩
 ·exact .inl h0
 ·exact .inr ⟨C,o,ha, λ j x hx=>hk.cell (p:=(za C (o+j))) (hc j x hx) (by have:=hM ⟨C,o,none⟩ ha;exact this)⟩
theorem eG(h:Below n₀ w W){l:Nat}{o:Obj}(o':Obj)(hl:W.heap[l]? =some o)(hn:n₀<=l):Below n₀ w (W.putObj l o'):=
 h.grown (grownBy_putObj' W l o') (by have:=(aX hl).1;omega) (λ k e=>by cases e;exact hn)
theorem jy{v:Value}(h:Boxed W B t v)(hk:B≠k):Boxed (W.setCell (za k 0) u) B t v:=h.kept (grownBy_setCell' W k u) (λ e=>hk (Option.some.inj e))
theorem pU{v:Value}{xs:List Value}(h:W.ownsRow n₀ e sz (.slice a j c) j xs)(hk:Boxed W k t u)(zQ:t≠e):(W.setCell (za k 0) v).ownsRow n₀ e sz (.slice a j c) j xs:=h.kept (grownBy_setCell' W k v) (.inr (Boxed.not_row hk zQ h).symm)
def jU(n k:Nat):Nat:=if k<6 then 6 else 6+n
theorem AI{q:Nat}(h:¬ q=5):jU n (q+1)=jU n q:=by unfold jU;by_cases h1:q<5<;>simp[show(q+1<6)↔q<5 by omega,show(q<6)↔q<5 by omega,h1]
theorem B6(h:au w b c ps)(hm:Marks (al ps))(at_:Nat)(p:List Nat)(hr:dO (al ps) at_ p):
 Calls Tryz.prog 105 #[aE b ps.length c,.int .i64 (at_:Int)] w λ e w'=>∃a k z,e= .returned (.tuple #[.slice a p.length k,.int .i64 z,.int .i64 0])/\p.length<=k/\cx w a/\ai w' a p/\Below w w w':=by
 have HF:=af h
 have HM:=af hm
 have HR:=af hr
 have h1:= λ (w2:World) (hb:Below w w w2)=>gg (h.below hb)
 have H1:=af h1
 unfold aE at*
 have H0:Hid (Below w w (w.alloc (.cells (cK b ps.length c) 37))):=af (by go_grown)
 clear h hm hr h1
 refine(callsIn_wide (n:=5)).1 ?_
 refine callsIn_of_wp_marks Tryz.func105 rfl trivial ?_ rfl
 simp only[Tryz.ntmps105,zEn,Nat.reduceAdd,Nat.reduceSub]
 refine wpIn_wide.2 ?_
 go_wp2
 go_step3
 go_wp2_with first
  |(with_reducible refine(H1.O _ H0.O).mono ?_;rintro e w2 ⟨rfl,aC⟩;have H3:=af (H0.O.T (aC.mono H0.O.size));obtain⟨c0,c1,c2,c3,c4⟩:=xc aC;clear aC)
  |fail
 obtain⟨w5,eT⟩:=aK (((w2.alloc (.cells oS 34)).alloc (.cells #[.int .i64 6] 3)).alloc (.cells mc 3))
 rw[<-eT]
 obtain⟨B,hB⟩:=aK w2.heap.size
 have s5:w5.heap.size=B+1+1+1:=by rw[eT,hB];simp
 have b8:Boxed w5 B 34 (.slice none 0 0):=by rw[eT,hB];exact((Boxed.new w2 _ _).alloc _).alloc _
 have b9:Boxed w5 (B+1) 3 (.int .i64 6):=by
  have:=(Boxed.new (w2.alloc (.cells oS 34)) 3 (.int .i64 6)).alloc (.cells mc 3)
  rw[eT,hB];rwa [World.size_alloc]at this
 have Zi:Boxed w5 (B+1+1) 3 (.int .i64 0):=by
  have:=Boxed.new ((w2.alloc (.cells oS 34)).alloc (.cells #[.int .i64 6] 3)) 3 (.int .i64 0)
  rw[eT,hB];rwa [World.size_alloc,World.size_alloc]at this
 have B5:Below w2 w2 w5:=by rw[eT];exact(((Below.refl _ w2).alloc (aW) _).alloc aR _).alloc bV _
 replace c0:=carry B5 c0
 replace c1:=carry B5 c1
 replace c2:=carry B5 c2
 replace c3:=carry B5 c3
 replace c4:=carry B5 c4
 have H5:=af (H3.O.T (B5.mono H3.O.size))
 have Rk:w.heap.size<=B:=by rw[hB];exact H3.O.size
 have Hb:=cV b8 b9 Zi
 rw[<-hB]
 clear eT b8 b9 Zi B5 hB H3
 go_step3
 go_wp2_with first
  |(refine(Gw b ps.length c at_ _).mono ?_;rintro e w6 ⟨rfl,rfl⟩)
  |fail
 obtain⟨w6,zX⟩:=aK ((w5.alloc (.cells (cK b ps.length c) 37)).alloc (.cells (Au at_) 3))
 rw[<-zX]
 have s6:w6.heap.size=B+1+1+1+1+1:=by rw[zX];simp[s5]
 have Y3:Below w5 w5 w6:=by rw[zX];exact((Below.refl _ w5).alloc (aW) _).alloc aR _
 obtain⟨b8,b9,Zi⟩:Boxed w6 B 34 (.slice none 0 0)/\Boxed w6 (B+1) 3 (.int .i64 6)/\Boxed w6 (B+1+1) 3 (.int .i64 0):=by
  rw[zX];exact⟨(Hb.O.1.alloc _).alloc _,(Hb.O.2.1.alloc _).alloc _,(Hb.O.2.2.alloc _).alloc _⟩
 have H6:=af (H5.O.T (Y3.mono H5.O.size))
 have Qh:rowOf B w6=none:=mF b8
 have mf:=DB HF.O HM.O at_ HR.O.xq HR.O.lt (λ k=>k=B+1\/k=B+1+1) B (B+1+1+1) (B+1+1+1+1) w6 H6.O
  (by rw[zX,<-s5];exact(Below.heap_alloc _ _ _ aR).T (World.alloc_heap_new w5 _))
  (by rw[zX,<-s5];have:=World.alloc_heap_new (w5.alloc (.cells (cK b ps.length c) 37)) (.cells (Au at_) 3);rwa [World.size_alloc]at this)
  ⟨ag,ag,by rw[Qh];simp⟩ ⟨ag,ag,by rw[Qh];simp⟩ (λ k hk=>ag) ag (λ k hk=>by rw[Qh]at hk;cases hk)
 obtain⟨n,hn⟩:=aK p.length
 obtain⟨bs,Zj⟩:=aK (eV p)
 have zY:bs.length=6+n:=by rw[Zj,hn,mE]
 have dD:1<=n:=by rw[hn];exact HR.O.1
 have fu:n<=4096:=by rw[hn];exact HR.O.2.1
 obtain⟨gQ,fq⟩:=Rj p HR.O.2.1
 rw[<-Zj,<-hn]at gQ fq
 obtain⟨more,Nj⟩:=HR.O.behind
 rw[<-Zj]at Nj
 have HMO:=af Nj
 have F7:=af Zj
 have HN:=af hn
 have HZ:=cj gQ fq
 have Hb6:=cV b8 b9 Zi
 have hD:B+1+1+1+1+1=w6.heap.size:=s6.symm
 clear Nj Zj hn gQ fq b8 b9 Zi zX Y3 s5
 refine(wpIn_wide (n:=5)).1 ?_
 refine Rg (n:=5) 11 12 ag rfl (enters_of Tryz.func170 aO rfl) mf Lets.T (lK ag ag) (λ _ h=>h.elim)
  (λ pre W=>(∃a k,Boxed W B 34 (.slice a pre.length k)/\W.ownsRow w 5 1 (.slice a pre.length k) pre.length (aB (pre.map Prod.snd)))/\Boxed W (B+1) 3 (.int .i64 (jU n pre.length:Int))/\(∃z,Boxed W (B+1+1) 3 (.int .i64 z))/\Below w w W/\pre.length<6+n)
  (λ cd pre W=>cd= .exit 0/\pre.length=6+n/\(∃a k,Boxed W B 34 (.slice a pre.length k)/\W.ownsRow w 5 1 (.slice a pre.length k) pre.length (aB (pre.map Prod.snd)))/\Boxed W (B+1) 3 (.int .i64 (jU n pre.length:Int))/\(∃z,Boxed W (B+1+1) 3 (.int .i64 z))/\Below w w W)
  ?hI ?hIx (λ _ _ _ _ _ _ _ h=>h) ?h0 ?assign ?body ?done ?stop
 case hI=>
  rintro pre U V ⟨⟨a,k,h1,h2⟩,h3,⟨z,h4⟩,h5,h6⟩ hk
  exact⟨⟨a,k,fW h1 hk id,sl h2 hk (λ _ _ h=>h)⟩,fW h3 hk id,⟨z,fW h4 hk id⟩,gJ h5 hk ag (λ _ _ h=>h) (aW),h6⟩
 case hIx=>
  rintro cd pre U V ⟨h0,h6,⟨a,k,h1,h2⟩,h3,⟨z,h4⟩,h5⟩ hk
  exact⟨h0,h6,⟨a,k,fW h1 hk id,sl h2 hk (λ _ _ h=>h)⟩,fW h3 hk id,⟨z,fW h4 hk id⟩,gJ h5 hk ag (λ _ _ h=>h) (aW)⟩
 case h0=>exact⟨⟨none,0,Hb6.O.1,by simp[aB],.inl ⟨rfl,rfl⟩⟩,by simpa[jU]using Hb6.O.2.1,⟨0,Hb6.O.2.2⟩,H6.O,by simp;omega⟩
 case assign=>
  intro l x W K hK
  gi_wp2
  exact hK
 case body=>
  rintro l pre x W ⟨⟨a,k,h1,h2⟩,h3,⟨z,h4⟩,h5,h6⟩ gj
  obtain⟨q,hq⟩:=aK pre.length
  have DG:bs.take (q+1)=(pre++[x]).map Prod.snd:=by
   obtain⟨r,hr⟩:=gj
   have e:=congrArg (List.map Prod.snd) hr
   rw[HMO.O,List.map_append]at e
   have e2:=congrArg (List.take (q+1)) e
   rw[List.take_append_of_le_length (by simp[hq]),List.take_append_of_le_length ag,List.take_of_length_le (by simp[hq])]at e2
   exact e2.symm
  have hxq:bs[q]? =some x.2:=by
   have e3:(bs.take (q+1))[q]? =some x.2:=by rw[DG,List.map_append,List.getElem?_append_right (by simp[hq])];simp[hq]
   rwa [List.getElem?_take,if_pos ag]at e3
  have iN:aB (pre.map Prod.snd)++[Value.int .u8 (x.2:Int)]=aB ((pre++[x]).map Prod.snd):=by simp[aB]
  obtain⟨g',c',w1,bt,f1,f2,ey,ax,gk,Mj,dF⟩:=rb (P:=Tryz.prog) 34 5 (.int .u8 0) 1 1 aO Tryz.nu rfl bd bd (J3 x.2) rfl (by simp[Value.oneCell']) h1 h2 ag ag h5.size Rk (λ k=>k=B+1\/k=B+1+1)
  have hr9:=gI h1 h2 h3 bd
  have Rl:=gI h1 h2 h4 bd
  obtain⟨j9,k9⟩:=dF (B+1) h3.lt ag hr9
  obtain⟨Zk,Kn⟩:=dF (B+1+1) h4.lt ag Rl
  have h3':=k9.T h3
  have Vk:=Kn.T h4
  have m1:=h1.cell
  have m10:(w1.setCell (za B 0) (.slice (zp g') (pre.length+1) c')).cell? (za (B+1+1) 0)=some (.int .i64 z):=Boxed.cell Vk
  have m11:(w1.setCell (za B 0) (.slice (zp g') (pre.length+1) c')).frozen? ⟨B+1+1,0,none⟩=false:=Boxed.frozen Vk
  obtain⟨z',hz'⟩:∃z',z'=wrap64 ((x.1:Int)+1):=⟨_,rfl⟩
  obtain⟨w3,cL⟩:=aK ((w1.setCell (za B 0) (.slice (zp g') (pre.length+1) c')).setCell (za (B+1+1) 0) (.int .i64 z'))
  have aL:Boxed w3 B 34 (.slice (zp g') (pre.length+1) c'):=by rw[cL];exact jy ey ag
  have kO:w3.ownsRow w 5 1 (.slice (zp g') (pre.length+1) c') (pre.length+1) (aB ((pre++[x]).map Prod.snd)):=by
   rw[cL,<-iN];exact pU ax Vk bd
  have re:Boxed w3 (B+1) 3 (.int .i64 (jU n pre.length:Int)):=by rw[cL];exact jy h3' ag
  have qG:Boxed w3 (B+1+1) 3 (.int .i64 z'):=by rw[cL];exact Boxed.set _ Vk
  have jx:Lets w (λ k=>k=B+1\/k=B+1+1) B W w3:=by rw[cL];exact gk.T (Lets.setCell _ _ _ (.inr rfl) (by show B≠B+1+1;omega) (by show w.heap.size<=B+1+1;omega))
  have fY:KeepsOthers W w3:=by rw[cL];exact Mj.T (KeepsOthers.setCell _ _ _)
  have hlen:(pre++[x]).length=q+1:=by simp[hq]
  rw[<-hq]at aL kO re cL bt m1 m10 m11
  have n9:w1.cell? (za (B+1) 0)=some (.int .i64 (jU n q:Int)):=Boxed.cell (show Boxed w1 (B+1) 3 _ from hq▸j9.T h3)
  have n9f:w1.frozen? ⟨B+1,0,none⟩=false:=Boxed.frozen (show Boxed w1 (B+1) 3 _ from j9.T h3)
  have n10:w1.cell? (za (B+1+1) 0)=some (.int .i64 z):=Boxed.cell (show Boxed w1 (B+1+1) 3 _ from Zk.T h4)
  have ada:w1.frozen? ⟨B+1+1,0,none⟩=false:=Boxed.frozen (show Boxed w1 (B+1+1) 3 _ from Zk.T h4)
  have mL:=af cL
  have HZ':=af hz'
  have HQ:=af hq
  have H3s:=J6 aL kO re qG jx fY hlen
  have H5':=af h5
  by_cases Vl:q=5
  ·have h6b:((q:Int)+1==6)=true:=by rw[Vl];rfl
   obtain⟨gQ,fq⟩:=HZ.O
   have Vm:=kO
   have my:=(cm (xs:=(pre++[x]).map Prod.snd) (by rw[<-hlen,<-List.length_map (f:=Prod.snd)]at Vm;exact Vm) (λ y hy=>by
    have h9:=HR.O.2.2.1
    have:y∈bs:=by rw[<-DG]at hy;exact List.mem_of_mem_take hy
    rw[F7.O]at this
    simp only[eV,wL,Mi,List.mem_append,List.mem_cons,List.not_mem_nil,or_false]at this
    rcases this with(h|h)|h
    ·omega
    ·omega
    ·exact h9 y h)).1
   rw[<-DG]at my
   have r0:w3.cell? (za g' 0)=some (.int .u8 ((n/256:Nat):Int)):=by
    rcases my.2 with h|⟨B',o',e,hc⟩
    ·have:=congrArg List.length h;simp[zY]at this
    ·cases e;have:=hc 0 (n/256) (by rw[List.getElem?_take,if_pos ag];exact gQ);exact this
   have r1:w3.cell? (za g' 1)=some (.int .u8 ((n%256:Nat):Int)):=by
    rcases my.2 with h|⟨B',o',e,hc⟩
    ·have:=congrArg List.length h;simp[zY]at this
    ·cases e;have:=hc 1 (n%256) (by rw[List.getElem?_take,if_pos ag];exact fq);exact this
   have r2:=re.cell
   have r3:=re.frozen
   have r4:=aL.cell
   obtain⟨u,hu⟩:=aK (n/256)
   obtain⟨v,hv⟩:=aK (n%256)
   rw[<-hu]at r0
   rw[<-hv]at r1
   have adb:u<=16:=ag
   have acU:v<256:=ag
   have dm:6+(u:Int)*256+(v:Int)=6+(n:Int):=ag
   have fZ:6+(n:Int) - 6=(n:Int):=ag
   have hwb:((q:Int)+1==6+(n:Int))=false:=bV
   have p4:∀y,(w3.setCell (za (B+1) 0) y).cell? (za B 0)=some (.slice (zp g') (q+1) c'):= λ y=>(jy aL ag).cell
   have Vn:∀y,ai (w3.setCell (za (B+1) 0) y) (zp g') (bs.take (q+1)):= λ y=>by
    have:=pU (v:=y) kO re bd
    rw[<-hlen,<-List.length_map (f:=Prod.snd)]at this
    rw[DG]
    exact(cm this (λ z hz=>by rw[<-DG]at hz;exact my.1 z hz)).1
   have p0:∀y,(w3.setCell (za (B+1) 0) y).cell? (za g' 0)=some (.int .u8 (u:Int)):= λ y=>by
    rcases(Vn y).2 with h|⟨B',o',e,hc⟩
    ·have:=congrArg List.length h;simp[zY]at this
    ·cases e;have:=hc 0 u (by rw[List.getElem?_take,if_pos ag,hu];exact gQ);exact this
   have p1:∀y,(w3.setCell (za (B+1) 0) y).cell? (za g' 1)=some (.int .u8 (v:Int)):= λ y=>by
    rcases(Vn y).2 with h|⟨B',o',e,hc⟩
    ·have:=congrArg List.length h;simp[zY]at this
    ·cases e;have:=hc 1 v (by rw[List.getElem?_take,if_pos ag,hv];exact fq);exact this
   have P:=cV p4 p0 p1
   have hq5:(0:Int)<(q:Int)+1:=ag
   have hq6:(1:Int)<(q:Int)+1:=ag
   have Hq5:=af Vl
   have Hwn:=af (show jU n 6=6+n by unfold jU;simp)
   clear cL hq h1 h2 h3 h4 h3' Vk dF gk Mj gj DG iN hxq j9 k9 Zk Kn hr9 Rl hz' aL kO re qG jx fY hlen h5 ey ax h6 mf Qh gQ fq my Vm Vl Vn p4 p0 p1 hu hv
   gi_wp2_with first
    |(rw[<-HZ'.O,<-mL.O])
    |fail
   refine Dt 12 aO aO (by rintro⟨a',w',h⟩;exact h) rfl ?_
   refine tP [0,1,2,3,4,5,6,7,8,9,10] ?_
   iterate 11 refine tO ?_
   refine ah 1 rfl ?_
   refine sP 11 [0,1,2,3,4,5,6,7,8,9,10] λ K hK=>?_
   go_simp
   refine nP hK ?_
   clear hK K
   refine dP ?_
   go_simp
   have t4:=P.O.1 (.int .i64 (6+(n:Int)))
   gi_wp2_with first
    |((refine⟨True.intro,(CallsIn.inRound l (callsIn_wide.2 (M1 n dD fu _))).mono ?_⟩);rintro e w4 ⟨rfl,rfl⟩)
    |fail
   obtain⟨aL,kO,re,qG,jx,fY,hlen⟩:=H3s.O
   have abO:q=5:=Hq5.O
   have hlf:Lets w (λ k=>k=B+1\/k=B+1+1) B W (w3.setCell (za (B+1) 0) (.int .i64 (6+(n:Int)))):=jx.T (Lets.setCell w3 ⟨B+1,0,none⟩ _ (.inl rfl) (by show B≠B+1;omega) (by show w.heap.size<=B+1;omega))
   have XP:=(fY.T (KeepsOthers.setCell w3 ⟨B+1,0,none⟩ (.int .i64 (6+(n:Int))))).from w6.heap.size
   refine⟨xu XP,hlf.drew,⟨_,_,by rw[hlen];exact jy (k:=B+1) (u:=.int .i64 (6+(n:Int))) aL ag,by rw[hlen];exact pU (k:=B+1) (v:=.int .i64 (6+(n:Int))) kO re bd⟩,?_,⟨_,jy (k:=B+1) (u:=.int .i64 (6+(n:Int))) qG ag⟩,(H5'.O.T hlf.below).drew,ag⟩
   rw[hlen,abO,Hwn.O]
   have:=Boxed.set (.int .i64 (6+(n:Int))) re
   exact this
  ·have h6b:((q:Int)+1==6)=false:=bV
   by_cases mM:q+1=6+n
   ·have hw:jU n q=6+n:=by unfold jU;rw[if_neg ag]
    rw[hw]at n9
    have hwb:((q:Int)+1==((6+n:Nat):Int))=true:=bV
    have Hw:=cV hw mM Vl
    clear cL hq h1 h2 h3 h4 h3' Vk dF gk Mj gj DG iN hxq j9 k9 Zk Kn hr9 Rl hz' aL kO re qG jx fY hlen h5 ey ax mM hw h6 mf Qh Vl
    gi_wp2_with fail
    have hz:=mL.O
    rw[HZ'.O]at hz
    rw[<-hz]
    obtain⟨aL,kO,re,qG,jx,fY,hlen⟩:=H3s.O
    refine⟨fY.from _,jx,rfl,by rw[hlen];exact Hw.O.2.1,⟨_,_,by rw[hlen];exact aL,by rw[hlen];exact kO⟩,?_,⟨_,qG⟩,H5'.O.T jx.below⟩
    rw[hlen,AI Hw.O.2.2];exact re
   ·have hwb:((q:Int)+1==(jU n q:Int))=false:=by simp;unfold jU;split<;>omega
    have Hw:=cV mM h6 Vl
    clear cL h1 h2 h3 h4 h3' Vk dF gk Mj gj DG iN hxq j9 k9 Zk Kn hr9 Rl hz' aL kO re qG jx fY hlen h5 ey ax mM h6 mf Qh Vl hq
    gi_wp2_with fail
    have hz:=mL.O
    rw[HZ'.O]at hz
    rw[<-hz]
    obtain⟨aL,kO,re,qG,jx,fY,hlen⟩:=H3s.O
    refine⟨fY.from _,jx,⟨_,_,by rw[hlen];exact aL,by rw[hlen];exact kO⟩,?_,⟨_,qG⟩,H5'.O.T jx.below,by have:=Hw.O;have:=HQ.O;omega⟩
    rw[hlen,AI Hw.O.2.2];exact re
 case done=>
  rintro D W hD ⟨_,_,_,_,h6⟩ _ hK
  have:=congrArg List.length HMO.O
  simp only[List.length_map,List.length_append]at this
  omega
 case stop=>
  rintro D cd pre W hD hp ⟨rfl,hl,⟨a,k,h1,h2⟩,h3,⟨z,h4⟩,h5⟩ _ hK
  obtain⟨L,hL⟩:=aK (6+n)
  rw[<-hL]at hl zY
  have sk:7<=L:=ag
  have Qi:L<=5000:=ag
  have hL6:L - 6=n:=ag
  have hwL:jU n L=L:=by unfold jU;rw[if_neg ag,hL]
  have fK:pre.map Prod.snd=bs:=by
   obtain⟨r,hr⟩:=hp
   have e:=congrArg (List.map Prod.snd) hr
   rw[HMO.O,List.map_append]at e
   have e2:=congrArg (List.take L) e
   rw[List.take_append_of_le_length (by simp[hl]),List.take_append_of_le_length ag,List.take_of_length_le (by simp[hl]),List.take_of_length_le ag]at e2
   exact e2
  rw[fK,hl]at h2
  rw[hl]at h1 h3
  rw[hwL]at h3
  obtain⟨g,rfl⟩:∃g,a=some ⟨g,0,none⟩:=by
   rcases ay h2 with⟨_,h,_⟩|⟨g,_,rfl,_⟩
   ·omega
   ·exact⟨g,rfl⟩
  have Vo:∀y∈bs,y<256:=by
   intro y hy
   rw[F7.O]at hy
   have h9:=HR.O.2.2.1
   simp only[eV,wL,Mi,List.mem_append,List.mem_cons,List.not_mem_nil,or_false]at hy
   rcases hy with(h|h)|h
   ·omega
   ·omega
   ·exact h9 y h
  obtain⟨my,zt, -⟩:=cm h2 Vo
  have XQ:=tY h2
  have Ml:∀w2,Below W W w2->(convert 34 9 (.slice (zp g) L k)).run Tryz.prog w2= .ok (.string (aU bs)) w2:= λ w2 hb=>cy (my.below hb) zY
  have Zl:bs.drop 6=p:=by rw[F7.O];rfl
  have Vp:ai W (some ⟨g,6,none⟩) p:=by have:=my.drop 6;rwa [Zl]at this
  have GA:∀w2,Below W W w2->Calls Tryz.prog 109 (jE (some ⟨g,6,none⟩) n (k - 6)) w2 λ e w'=>∃g2 k2,e= .returned (.slice (zp g2) L k2)/\(convert 34 9 (.slice (zp g2) L k2)).run Tryz.prog w'= .ok (.string (aU bs)) w'/\Below w2 w2 w':= λ w2 hb=>by
   have:=IZ p (some ⟨g,6,none⟩) (k - 6) w2 HR.O.1 HR.O.2.1 (Vp.below hb)
   rw[<-F7.O,<-HN.O,<-hL]at this
   refine this.mono ?_
   rintro e w' ⟨g2,k2,rfl,_,mz,aC⟩
   exact⟨g2,k2,rfl,cy (cm mz Vo).1 zY,aC⟩
  have HO:=af GA
  have Qj:=af Ml
  have TB:=af Vp
  have HG:=af XQ
  have HW:=af h5
  have HK:=af hK
  have m1:=h1.cell
  have m2:=h3.cell
  have m3:=h4.cell
  have HD:=af (show w.heap.size<=D by omega)
  have g1:decide ((L:Int)<=6)=false:=bV
  have g2:(6:Int)<=(L:Int):=ag
  have abP:(L:Int)<=(k:Int):=ag
  have TC:¬ k=6:=ag
  have HC:=cj zt TC
  clear hp fK h1 h2 h3 h4 h5 my XQ Ml Zl Vp GA hK Vo mf Qh hl hwL hL hD s6 H1 H0 H5 Hb H6 Hb6
  refine wpIn_wide.2 ?_
  go_wp2
  have ad1:=Qj.O _ (Below.refl _ W).drew
  refine ad0 ?_
  refine bP 18 ?_
  refine tP [0,1,2,3,4,5,6,7,8,9,10,11,14,15] ?_
  iterate 14 refine tO ?_
  refine ah 4 rfl ?_
  refine sP 12 [0,1,2,3,4,5,6,7,8,9,10,11] λ K hK=>?_
  go_simp
  (with_reducible refine(HO.O _ (Below.refl _ W).drew).mono ?_);rintro e w4 ⟨g2,k2,rfl,ade,bH⟩
  have q1:=carry (w:=W) ((Below.refl _ W).drew.T bH) m1
  have ad2:=Qj.O _ ((Below.refl _ W).drew.T bH)
  refine nP hK ?_
  clear hK K
  refine tP [13,16,17] ?_
  iterate 3 refine tO ?_
  refine ah 0 rfl ?_
  refine dP ?_
  go_simp
  clear q1 ad2 ad1
  have bJ:=(Below.refl _ W).drew.T bH
  have m4:=carry (w:=W) bJ m1
  have m5:=carry (w:=W) bJ m3
  have hLL:(L:Int)<=(k:Int):=abP
  go_wp2
  go_region_held3 (λ w'=>w'.cell? (za B 0)=some (.slice (zp g) L k)/\w'.cell? (za (B+1+1) 0)=some (.int .i64 z)) (exact⟨m4,m5⟩) (fail)
  go_wp2
  have hK4:w4.drew.heap[D]? =some (.deferred (some [])):=(bJ.block D (aX HK.O).1).T HK.O
  have abQ:ai (w4.drew.putObj D (.deferred none)) (some ⟨g,6,none⟩) p:=kr (D:=D) (M:= λ _=>False) (TB.O.below bJ.drew) (dz.putObj w4.drew D _ _ (aW) hK4 rfl) (λ _ _ h=>h)
  refine⟨by simp,.inl ⟨_,_,rfl,run_takeDeferred hK4,?_⟩⟩
  exact⟨_,results_tmp3 rfl _ _ _,_,_,_,by rw[<-HN.O];rfl,by rw[<-HN.O];exact aW,cx.of HG.O,abQ,eG ((HW.O.T (bJ.mono HW.O.size)).drew) _ hK4 HD.O⟩
end
section
attribute [-go_sem] Builtin.append_
def gS(W:World)(B:Nat)(b:Option Addr)(k c:Nat):Prop:=W.heap[B]? =some (.cells (cK b k c) 279 (0,0))
theorem nC(h:gS W B b k c)(j:Nat):W.frozen? ⟨B,j,none⟩=(if j<5 then false else W.frozen? ⟨B,j,none⟩):=by
 split
 ·simp[World.frozen?,show W.heap[B]? =_ from h]
 ·rfl
theorem Rm(h:gS w B b k c):
 Calls Tryz.prog 174 (dW (zp B)) w λ e w'=>e= .returned (.int .i64 0)/\w'=w:=by
 obtain⟨c0,c1,c2,c3,c4⟩:=df h
 go_enter Tryz.func174,Tryz.ntmps174
 go_wp2
 go_ret
 exact⟨rfl,rfl⟩
theorem Ko(h:gS w B b k c):
 Calls Tryz.prog 176 (dW (zp B)) w λ e w'=>e= .returned (.int .i64 0)/\w'=w:=by
 obtain⟨c0,c1,c2,c3,c4⟩:=df h
 go_enter Tryz.func176,Tryz.ntmps176
 go_wp2
 go_ret
 exact⟨rfl,rfl⟩
theorem aq{fz:Nat×Nat}(u:Value)(h:W.heap[B]? =some (.cells cs t fz)):(W.setCell ⟨B,j,none⟩ u).heap[B]? =some (.cells (cs.setIfInBounds j u) t fz):=by
 obtain⟨bg,hk⟩:=aX h
 show(W.heap.modify B _)[B]? =_
 rw[Array.getElem?_eq_getElem (by rw[Array.size_modify];exact bg),Array.getElem_modify_self,hk]
 rfl
theorem B7{fz:Nat×Nat}{v:Value}(h:W.heap[B]? =some (.cells cs t fz))(hv:cs[j]? =some v)(k:Nat):((W.setCell ⟨B,j,none⟩ u).setCell ⟨B,j,none⟩ v).heap[k]? =W.heap[k]? :=by
 by_cases hk:k=B
 ·subst hk
  rw[aq v (aq u h),h]
  congr 2
  apply Array.ext_getElem?
  intro i
  by_cases hi:i=j
  ·subst hi
   have:=(aX hv).1
   rw[Array.getElem?_setIfInBounds_self_of_lt (by simpa using this),hv]
  ·rw[Array.getElem?_setIfInBounds_ne ag,Array.getElem?_setIfInBounds_ne ag]
 ·rw[Below.heap_setCell _ _ _ _ hk,Below.heap_setCell _ _ _ _ hk]
theorem DH(h:gS w B b k c):
 Calls Tryz.prog 175 (dW (zp B)) w λ e w'=>e= .returned (.int .i64 0)/\Below w w w':=by
 obtain⟨c0,c1,c2,c3,c4⟩:=df h
 have f3:w.frozen? ⟨B,3,none⟩=false:=by rw[nC h];rfl
 have e1:IntKind.i64.wrap (-1 - 1)= -2:=by decide
 have e2:max (-2:Int) (-2)= -2:=by decide
 have dM:Hid (Below w w ((w.setCell (za B 3) (.int .i64 (-2))).setCell (za B 3) (.int .i64 (-1)))):=af ⟨rfl,rfl,rfl,by simp[World.setCell], λ j hj=>B7 h rfl j⟩
 clear h
 go_enter Tryz.func175,Tryz.ntmps175
 go_wp2
 go_ret
 exact⟨rfl,dM.O⟩
theorem Nk(h:au w b c ps)(B1 B2 more:Nat)
 (aQ:w.heap[B1]? =some (.cells (Au more) 3))(aC:w.heap[B2]? =some (.cells (cK b ps.length c) 37))
 (hm:(al ps).length+more<=524288):
 Calls Tryz.prog 173 (iS (zp B1) (zp B2)) w λ e w'=>e= .returned (.int .i64 0)/\Below w w w':=by
 have d0:=aJ aQ
 obtain⟨c0,c1,c2,c3,c4⟩:=df aC
 have hl:= λ (w2:World) (hb:Below w w w2)=>tV (h.below hb)
 unfold aE at hl
 obtain⟨N,hN⟩:=aK ((al ps).length)
 rw[<-hN]at hl hm
 have HL:=af hl
 have e1:IntKind.i64.wrap (524288 - (N:Int))=524288 - (N:Int):=by rw[IntKind.wrap_i64];omega
 have e2:(more:Int)<=524288 - (N:Int):=ag
 have hN2:(N:Int)<=524288:=ag
 clear hl hN aQ aC h hm
 go_enter Tryz.func173,Tryz.ntmps173
 go_wp2
 go_region_held3 (λ w'=>w'.cell? (za B1 0)=some (.int .i64 (more:Int))/\w'.cell? (za B2 0)=some (.slice none 0 0)/\w'.cell? (za B2 1)=some (.slice b ps.length c)/\w'.cell? (za B2 2)=some (.int .i64 (-1))/\w'.cell? (za B2 3)=some (.int .i64 (-1))/\w'.cell? (za B2 4)=some (.bool false))
  (first
    |exact⟨d0,c0,c1,c2,c3,c4⟩
    |exact⟨carry (w:=w) ((Below.refl _ w).drew.T aC) d0,carry (w:=w) ((Below.refl _ w).drew.T aC) c0,carry (w:=w) ((Below.refl _ w).drew.T aC) c1,carry (w:=w) ((Below.refl _ w).drew.T aC) c2,carry (w:=w) ((Below.refl _ w).drew.T aC) c3,carry (w:=w) ((Below.refl _ w).drew.T aC) c4⟩)
  (first|((with_reducible refine(HL.O _ (Below.refl _ w).drew).mono ?_);rintro e w2 ⟨rfl,aC⟩))
 go_wp2
 go_ret
 exact⟨rfl,(Below.refl _ w).drew.T aC⟩
theorem Kq{o:Nat}(h:ai w (some ⟨B,o,none⟩) xs)(hn:xs.length=n)(h1:1<=n)(h2:n<=1048576):
 Calls Tryz.prog 138 (jE (some ⟨B,o,none⟩) n c) w λ e w'=>∃g k,e= .returned (.slice (zp g) n k)/\n<=k/\w.heap.size<=g/\ai w' (zp g) xs/\Below w w w':=by
 obtain⟨i0,hi,gQ,fq,mx⟩:=info_parts Tryz.nu
 have ax:(w.alloc (.cells #[] 5)).ownsRow w 5 1 (.slice (zp w) 0 0) 0 []:=
  ⟨rfl,.inr ⟨w.heap.size,0,#[],rfl,aW,World.alloc_heap_new w _,aW,by simp[maxLen],rfl,rfl⟩⟩
 obtain⟨v',w1,bt,cY,eB, -, -⟩:=run_append_own_at (P:=Tryz.prog) (w.alloc (.cells #[] 5)) w.heap.size 34 34 5 i0 (.int .u8 0) 1 1 aO hi gQ fq mx rfl bd _ _ [] ax
  ⟨B,o,none⟩ n c (aB xs) (by simp[aB,hn]) (λ j u hj=>by
    obtain⟨y,hy,rfl⟩:∃y,xs[j]? =some y/\Value.int .u8 (y:Int)=u:=by simpa[aB]using hj
    have:=h.below ((Below.refl _ w).alloc (aW) (.cells #[] 5))
    have e:(⟨B,o,none⟩:Addr).add j=⟨B,o+j,none⟩:=by unfold Addr.add;split<;>simp_all
    rw[e]
    rcases this.2 with h0|⟨B',o',h3,h4⟩
    ·rw[h0]at hy;cases hy
    ·cases h3;exact h4 j y hy)
  (λ u hu=>by obtain⟨y,_,rfl⟩:=List.mem_map.1 hu;rfl) (by simp[maxLen];omega) ag aR
 obtain⟨q,hq⟩:∃q,0+n=q+1:=⟨n - 1,ag⟩
 rw[hq]at cY
 obtain⟨g',k',rfl⟩:=ownsRow_succ cY
 have wM:q+1=n:=ag
 rw[wM]at cY bt
 have my:=cm (xs:=xs) (by simpa using cY) h.1
 have F6:=tY cY
 have ua:Below w w w1:=((Below.refl _ w).alloc (aW) _).grown eB aR (λ j e=>by
  have:w.heap.size=j:=by simpa[Value.ownBlock]using e
  omega)
 have adf:(binOp BinOp.eql 34 (.slice (some ⟨B,o,none⟩) n c) (.slice none 0 0)).run Tryz.prog w= .ok (.bool false) w:=aO
 have dM:=jo my.2.1 F6 my.1 ua
 clear cY eB my F6 ua ax hi gQ fq mx hq wM h hn
 go_enter Tryz.func138,Tryz.ntmps138
 go_wp2_with fail
 go_ret
 exact⟨g',k',rfl,dM.O⟩
def B8(p:Piece):Value:=.slice p.1 p.2.1.length p.2.2
theorem Tryz.Rn:(Tryz.prog.info? 34).map (λ i=>(i.zero,i.size,i.bytes))=some (some (.slice none 0 0),1,24):=aO
theorem GB{i:Nat}(h:B≠k):(W.setCell ⟨k,i,none⟩ u).cell? ⟨B,j,none⟩=W.cell? ⟨B,j,none⟩:=World.cell?_of_block (Below.heap_setCell W ⟨k,i,none⟩ u B h)
theorem kP(B o j:Nat):(⟨B,o,none⟩:Addr).add j=⟨B,o+j,none⟩:=by unfold Addr.add;split<;>simp_all
theorem Kr{w':World}(h:au w b c ps)(hb:Below w w w'){G g cap:Nat}
 (ax:w'.ownsRow n₀ 34 1 (.slice (zp G) (ps.length+1) cap) (ps.length+1) (ps.map B8++[.slice (zp g) xs.length k]))(hx:ai w' (zp g) xs)(h1:1<=xs.length)(hk:xs.length<=k)(fG:(al ps).length+xs.length<=524288):
 au w' (zp G) cap (ps++[(some ⟨g,0,none⟩,xs,k)]):=by
 have fK:al (ps++[((some ⟨g,0,none⟩,xs,k):Piece)])=al ps++xs:=by simp[al]
 rcases ax.2 with⟨h2,_⟩|⟨G',adg,cur,h2,aC,hg,hle,Zh,jr,ht⟩
 ·cases h2
 ·cases h2
  refine⟨⟨.inr ⟨G,0,rfl, λ j p hp=>?_⟩, λ p hp=>?_⟩,by rw[fK,List.length_append];exact fG,by simpa using hle⟩
  ·have e:(ps.map B8++[Value.slice (zp g) xs.length k])[j]? =some (B8 p):=by
    have:ps.map B8++[Value.slice (zp g) xs.length k]=(ps++[((some ⟨g,0,none⟩,xs,k):Piece)]).map B8:=by simp[B8]
    rw[this,List.getElem?_map,hp];rfl
   rw[<-ht,List.getElem?_take]at e
   split at e
   ·simp only[World.cell?,hg,Nat.zero_add]
    simpa[B8]using e
   ·cases e
  ·rcases List.mem_append.1 hp with hp|hp
   ·have:=h.pieces.2 p hp
    exact⟨this.1,this.2.1,this.2.2.below hb⟩
   ·rw[List.mem_singleton]at hp
    subst hp
    exact⟨λ e=>by rw[show xs=[]from e]at h1;simp at h1,hk,hx⟩
theorem DI(hF:au w0 b c ps)(hw:Below w0 w0 w)(Bg Bb:Nat)(XR:w0.heap.size<=Bg)(hg:gS w Bg b ps.length c)
 (xs:List Nat)(A o cb:Nat)(hb:w.heap[Bb]? =some (.cells (jE (some ⟨A,o,none⟩) xs.length cb) 34))(hx:ai w0 (some ⟨A,o,none⟩) xs)(h1:1<=xs.length)(h2:xs.length<=1000000)(fG:(al ps).length+xs.length<=524288):
 Calls Tryz.prog 137 (iS (zp Bg) (zp Bb)) w λ e w'=>(∃v,e= .returned v)/\∃b' c' pc,gS w' Bg b' (ps.length+1) c'/\au w' b' c' (ps++[pc])/\pc.2.1=xs/\Below w0 w w'/\(∀j,j<w.heap.size->j≠Bg->w'.heap[j]? =w.heap[j]?)/\(cx w b'/\cx w pc.1):=by
 obtain⟨c0,c1,c2,c3,c4⟩:=df hg
 have d0:=aJ hb
 have f1:w.frozen? ⟨Bg,1,none⟩=false:=by rw[nC hg];rfl
 have wH:=hF.C3
 have dX:=hF.room
 have ng:∀w2,Below w w w2->Calls Tryz.prog 138 (jE (some ⟨A,o,none⟩) xs.length cb) w2 λ e w3=>∃g k cap w4,e= .returned (.slice (zp g) xs.length k)/\Below w2 w2 w3/\
  (Builtin.append_ #[35,35] 35 (jF b ps.length ps.length (zp w3) 1 1)).run Tryz.prog (w3.alloc (.cells (jE (zp g) xs.length k) 34))= .ok (.slice (zp (w3.heap.size+1)) (ps.length+1) cap) w4/\
  w4.cell? (za Bg 1)=some (.slice b ps.length c)/\w4.frozen? ⟨Bg,1,none⟩=false/\Below w w w4/\
  Hid (∃b' c' pc,gS (w4.setCell (za Bg 1) (.slice (zp (w3.heap.size+1)) (ps.length+1) cap)) Bg b' (ps.length+1) c'/\au (w4.setCell (za Bg 1) (.slice (zp (w3.heap.size+1)) (ps.length+1) cap)) b' c' (ps++[pc])/\pc.2.1=xs/\Below w0 w (w4.setCell (za Bg 1) (.slice (zp (w3.heap.size+1)) (ps.length+1) cap))/\(∀j,j<w.heap.size->j≠Bg->(w4.setCell (za Bg 1) (.slice (zp (w3.heap.size+1)) (ps.length+1) cap)).heap[j]? =w.heap[j]?)/\(cx w b'/\cx w pc.1)):= λ w2 aC=>by
  refine(Kq (c:=cb) ((hx.below hw).below aC) rfl h1 ag).mono ?_
  rintro e w3 ⟨g,k,rfl,hk,hgs,my,aL⟩
  have iL:Below w w w3:=aC.T (aL.mono aC.size)
  have Nl:Below w0 w0 w3:=hw.T (iL.mono hw.size)
  have Ro:=hF.below Nl
  have bH:Below w3 w3 (w3.alloc (.cells (jE (zp g) xs.length k) 34)):=(Below.refl _ w3).alloc (aW) _
  have F4:=Ro.below bH
  obtain⟨cap,w4,bt,ja,ax,ua⟩:=lL (P:=Tryz.prog) 35 34 (.slice none 0 0) 1 24 aO Tryz.Rn rfl (W:=w3.alloc (.cells (jE (zp g) xs.length k) 34)) b ps.length (ps.map B8) aR
   (by
     cases b with
     |none=>
      rcases F4.pieces.1 with h|⟨_,_,h,_⟩
      ·exact .inl ⟨rfl,by rw[h];rfl⟩
      ·cases h
     |some a=>
      refine .inr ⟨a,rfl, λ j v hj=>?_⟩
      rcases F4.pieces.1 with h|⟨B',o',h,hc⟩
      ·rw[h]at hj;simp at hj
      ·cases h
       obtain⟨p,hp,rfl⟩:∃p,ps[j]? =some p/\B8 p=v:=by simpa using hj
       rw[kP];exact hc j p hp)
   ⟨w3.heap.size,0,none⟩ 1 1 [.slice (zp g) xs.length k] rfl (λ j v hj=>by rw[kP,World.cell?_alloc_new];simpa using hj) ag ag ag
  rw[World.size_alloc]at bt ax
  have bJ:Below w3 w3 w4:=bH.T (ua.mono aR)
  have gA:Below w w w4:=iL.T (bJ.mono iL.size)
  have hg4:gS w4 Bg b ps.length c:=(gA.block Bg (aX hg).1).T hg
  have DF:Below w0 w4 (w4.setCell (za Bg 1) (.slice (zp (w3.heap.size+1)) (ps.length+1) cap)):=(Below.refl _ w4).setCell XR _
  have hG:w3.heap.size+1≠Bg:=by have:=(aX hg).1;have:=iL.size;omega
  refine⟨g,k,cap,w4,rfl,aL,bt,(df hg4).2.1,by rw[nC hg4];rfl,gA,af ⟨some ⟨w3.heap.size+1,0,none⟩,cap,(some ⟨g,0,none⟩,xs,k),by have:=aq (j:=1) (.slice (zp (w3.heap.size+1)) (ps.length+1) cap) hg4;unfold gS;simpa using this,?_,rfl,(gA.mono hw.size).T DF, λ j hj Zf=>(Below.heap_setCell w4 ⟨Bg,1,none⟩ _ j Zf).T (gA.block j hj),cx.of (aM iL.size),cx.of (aM aC.size)⟩⟩
  refine Kr hF (((hw.T (gA.mono hw.size)).T DF)) (dx ax λ g2 eU=>?_) ?_ h1 hk fG
  ·cases eU
   exact Below.heap_setCell w4 ⟨Bg,1,none⟩ _ _ hG
  ·have Nn:ai w4 (zp g) xs:=my.below bJ
   have hgB:g≠Bg:=by have:=(aX hg).1;have:=aC.size;omega
   refine⟨Nn.1,?_⟩
   rcases Nn.2 with h|⟨C,o2,h,hc⟩
   ·exact .inl h
   ·cases h
    exact .inr ⟨g,0,rfl, λ j x hj=>(GB hgB).T (hc j x hj)⟩
 have HC:=af ng
 have rh:((ps.length:Nat):Int)<=(c:Int):=ag
 have mz:((ps.length:Nat):Int)<=524288:=ag
 clear ng hg hb hx hF hw h1 h2 fG
 go_enter Tryz.func137,Tryz.ntmps137
 go_wp2
 refine eL 26 (λ w'=>w'.cell? (za Bg 0)=some (.slice none 0 0)/\w'.cell? (za Bg 1)=some (.slice b ps.length c)/\w'.cell? (za Bb 0)=some (.slice (some ⟨A,o,none⟩) xs.length cb)) aO ⟨c0,c1,d0⟩ (λ hS=>?_)
 refine tT 0 hS ?_
 refine tT 1 hS ?_
 refine tT 2 hS ?_
 refine tT 3 hS ?_
 refine tT 4 hS ?_
 refine tT 5 hS ?_
 refine tT 6 hS ?_
 refine tT 7 hS ?_
 refine tT 8 hS ?_
 refine tT 9 hS ?_
 refine tT 10 hS ?_
 refine tT 11 hS ?_
 refine tT 12 hS ?_
 refine tT 13 hS ?_
 refine tT 14 hS ?_
 refine tT 15 hS ?_
 refine tT 16 hS ?_
 refine tT 17 hS ?_
 refine tT 18 hS ?_
 refine tT 19 hS ?_
 refine sT 20 λ K hK=>?_
 go_simp
 refine(HC.O _ (Below.refl _ w).drew).mono ?_
 rintro e w3 ⟨g,k,cap,w4,rfl,aC,bt,qZ,GC,bH,dM⟩
 simp only[]
 refine bF hK ?_ (λ hS=>?_)
 ·exact⟨carry (w:=w) ((Below.refl _ w).drew.T aC) c0,carry (w:=w) ((Below.refl _ w).drew.T aC) c1,carry (w:=w) ((Below.refl _ w).drew.T aC) d0⟩
 clear hK K
 refine sT 21 λ K hK=>?_
 go_simp
 refine bF hK ?_ (λ hS=>?_)
 ·exact⟨carry (w:=w) (((Below.refl _ w).drew.T aC).alloc aC.size _) c0,carry (w:=w) (((Below.refl _ w).drew.T aC).alloc aC.size _) c1,carry (w:=w) (((Below.refl _ w).drew.T aC).alloc aC.size _) d0⟩
 clear hK K
 refine sT 22 λ K hK=>?_
 go_simp
 refine bF hK ?_ (λ hS=>?_)
 ·exact⟨carry (w:=w) bH c0,carry (w:=w) bH c1,carry (w:=w) bH d0⟩
 clear hK K
 refine sT 23 λ K hK=>?_
 go_simp
 refine bF hK hS (λ hS=>?_)
 clear hK K
 refine sT 24 λ K hK=>?_
 go_simp
 refine bF hK hS (λ hS=>?_)
 clear hK K
 refine tT 25 hS ?_
 refine sT 26 λ K hK=>?_
 go_simp
 refine iM hK ?_
 clear hK K
 refine fC aO ?_ _
 go_wp2
 go_end0
 exact⟨⟨_,rfl⟩,dM.O⟩
theorem eH{es:Array Value}{u v:TypeId}(h:Below (((w.alloc (.cells cs t)).alloc (.cells ds u)).alloc (.cells es v)).heap.size (((w.alloc (.cells cs t)).alloc (.cells ds u)).alloc (.cells es v)) w2):
 w2.heap[w.heap.size]? =some (.cells cs t)/\w2.heap[w.heap.size+1]? =some (.cells ds u)/\w2.heap[w.heap.size+1+1]? =some (.cells es v):=by
 have e1:=World.alloc_heap_new w (.cells cs t)
 have e2:=World.alloc_heap_new (w.alloc (.cells cs t)) (.cells ds u)
 have e3:=World.alloc_heap_new ((w.alloc (.cells cs t)).alloc (.cells ds u)) (.cells es v)
 rw[World.size_alloc]at e2
 rw[World.size_alloc,World.size_alloc]at e3
 have s:(((w.alloc (.cells cs t)).alloc (.cells ds u)).alloc (.cells es v)).heap.size=w.heap.size+1+1+1:=by simp
 refine⟨?_,?_,?_⟩
 ·rw[h.block _ ag,Below.heap_alloc _ _ _ bV,Below.heap_alloc _ _ _ aR];exact e1
 ·rw[h.block _ ag,Below.heap_alloc _ _ _ aR];exact e2
 ·rw[h.block _ ag];exact e3
theorem zZ{fz:Nat×Nat}(h:W.heap[R]? =some (.cells #[a0,a1,a2,a3,a4] t fz)):
 (((((W.setCell (za R 0) v0).setCell (za R 1) v1).setCell (za R 2) v2).setCell (za R 3) v3).setCell (za R 4) v4).heap[R]? =some (.cells #[v0,v1,v2,v3,v4] t fz):=by
 have:=aq (j:=4) v4 (aq (j:=3) v3 (aq (j:=2) v2 (aq (j:=1) v1 (aq (j:=0) v0 h))))
 simpa using this
theorem kQ(j:Nat)(hj:j≠R):
 (((((W.setCell (za R 0) v0).setCell (za R 1) v1).setCell (za R 2) v2).setCell (za R 3) v3).setCell (za R 4) v4).heap[j]? =W.heap[j]? :=by
 rw[Below.heap_setCell _ _ _ _ hj,Below.heap_setCell _ _ _ _ hj,Below.heap_setCell _ _ _ _ hj,Below.heap_setCell _ _ _ _ hj,Below.heap_setCell _ _ _ _ hj]
theorem eM(h:n₀<=R):
 Below n₀ W (((((W.setCell (za R 0) v0).setCell (za R 1) v1).setCell (za R 2) v2).setCell (za R 3) v3).setCell (za R 4) v4):=
 (((((Below.refl n₀ W).setCell (p:=(za R 0)) h _).setCell (p:=(za R 1)) h _).setCell (p:=(za R 2)) h _).setCell (p:=(za R 3)) h _).setCell (p:=(za R 4)) h _
theorem mN(hk:∀j,j≠R->W'.heap[j]? =W.heap[j]?){fz:Nat×Nat}(hR:W.heap[R]? =some (.cells cs t fz))(ht1:∀(j x:Nat),cs[j]? ≠some (.int .u8 (x:Int)))(h:au W b c ps)(hb:∀B o,b=some ⟨B,o,none⟩->B≠R):au W' b c ps:=by
 have hc:∀(p:Addr) (v:Value),p.block≠R->W.cell? p=some v->W'.cell? p=some v:= λ p v hp hv=>(World.cell?_of_block (hk p.block hp)).T hv
 refine⟨⟨?_, λ p hp=>?_⟩,h.small,h.room⟩
 ·rcases h.pieces.1 with h0|⟨B,o,e,bq⟩
  ·exact .inl h0
  ·exact .inr ⟨B,o,e, λ j p hj=>hc _ _ (by exact hb B o e) (bq j p hj)⟩
 ·obtain⟨h1,h2,h3,h4⟩:=h.pieces.2 p hp
  refine⟨h1,h2,h3,?_⟩
  rcases h4 with h0|⟨B,o,e,bq⟩
  ·exact .inl h0
  ·refine .inr ⟨B,o,e, λ j x hj=>?_⟩
   by_cases hB:B=R
   ·have:=bq j x hj
    rw[hB,show W.cell? (za R (o+j))=cs[o+j]? by simp[World.cell?,hR]]at this
    exact absurd this (ht1 _ _)
   ·exact hc ⟨B,o+j,none⟩ _ hB (bq j x hj)
theorem ak(h:W.heap[B]? =some (.cells cs t))(j:Nat):W.frozen? ⟨B,j,none⟩=false:=by simp[World.frozen?,h]
theorem aa{fz:Nat×Nat}(h:W.heap[B]? =some (.cells cs t fz))(j:Nat):W.cell? ⟨B,j,none⟩=cs[j]? :=by simp[World.cell?,h]
theorem Aa(hF:au w0 b c ps)(hw:Below w0 w0 w)(Bb:Nat)
 (xs:List Nat)(A o cb:Nat)(hb:w.heap[Bb]? =some (.cells (jE (some ⟨A,o,none⟩) xs.length cb) 34))(hx:ai w0 (some ⟨A,o,none⟩) xs)(h1:1<=xs.length)(h2:xs.length<=1000000)(fG:(al ps).length+xs.length<=524288):
 Calls Tryz.prog 136 #[aE b ps.length c,.int .i64 (xs.length:Int),.func (.func 137) #[] (dW (zp Bb))] w λ e w'=>∃b' c' pc,e= .returned (.tuple #[aE b' (ps.length+1) c',.int .i64 0])/\au w' b' c' (ps++[pc])/\pc.2.1=xs/\(cx w b'/\cx w pc.1)/\Below w w w':=by
 have TD:= λ (w2:World) (hb:Below w0 w0 w2)=>gg (hF.below hb)
 have TE:= λ (w2:World) (hb:Below w0 w0 w2) (B1 B2:Nat) (h1:w2.heap[B1]? =some (.cells (Au xs.length) 3)) (h2:w2.heap[B2]? =some (.cells (cK b ps.length c) 37))=>Nk (hF.below hb) B1 B2 xs.length h1 h2 fG
 unfold aE at*
 have bt:= λ (w2:World) (da:Below w0 w0 w2) (Bg:Nat) (XR:w0.heap.size<=Bg) (hg:gS w2 Bg b ps.length c) (aC:w2.heap[Bb]? =some (.cells (jE (some ⟨A,o,none⟩) xs.length cb) 34))=>DI hF da Bg Bb XR hg xs A o cb aC hx h1 h2 fG
 have C5:=af TD
 have HRM:=af TE
 have zB:=af bt
 have HW:=af hw
 have HB:=af hb
 have H1:Hid (Below w w (((w.alloc (.cells (cK b ps.length c) 37)).alloc (.cells (Au xs.length) 3)).alloc (.cells eY 37))):=af (by go_grown)
 clear TD TE bt hF hx hw hb h1 h2 fG
 go_enter Tryz.func136,Tryz.ntmps136
 go_wp2
 go_step3
 go_wp2_with first
  |((refine(C5.O _ (HW.O.T (H1.O.mono HW.O.size))).mono ?_);rintro e w2 ⟨rfl,aC⟩;obtain⟨p1,p2,p3⟩:=YU aC;have H2:=af (H1.O.T (aC.mono H1.O.size));obtain⟨gQ,fq,mx⟩:=eH aC;have jr:=aC.size;simp only[World.size_alloc]at jr;have c0:=p1 0 _ rfl;have c1:=p1 1 _ rfl;have c2:=p1 2 _ rfl;have c3:=p1 3 _ rfl;have c4:=p1 4 _ rfl)
  |fail
 obtain⟨w3,cL⟩:=aK (w2.alloc (.cells (cK b ps.length c) 279))
 rw[<-cL]
 have oC:gS w3 w2.heap.size b ps.length c:=by rw[cL];exact World.alloc_heap_new w2 _
 have DJ:Below w2 w2 w3:=by rw[cL];exact(Below.refl _ w2).alloc (aW) _
 have I3:w3.heap[w.heap.size]? =some (.cells (cK b ps.length c) 37):=by
  rw[DJ.block _ (cG H2.O.size jr)];exact gQ
 have j7:w3.heap[w.heap.size+1]? =some (.cells (Au xs.length) 3):=by
  rw[DJ.block _ (cG H2.O.size jr)];exact fq
 have ny:w3.heap[w.heap.size+1+1]? =some (.cells eY 37):=by
  rw[DJ.block _ (cG H2.O.size jr)];exact mx
 obtain⟨Bg,XR⟩:=aK w2.heap.size
 rw[<-XR]at oC⊢
 have H3:=af (H2.O.T (DJ.mono H2.O.size))
 have HG:=af oC
 have HQ:=cV I3 j7 ny
 have XS:=af (show w.heap.size+1+1<Bg by omega)
 have bA:Hid (w3.heap[Bb]? =some (.cells (jE (some ⟨A,o,none⟩) xs.length cb) 34)):=af ((H3.O.block Bb (aX HB.O).1).T HB.O)
 clear oC cL DJ I3 j7 ny XR gQ fq mx jr c0 c1 c2 c3 c4 p1 p2 p3 aC
 go_step3
 go_wp2_with fail
 go_loopw [11,32] (λ ev iv wr=>ev= .int .i64 0/\∃k:Nat,k<=4/\iv= .int .i64 (k:Int)/\Hid (Below w3 w3 wr)) (λ _ iv _=>4 - (intOf iv).toNat)
 case atStart=>exact⟨rfl,0,ag,rfl,af (dp)⟩
 case round=>
  obtain⟨rfl,k,hk,rfl,hB⟩:=hrel
  have hg:=(hB.O.block Bg (aX HG.O).1).T HG.O
  have I3:=(hB.O.block _ (aX HQ.O.1).1).T HQ.O.1
  have j7:=(hB.O.block _ (aX HQ.O.2.1).1).T HQ.O.2.1
  have ny:=(hB.O.block _ (aX HQ.O.2.2).1).T HQ.O.2.2
  have gu:Below w0 w0 wr:=HW.O.T ((H3.O.T (hB.O.mono H3.O.size)).mono HW.O.size)
  by_cases bg:k<4
  ·have fY:k=0\/k=1\/k=2\/k=3:=ag
   rcases fY with rfl|rfl|rfl|rfl
   ·have HO:=af (Rm hg)
    clear hg I3 j7 ny gu
    have TF:(Instr.index 323 (.agg (QT (Value.func (.func 174) (dW (zp Bg)) #[]) (Value.func (.func 173) #[] (iS (zp (w.heap.size+1)) (zp w))) (Value.func (.func 175) (dW (zp Bg)) #[]) (Value.func (.func 176) (dW (zp Bg)) #[]))) (.int .i64 0)).run Tryz.prog wr= .ok (Value.func (.func 174) (dW (zp Bg)) #[]) wr:=aO
    go_wp2_with first
     |((refine HO.O.mono ?_);rintro e w5 ⟨rfl,rfl⟩)
     |fail
    go_roundw
    case rel=>exact⟨rfl,1,ag,rfl,hB⟩
    case measure=>simp[intOf]
   ·have HO:=af (HRM.O wr gu _ _ j7 I3)
    clear hg I3 j7 ny gu
    have TF:(Instr.index 323 (.agg (QT (Value.func (.func 174) (dW (zp Bg)) #[]) (Value.func (.func 173) #[] (iS (zp (w.heap.size+1)) (zp w))) (Value.func (.func 175) (dW (zp Bg)) #[]) (Value.func (.func 176) (dW (zp Bg)) #[]))) (.int .i64 1)).run Tryz.prog wr= .ok (Value.func (.func 173) #[] (iS (zp (w.heap.size+1)) (zp w))) wr:=aO
    go_wp2_with first
     |((refine HO.O.mono ?_);rintro e w5 ⟨rfl,bJ⟩)
     |fail
    go_roundw
    case rel=>exact⟨rfl,2,ag,rfl,af (hB.O.T (bJ.mono hB.O.size))⟩
    case measure=>simp[intOf]
   ·have HO:=af (DH hg)
    clear hg I3 j7 ny gu
    have TF:(Instr.index 323 (.agg (QT (Value.func (.func 174) (dW (zp Bg)) #[]) (Value.func (.func 173) #[] (iS (zp (w.heap.size+1)) (zp w))) (Value.func (.func 175) (dW (zp Bg)) #[]) (Value.func (.func 176) (dW (zp Bg)) #[]))) (.int .i64 2)).run Tryz.prog wr= .ok (Value.func (.func 175) (dW (zp Bg)) #[]) wr:=aO
    go_wp2_with first
     |((refine HO.O.mono ?_);rintro e w5 ⟨rfl,bJ⟩)
     |fail
    go_roundw
    case rel=>exact⟨rfl,3,ag,rfl,af (hB.O.T (bJ.mono hB.O.size))⟩
    case measure=>simp[intOf]
   ·have HO:=af (Ko hg)
    clear hg I3 j7 ny gu
    have TF:(Instr.index 323 (.agg (QT (Value.func (.func 174) (dW (zp Bg)) #[]) (Value.func (.func 173) #[] (iS (zp (w.heap.size+1)) (zp w))) (Value.func (.func 175) (dW (zp Bg)) #[]) (Value.func (.func 176) (dW (zp Bg)) #[]))) (.int .i64 3)).run Tryz.prog wr= .ok (Value.func (.func 176) (dW (zp Bg)) #[]) wr:=aO
    go_wp2_with first
     |((refine HO.O.mono ?_);rintro e w5 ⟨rfl,rfl⟩)
     |fail
    go_roundw
    case rel=>exact⟨rfl,4,ag,rfl,hB⟩
    case measure=>simp[intOf]
  ·obtain rfl:k=4:=ag
   have HO:=af (zB.O wr gu Bg (cG XS.O HW.O.size) hg ((hB.O.block Bb (aX bA.O).1).T bA.O))
   have Hq2:=af ny
   have Rp:=(aX hg).1
   have Hgl:=af Rp
   have HFB:=af gu
   clear hg I3 j7 ny gu Rp
   go_wp2_with first
    |((refine HO.O.mono ?_);rintro e w5 ⟨⟨v,rfl⟩,b',c',pc,ni,hF5,AJ,bJ,zz,kK⟩;obtain⟨g0,g1,g2,g3,g4⟩:=df ni;have hR:=(zz (w.heap.size+1+1) (cG XS.O Hgl.O) (aM XS.O)).T Hq2.O;have r0:=aa hR 0;have r1:=aa hR 1;have r2:=aa hR 2;have r3:=aa hR 3;have r4:=aa hR 4;have f0:=ak hR 0;have f1:=ak hR 1;have f2:=ak hR 2;have f3:=ak hR 3;have f4:=ak hR 4;simp only[aD]at r0 r1 r2 r3 r4;have I2:=af hR;have F7:=af (show w.heap.size+1+1≠Bg from by have:=XS.O;omega);have HK5:=af zz;clear hR zz)
    |fail
   rw[Exit.noGoto_ret]
   refine bodyPost_ret (v:=.tuple (np (.agg (cK b' (ps.length+1) c')))) ?_ (by rfl) ?_
   ·rw[results_cell_tmp rfl]
    have hs:=aa (zZ (v0:=.slice none 0 0) (v1:=.slice b' (ps.length+1) c') (v2:=.int .i64 (-1)) (v3:=.int .i64 (-1)) (v4:=.bool false) I2.O)
    have s0:=hs 0
    have s1:=hs 1
    have s2:=hs 2
    have s3:=hs 3
    have s4:=hs 4
    simp only[aD]at s0 s1 s2 s3 s4
    clear hs
    go_simp
   ·have gu:Below w w wr:=H3.O.T (hB.O.mono H3.O.size)
    have abR:Below w wr w5:=⟨bJ.os,bJ.tape,bJ.output,bJ.size, λ k hk=>HK5.O k (Nat.lt_of_lt_of_le hk gu.size) (aM XS.O)⟩
    refine⟨b',c',pc,rfl,mN (W:=w5) (λ j hj=>kQ j hj) I2.O (λ j x=>?_) hF5 (λ G o e=>?_),AJ,⟨kK.1.mono gu.size,kK.2.mono gu.size⟩,(gu.T abR).T (eM ag)⟩
    ·match j with
     |0=>simp
     |1=>simp
     |2=>simp
     |3=>simp
     |4=>simp
     |j+5=>simp
    ·have h1:=kK.1 _ e
     have h2:=Hgl.O
     have h3:=XS.O
     have h4:wr.heap.size<=G:=h1
     omega
theorem GD(hF:au w b c ps)(xs:List Nat)(A o cb:Nat)(hx:ai w (some ⟨A,o,none⟩) xs)(h1:1<=xs.length)(h2:xs.length<=1000000)(fG:(al ps).length+xs.length<=524288):
 Calls Tryz.prog 110 #[aE b ps.length c,.slice (some ⟨A,o,none⟩) xs.length cb] w λ e w'=>∃b' c' pc,e= .returned (.tuple #[aE b' (ps.length+1) c',.int .i64 0])/\au w' b' c' (ps++[pc])/\pc.2.1=xs/\(cx w b'/\cx w pc.1)/\Below w w w':=by
 have TD:= λ (w2:World) (hb:Below w w w2)=>gg (hF.below hb)
 have hop:= λ (w2:World) (hb:Below w w w2) (Bb:Nat) (zo:w2.heap[Bb]? =some (.cells (jE (some ⟨A,o,none⟩) xs.length cb) 34))=>Aa hF hb Bb xs A o cb zo hx h1 h2 fG
 unfold aE at*
 have C5:=af TD
 have Vq:=af hop
 have bB:((xs.length:Int)==0)=false:=by simp;intro h;rw[h]at h1;simp at h1
 have H1:Hid (Below w w (((w.alloc (.cells (cK b ps.length c) 37)).alloc (.cells (jE (some ⟨A,o,none⟩) xs.length cb) 34)).alloc (.cells eY 37))):=af (by go_grown)
 clear TD hop hF hx h1 h2 fG
 go_enter Tryz.func110,Tryz.ntmps110
 go_wp2_with first
  |((refine(C5.O _ H1.O).mono ?_);rintro e w2 ⟨rfl,aC⟩;have H2:=af (H1.O.T (aC.mono H1.O.size));obtain⟨gQ,fq,mx⟩:=eH aC;obtain⟨c0,c1,c2,c3,c4⟩:=df gQ;have d0:=aJ fq;have Hz:=cj fq mx;clear gQ fq mx aC)
  |((refine(Vq.O _ H2.O _ Hz.O.1).mono ?_);rintro e w3 ⟨b',c',pc,rfl,Ro,AJ,kK,aL⟩;have hR:=(aL.block _ (aX Hz.O.2).1).T Hz.O.2;have r0:=aa hR 0;have r1:=aa hR 1;have r2:=aa hR 2;have r3:=aa hR 3;have r4:=aa hR 4;have f0:=ak hR 0;have f1:=ak hR 1;have f2:=ak hR 2;have f3:=ak hR 3;have f4:=ak hR 4;simp only[aD]at r0 r1 r2 r3 r4;have I2:=af hR;have Hlt:=af (aX Hz.O.2).1;clear hR)
  |fail
 refine bodyPost_ret (v:=.tuple (np (.agg (cK b' (ps.length+1) c')))) ?_ (by rfl) ?_
 ·rw[results_cell_tmp rfl]
  have hs:=aa (zZ (v0:=.slice none 0 0) (v1:=.slice b' (ps.length+1) c') (v2:=.int .i64 (-1)) (v3:=.int .i64 (-1)) (v4:=.bool false) I2.O)
  have s0:=hs 0
  have s1:=hs 1
  have s2:=hs 2
  have s3:=hs 3
  have s4:=hs 4
  simp only[aD]at s0 s1 s2 s3 s4
  clear hs
  go_simp
 ·refine⟨b',c',pc,rfl,mN (W:=w3) (λ j hj=>kQ j hj) I2.O (λ j x=>?_) Ro (λ G o e=>?_),AJ,?_,((H2.O.T (aL.mono H2.O.size))).T (eM ag)⟩
  ·match j with
   |0=>simp
   |1=>simp
   |2=>simp
   |3=>simp
   |4=>simp
   |j+5=>simp
  ·have h1:w2.heap.size<=G:=kK.1 _ e
   have h2:=Hlt.O
   omega
  ·exact⟨kK.1.mono H2.O.size,kK.2.mono H2.O.size⟩
theorem vd{fn:Func}{p u v:Tmp}(h:fn.results=#[.cell p ty,.tmp u,.tmp v])(tmps:Array Value)(P:Program)(w:World):
 (results fn tmps).run P w=
   ((asAddr (tmps.getD p undef)).run P w).andThen λ a xv=>((loadVar ty a).run P xv).andThen λ x B9=>.ok (.tuple #[x,tmps.getD u undef,tmps.getD v undef]) B9:=by
 simp only[results,h]
 simp[Sem.run_bind,Result.andThen]
theorem aS{u:TypeId}(h:Below ((w.alloc (.cells cs t)).alloc (.cells ds u)).heap.size ((w.alloc (.cells cs t)).alloc (.cells ds u)) w2):
 w2.heap[w.heap.size]? =some (.cells cs t)/\w2.heap[w.heap.size+1]? =some (.cells ds u):=by
 have e1:=World.alloc_heap_new w (.cells cs t)
 have e2:=World.alloc_heap_new (w.alloc (.cells cs t)) (.cells ds u)
 rw[World.size_alloc]at e2
 have s:((w.alloc (.cells cs t)).alloc (.cells ds u)).heap.size=w.heap.size+1+1:=by simp
 refine⟨?_,?_⟩
 ·rw[h.block _ ag,Below.heap_alloc _ _ _ aR];exact e1
 ·rw[h.block _ ag];exact e2
theorem I5{p:List Nat}(h:∀x∈p,x<256):∀y∈eV p,y<256:=by
 intro y hy
 simp only[eV,wL,Mi,List.mem_append,List.mem_cons,List.not_mem_nil,or_false]at hy
 rcases hy with(h1|h1)|h1
 ·omega
 ·omega
 ·exact h y h1
theorem DK(hF:au w b c ps)(hm:Marks (al ps))(p:List Nat)(a:Option Addr)(ca:Nat)(hp:ai w a p)(h1:1<=p.length)(h2:p.length<=4096)(fG:(al ps).length+(dq (al ps).length (eV p)).length<=524288):
 Calls Tryz.prog 79 #[aE b ps.length c,.slice a p.length ca] w λ e w'=>∃b' c' pc,e= .returned (.tuple #[aE b' (ps.length+1) c',.int .i64 (br (al ps).length:Nat),.int .i64 0])/\au w' b' c' (ps++[pc])/\pc.2.1=dq (al ps).length (eV p)/\(cx w b'/\cx w pc.1)/\Below w w w':=by
 obtain⟨N,hN⟩:=aK ((al ps).length)
 obtain⟨ls,Dp⟩:=aK (dq N (eV p))
 rw[<-hN,<-Dp]at fG⊢
 have sj:1<=ls.length:=by
  obtain⟨y,ys,e⟩:=uc p
  rw[Dp,e];exact Nb _ _ _
 have TD:= λ (w2:World) (hb:Below w w w2)=>gg (hF.below hb)
 have GA:= λ (w2:World) (hb:Below w w w2)=>IZ p a ca w2 h1 h2 (hp.below hb)
 have AJ:∀(w2:World),Below w w w2->∀g k,ai w2 (zp g) (eV p)->Calls Tryz.prog 108 #[aE b ps.length c,.slice (zp g) (6+p.length) k] w2 λ e w'=>∃g2 k2,e= .returned (.tuple (zq9 (zp g2) ls.length k2 (br N:Nat)))/\ai w' (zp g2) ls/\Below w2 w2 w':= λ w2 hb g k my=>by
  have:=Kk (hF.below hb) hm (eV p) (zp g) k my (by rw[mE];omega) (by rw[mE];omega)
  rw[mE,<-hN,<-Dp]at this
  refine this.mono ?_
  rintro e w' ⟨a',c',rfl,hr,hB⟩
  obtain⟨g2,rfl⟩:∃g2,a'=some ⟨g2,0,none⟩:=by
   rcases ay hr with⟨_,h,_⟩|⟨g,_,rfl,_⟩
   ·omega
   ·exact⟨g,rfl⟩
  exact⟨g2,c',rfl,(cm hr (λ y hy=>by rw[Dp]at hy;exact I1 _ _ (I5 hp.1) y hy)).1,hB⟩
 have bt:∀(w2:World),Below w w w2->∀g k,ai w2 (zp g) ls->_:= λ w2 hb g k my=>GD (hF.below hb) ls g 0 k my sj ag (by rw[<-hN];exact fG)
 have bg:∀y∈eV p,y<256:=I5 hp.1
 unfold aE at*
 have C5:=af TD
 have HO:=af GA
 have HP:=af AJ
 have zB:=af bt
 have Hlt:=af bg
 have H1:Hid (Below w w ((w.alloc (.cells (cK b ps.length c) 37)).alloc (.cells eY 37))):=af (by go_grown)
 generalize zV:br N=be at*
 clear TD GA AJ bt bg hF hp fG hm hN Dp zV
 go_enter Tryz.func79,Tryz.ntmps79
 go_wp2_with first
  |((refine(C5.O _ H1.O).mono ?_);rintro e w2 ⟨rfl,aC⟩)
  |((refine(M1 p.length h1 h2 _).mono ?_);rintro e w3 ⟨rfl,hh⟩;obtain rfl:=hh.symm)
  |fail
 have H2:=af (H1.O.T (aC.mono H1.O.size))
 obtain⟨gQ,fq⟩:=aS aC
 have jr:=aC.size
 simp only[World.size_alloc]at jr
 obtain⟨c0,c1,c2,c3,c4⟩:=df gQ
 have HZ:=cj gQ fq
 have Hsz:=af jr
 clear gQ fq aC jr
 refine eL 8 (λ w'=>w'.cell? (za w 0)=some (.slice none 0 0)/\w'.cell? (za w 1)=some (.slice b ps.length c)/\w'.cell? (za w 2)=some (.int .i64 (-1))/\w'.cell? (za w 3)=some (.int .i64 (-1))/\w'.cell? (za w 4)=some (.bool false)) aO ⟨c0,c1,c2,c3,c4⟩ (λ hS=>?_)
 refine tT 0 hS ?_
 refine tT 1 hS ?_
 refine sT 2 λ K hK=>?_
 go_simp
 refine(HO.O _ H2.O.drew).mono ?_
 rintro e w4 ⟨g,k,rfl,hg4,Zm,bH⟩
 have Nn:=af (cm Zm Hlt.O).1
 replace bH:=(Below.refl _ w2).drew.T bH
 clear Zm
 simp only[]
 refine bF hK ?_ (λ hS=>?_)
 ·exact⟨carry (w:=w2) bH c0,carry (w:=w2) bH c1,carry (w:=w2) bH c2,carry (w:=w2) bH c3,carry (w:=w2) bH c4⟩
 clear hK K
 refine sT 3 λ K hK=>?_
 go_simp
 refine(HP.O _ (H2.O.T (bH.mono H2.O.size)) g k Nn.O).mono ?_
 rintro e w5 ⟨g2,k2,rfl,Zn,bJ⟩
 replace bJ:=bH.T (bJ.mono bH.size)
 have Zo:=af Zn
 clear Zn
 simp only[]
 refine bF hK ?_ (λ hS=>?_)
 ·exact⟨carry (w:=w2) bJ c0,carry (w:=w2) bJ c1,carry (w:=w2) bJ c2,carry (w:=w2) bJ c3,carry (w:=w2) bJ c4⟩
 clear hK K
 refine tT 4 hS ?_
 refine tT 5 hS ?_
 refine tT 6 hS ?_
 refine tT 7 hS ?_
 refine sT 8 λ K hK=>?_
 go_simp
 refine iM hK ?_
 clear hK K
 refine fC aO ?_ _
 replace c0:=carry (w:=w2) bJ c0
 replace c1:=carry (w:=w2) bJ c1
 replace c2:=carry (w:=w2) bJ c2
 replace c3:=carry (w:=w2) bJ c3
 replace c4:=carry (w:=w2) bJ c4
 have H5:=af (H2.O.T (bJ.mono H2.O.size))
 have eN:=af bJ
 clear bH bJ Nn
 go_wp2_with fail
 refine(zB.O _ H5.O g2 k2 Zo.O).mono ?_
 rintro e w6 ⟨b',c',pc,rfl,hF6,AJ,kK,fD⟩
 have hF:=((fD.block _ (Nat.lt_of_lt_of_le (aX HZ.O.1).1 eN.O.size)).T (eN.O.block _ (aX HZ.O.1).1)).T HZ.O.1
 have hR:=((fD.block _ (Nat.lt_of_lt_of_le (aX HZ.O.2).1 eN.O.size)).T (eN.O.block _ (aX HZ.O.2).1)).T HZ.O.2
 have t0:=aa hF 0
 have t1:=aa hF 1
 have t2:=aa hF 2
 have t3:=aa hF 3
 have t4:=aa hF 4
 have u0:=ak hF 0
 have u1:=ak hF 1
 have u2:=ak hF 2
 have u3:=ak hF 3
 have u4:=ak hF 4
 obtain⟨w7,hw7⟩:=aK ((((((w6.setCell (za w 0) (.slice none 0 0)).setCell (za w 1) (.slice b' (ps.length+1) c')).setCell (za w 2) (.int .i64 (-1))).setCell (za w 3) (.int .i64 (-1))).setCell (za w 4) (.bool false)))
 have Zp:=zZ (v0:=.slice none 0 0) (v1:=.slice b' (ps.length+1) c') (v2:=.int .i64 (-1)) (v3:=.int .i64 (-1)) (v4:=.bool false) hF
 have hR7:=(kQ (W:=w6) (R:=w.heap.size) (v0:=.slice none 0 0) (v1:=.slice b' (ps.length+1) c') (v2:=.int .i64 (-1)) (v3:=.int .i64 (-1)) (v4:=.bool false) (w.heap.size+1) ag).T hR
 rw[<-hw7]at Zp hR7
 have H67:Hid (Below w w7 w7):=af (dp)
 simp only[aD]at t0 t1 t2 t3 t4
 have sn:=af Zp
 have Mm:=af hR7
 have Qk:=af hF
 have eX:=af hw7
 clear hR hF Zp hR7 c0 c1 c2 c3 c4 hw7
 have p0:=aa sn.O 0
 have p1:=aa sn.O 1
 have p2:=aa sn.O 2
 have p3:=aa sn.O 3
 have p4:=aa sn.O 4
 have r0:=aa Mm.O 0
 have r1:=aa Mm.O 1
 have r2:=aa Mm.O 2
 have r3:=aa Mm.O 3
 have r4:=aa Mm.O 4
 have f0:=ak Mm.O 0
 have f1:=ak Mm.O 1
 have f2:=ak Mm.O 2
 have f3:=ak Mm.O 3
 have f4:=ak Mm.O 4
 simp only[aD]at p0 p1 p2 p3 p4 r0 r1 r2 r3 r4
 go_wp2_with first
  |(rw[<-eX.O])
  |fail
 refine bodyPost_ret (v:=.tuple #[.agg (cK b' (ps.length+1) c'),.int .i64 (be:Int),.int .i64 0]) ?_ (by rfl) ?_
 ·rw[vd rfl]
  have hs:=aa (zZ (v0:=.slice none 0 0) (v1:=.slice b' (ps.length+1) c') (v2:=.int .i64 (-1)) (v3:=.int .i64 (-1)) (v4:=.bool false) Mm.O)
  have s0:=hs 0
  have s1:=hs 1
  have s2:=hs 2
  have s3:=hs 3
  have s4:=hs 4
  simp only[aD]at s0 s1 s2 s3 s4
  clear hs
  go_simp
 ·have hq:∀j x:Nat,((cK b ps.length c):Array Value)[j]? ≠some (.int .u8 (x:Int)):= λ j x=>by
   match j with
   |0=>simp
   |1=>simp
   |2=>simp
   |3=>simp
   |4=>simp
   |j+5=>simp
  have ny:∀j x:Nat,(eY:Array Value)[j]? ≠some (.int .u8 (x:Int)):= λ j x=>by
   match j with
   |0=>simp
   |1=>simp
   |2=>simp
   |3=>simp
   |4=>simp
   |j+5=>simp
  have hg:∀G o,b'=some ⟨G,o,none⟩->w.heap.size+1<G:= λ G o e=>by
   have h1:w5.heap.size<=G:=kK.1 _ e
   have h2:=(aX HZ.O.2).1
   have h3:=eN.O.size
   omega
  have Zp:=mN (W:=w6) (W':=w7) (R:=w.heap.size) (λ j hj=>by rw[eX.O];exact kQ j hj) Qk.O hq hF6 (λ G o e=>aM (hg G o e))
  have XT:Below w w w7:=by rw[eX.O];exact(H5.O.T (fD.mono H5.O.size)).T (eM (aW))
  refine⟨b',c',pc,rfl,mN (W:=w7) (λ j hj=>kQ j hj) Mm.O ny Zp (λ G o e=>aM (hg G o e)),AJ,⟨kK.1.mono H5.O.size,kK.2.mono H5.O.size⟩,XT.T (eM ag)⟩
end
abbrev fX(c:Int):Value:=.agg (UC c)
theorem cD{fn:Func}{p:Tmp}(h:fn.results=#[.cell p ty])(tmps:Array Value)(P:Program)(w:World):
 (results fn tmps).run P w=((asAddr (tmps.getD p undef)).run P w).andThen λ a xv=>(loadVar ty a).run P xv:=by
 simp only[results,h]
 simp[Sem.run_bind,Result.andThen]
theorem kR{f:Field}{fs:List Field}{xs ys:Array Value}{a b:Value}(hn:(f.name== "_")=false)(ha:(part f.type xs f.offset).run P W= .ok a W)(hb:(part f.type ys f.offset).run P W= .ok b W)(he:(Op.equalIn d f.type a b).run P W= .ok r W):
 (Op.eqFields d xs ys (f::fs)).run P W=if r then(Op.eqFields d xs ys fs).run P W else .ok false W:=by
 have hn':f.name≠ "_" :=by simpa using hn
 rw[Op.eqFields,if_pos hn']
 simp only[Sem.run_bind,ha,hb,he,Result.andThen]
 cases r<;>simp
theorem Rq{xs ys:Array Value}:(Op.eqFields d xs ys []).run P W= .ok true W:=by simp[Op.eqFields]
theorem AK{xs ys:Array Value}{fs:List Field}(ht:P.underlying t=some (.struct (P.fieldsOf t)))(hf:(P.fieldsOf t).toList=fs)(hp:P.stoodInHeld t=false)(h:(Op.eqFields 9999 xs ys fs).run P W= .ok r W):
 (Op.equalIn 10000 t (.agg xs) (.agg ys)).run P W= .ok r W:=by
 rw[run_equalIn_struct W 9999 t xs ys ht hp,hf,h]
theorem DL(c c':Int)(W:World):(Op.equalIn 10000 39 (fX c) (fX c')).run Tryz.prog W= .ok (c==c') W:=by
 obtain⟨f0,f1,f2,f3,f4,f5,hf,h0,h1,h2,h3,h4,h5⟩:∃f0 f1 f2 f3 f4 f5:Field,(Tryz.prog.fieldsOf 39).toList=[f0,f1,f2,f3,f4,f5]/\(f0.type=3/\f0.offset=0/\(f0.name== "_")=false)/\(f1.type=3/\f1.offset=1/\(f1.name== "_")=false)/\(f2.type=2/\f2.offset=2/\(f2.name== "_")=false)/\(f3.type=22/\f3.offset=3/\(f3.name== "_")=false)/\(f4.type=2/\f4.offset=4/\(f4.name== "_")=false)/\(f5.type=2/\f5.offset=5/\(f5.name== "_")=false):=
  ⟨_,_,_,_,_,_,rfl,⟨rfl,rfl,rfl⟩,⟨rfl,rfl,rfl⟩,⟨rfl,rfl,rfl⟩,⟨rfl,rfl,rfl⟩,⟨rfl,rfl,rfl⟩,⟨rfl,rfl,rfl⟩⟩
 have hi:∀(k:IntKind) (t:TypeId) (a b:Int),Tryz.prog.underlying t=some (.int k)->(Op.equalIn 9999 t (.int k a) (.int k b)).run Tryz.prog W= .ok (a==b) W:= λ k t a b h=>run_equalIn_int W 9998 t k k a b h
 refine AK aO hf aO ?_
 rw[kR (a:=.int .i64 c) (b:=.int .i64 c') (r:=c==c') h0.2.2 (by rw[h0.1,h0.2.1];kernel_rfl) (by rw[h0.1,h0.2.1];kernel_rfl) (by rw[h0.1];exact hi _ _ _ _ aO)]
 by_cases hc:c=c'
 ·subst hc
  rw[beq_self_eq_true,if_pos rfl]
  rw[kR (a:=.int .i64 0) (b:=.int .i64 0) (r:=true) h1.2.2 (by rw[h1.1,h1.2.1];kernel_rfl) (by rw[h1.1,h1.2.1];kernel_rfl) (by rw[h1.1];exact hi _ _ _ _ aO),if_pos rfl]
  rw[kR (a:=.int .i64 0) (b:=.int .i64 0) (r:=true) h2.2.2 (by rw[h2.1,h2.2.1];kernel_rfl) (by rw[h2.1,h2.2.1];kernel_rfl) (by rw[h2.1];exact hi _ _ _ _ aO),if_pos rfl]
  rw[kR (a:=.int .u64 0) (b:=.int .u64 0) (r:=true) h3.2.2 (by rw[h3.1,h3.2.1];kernel_rfl) (by rw[h3.1,h3.2.1];kernel_rfl) (by rw[h3.1];exact hi _ _ _ _ aO),if_pos rfl]
  rw[kR (a:=.int .i64 0) (b:=.int .i64 0) (r:=true) h4.2.2 (by rw[h4.1,h4.2.1];kernel_rfl) (by rw[h4.1,h4.2.1];kernel_rfl) (by rw[h4.1];exact hi _ _ _ _ aO),if_pos rfl]
  rw[kR (a:=.int .i64 0) (b:=.int .i64 0) (r:=true) h5.2.2 (by rw[h5.1,h5.2.1];kernel_rfl) (by rw[h5.1,h5.2.1];kernel_rfl) (by rw[h5.1];exact hi _ _ _ _ aO),if_pos rfl]
  exact Rq
 ·rw[show(c==c')=false by simpa using hc];rfl
theorem Rr(c c':Int)(W:World):(binOp BinOp.eql 39 (fX c) (fX c')).run Tryz.prog W= .ok (.bool (c==c')) W:=by
 rw[run_eql_struct,DL];rfl
theorem I6(c c':Int)(W:World):(binOp BinOp.neq 39 (fX c) (fX c')).run Tryz.prog W= .ok (.bool (!(c==c'))) W:=by
 rw[run_neq_struct,DL];rfl
theorem xw(c:Nat)(hc:c<=1073741824)(w:World):
 Calls Tryz.prog 168 #[fX c] w λ e w'=>e= .returned (.int .i64 0)/\Below w w w':=by
 have h1:decide ((c:Int)<0)=false:=by simp
 have h2:decide ((1073741824:Int)<(c:Int))=false:=bV
 have heq:∀W:World,(binOp BinOp.eql 39 (fX c) (fX c)).run Tryz.prog W= .ok (.bool true) W:=by
  intro W
  rw[Rr,beq_self_eq_true]
 have HB:Hid (Below w w (w.alloc (.cells (qT c) 39))):=af (by go_grown)
 go_enter Tryz.func168,Tryz.ntmps168
 go_wp2_with fail
 go_ret
 exact⟨rfl,HB.O⟩
theorem Rs(kv vv:Value)(_:kv.oneCell'=true)(_:vv.oneCell'=true)(n:Int)(w:World):
 Calls Tryz.prog 276 #[.agg #[kv,vv,.bool false,.int .i64 n]] w λ e w'=>e= .returned (fX 1)/\Below w w w':=by
 go_enter Tryz.func276,Tryz.ntmps276
 go_wp2_with fail
 exact bodyPost_ret (v:=fX 1) (by rw[cD rfl];go_simp) (by rfl) ⟨rfl,by go_grown⟩
theorem No(c d:Nat)(hc:c+d<=1073741824)(w:World):
 Calls Tryz.prog 169 #[fX c,fX d] w λ e w'=>e= .returned (fX ((c:Int)+(d:Int)))/\Below w w w':=by
 go_enter Tryz.func169,Tryz.ntmps169
 go_wp2_with fail
 exact bodyPost_ret (v:=fX ((c:Int)+(d:Int))) (by rw[cD rfl];go_simp) (by rfl) ⟨rfl,by go_grown⟩
def cmpL:List Nat->List Nat->Int
 |[],[]=>0
 |[],_::_=> -1
 |_::_,[]=>1
 |a::asz,b::bs=>if a<b then-1 else if b<a then 1 else cmpL asz bs
theorem mO:∀(a b:List Nat),cmpL a b= -1\/cmpL a b=0\/cmpL a b=1
 |[],[]=>by simp[cmpL]
 |[],_::_=>by simp[cmpL]
 |_::_,[]=>by simp[cmpL]
 |a::asz,b::bs=>by
  unfold cmpL
  split
  ·simp
  ·split
   ·simp
   ·exact mO asz bs
theorem cmpL_eq:∀(a b:List Nat),cmpL a b=0↔a=b
 |[],[]=>by simp[cmpL]
 |[],_::_=>by simp[cmpL]
 |_::_,[]=>by simp[cmpL]
 |a::asz,b::bs=>by
  unfold cmpL
  split
  ·constructor
   ·intro h;cases h
   ·intro h;cases h;omega
  ·split
   ·constructor
    ·intro h;cases h
    ·intro h;cases h;omega
   ·rw[cmpL_eq asz bs,show a=b by omega];simp
theorem uf(a:List Nat):cmpL a a=0:=(cmpL_eq a a).2 rfl
theorem mP:∀(a b:List Nat),cmpL b a= - cmpL a b
 |[],[]=>by simp[cmpL]
 |[],_::_=>by simp[cmpL]
 |_::_,[]=>by simp[cmpL]
 |a::asz,b::bs=>by
  have ih:=mP asz bs
  unfold cmpL
  by_cases h1:a<b
  ·simp[h1,Nat.lt_asymm h1]
  ·by_cases h2:b<a
   ·simp[h1,h2]
   ·simp[h1,h2,ih]
def fV(a b:List Nat):Prop:=cmpL a b= -1
theorem gK:∀(a b c:List Nat),fV a b->fV b c->fV a c
 |[],[],c,h,_=>by simp[fV,cmpL]at h
 |[],_::_,[],_,h=>by simp[fV,cmpL]at h
 |[],_::_,_::_,_,_=>by simp[fV,cmpL]
 |_::_,[],_,h,_=>by simp[fV,cmpL]at h
 |_::_,_::_,[],_,h=>by simp[fV,cmpL]at h
 |a::asz,b::bs,c::cs,h1,h2=>by
  have ih:=gK asz bs cs
  simp only[fV]at ih
  simp only[fV,cmpL]at h1 h2⊢
  by_cases ab:a<b
  ·by_cases bc:b<c
   ·rw[if_pos ag]
   ·by_cases cb:c<b
    ·simp[bc,cb]at h2
    ·rw[if_pos ag]
  ·by_cases ba:b<a
   ·simp[ab,ba]at h1
   ·rw[if_neg ab,if_neg ba]at h1
    by_cases bc:b<c
    ·rw[if_pos ag]
    ·by_cases cb:c<b
     ·simp[bc,cb]at h2
     ·rw[if_neg bc,if_neg cb]at h2
      rw[if_neg ag,if_neg ag]
      exact ih h1 h2
theorem ep(a:List Nat):¬ fV a a:=by unfold fV;rw[uf];decide
theorem pV{a b:List Nat}(h:fV a b):¬ fV b a:=by unfold fV at*;rw[mP,h];decide
theorem wN(a b:List Nat):fV a b\/a=b\/fV b a:=by
 rcases mO a b with h|h|h
 ·exact .inl h
 ·exact .inr (.inl ((cmpL_eq a b).1 h))
 ·exact .inr (.inr (by unfold fV;rw[mP,h]))
def XU(xs:List Nat):List UInt8:=xs.map UInt8.ofNat
theorem ve:∀(a b:List Nat),(∀x∈a,x<256)->(∀x∈b,x<256)->Lib.compareBytes (XU a) (XU b)=cmpL a b
 |[],[],_,_=>rfl
 |[],_::_,_,_=>rfl
 |_::_,[],_,_=>rfl
 |a::asz,b::bs,ha,hb=>by
  have ih:=ve asz bs (λ x hx=>ha x (by simp[hx])) (λ x hx=>hb x (by simp[hx]))
  have h1:=ha a aR
  have h2:=hb b aR
  have e1:(UInt8.ofNat a<UInt8.ofNat b)↔a<b:=by rw[UInt8.lt_iff_toNat_lt];simp[Nat.mod_eq_of_lt h1,Nat.mod_eq_of_lt h2]
  have e2:(UInt8.ofNat b<UInt8.ofNat a)↔b<a:=by rw[UInt8.lt_iff_toNat_lt];simp[Nat.mod_eq_of_lt h1,Nat.mod_eq_of_lt h2]
  simp only[XU,List.map_cons,Lib.compareBytes,cmpL,e1,e2]
  unfold XU at ih
  rw[ih]
theorem xx(h:ai W a xs)(hl:xs.length=n):(Extern.Bytes.bytesOf (.slice a n c)).run Tryz.prog W= .ok ⟨⟨XU xs⟩⟩ W:=by
 cases a with
 |none=>
  rcases h.2 with h0|⟨B,o,h1,_⟩
  ·subst h0;rfl
  ·cases h1
 |some p=>
  have:=Lib.run_loadBytesX (P:=Tryz.prog) W (xs.map Int.ofNat) p .empty (λ j x hj=>by
   obtain⟨y,hy,rfl⟩:∃y,xs[j]? =some y/\Int.ofNat y=x:=by simpa using hj
   rcases h.2 with h0|⟨B,o,h1,h2⟩
   ·rw[h0]at hy;cases hy
   ·cases h1
    rw[kP];exact h2 j y hy)
  rw[List.length_map,hl]at this
  show(Extern.Bytes.loadBytes p n .empty).run Tryz.prog W=_
  rw[this]
  congr 1
  apply ByteArray.ext
  simp[Lib.bytesOf,XU]
theorem DM(hx:ai W a xs)(hy:ai W b ys)(hn:xs.length=n)(hm:ys.length=m):
 (callFunc 124 (jF a n c b m d)).run Tryz.prog W= .ok (.value (.int .i64 (cmpL xs ys))) W:=by
 rw[run_callFunc_extern (fn:=Tryz.f124) aO aO aO aO (e:=Extern.BytealgCompare.compare) aO]
 have e:(Extern.BytealgCompare.compare (jF a n c b m d)).run Tryz.prog W= .ok (.int .i64 (cmpL xs ys)) W:=by
  change Sem.run Tryz.prog (do pure (goInt (Extern.BytealgCompare.cmp (<-Extern.Bytes.bytesOf (.slice a n c)) (<-Extern.Bytes.bytesOf (.slice b m d))))) W=_
  simp only[Sem.run_bind,Sem.run_pure,xx hx hn,xx hy hm,Result.andThen_ok]
  rw[Lib.cmp_eq,<-ve xs ys hx.1 hy.1]
  rfl
 rw[e];rfl
theorem gL(hx:ai w a xs)(hy:ai w b ys)(hn:xs.length=n)(hm:ys.length=m):
 Calls Tryz.prog 97 (jF a n c b m d) w λ e w'=>e= .returned (.int .i64 (cmpL xs ys))/\w'=w:=by
 have h:=DM (c:=c) (d:=d) hx hy hn hm
 clear hx hy hn hm
 go_enter Tryz.func97,Tryz.ntmps97
 go_wp2_with fail
 go_ret
 exact⟨rfl,rfl⟩
theorem Np:∀(xs ys:List Nat),(∀x∈xs,x<256)->(∀y∈ys,y<256)->xs.map UInt8.ofNat=ys.map UInt8.ofNat->xs=ys
 |[],[],_,_,_=>rfl
 |[],_::_,_,_,h=>by simp at h
 |_::_,[],_,_,h=>by simp at h
 |x::xs,y::ys,hx,hy,h=>by
  simp only[List.map_cons,List.cons.injEq]at h
  have h1:=congrArg UInt8.toNat h.1
  have a:=hx x aR
  have b:=hy y aR
  simp[Nat.mod_eq_of_lt a,Nat.mod_eq_of_lt b]at h1
  rw[h1,Np xs ys (λ z hz=>hx z (by simp[hz])) (λ z hz=>hy z (by simp[hz])) h.2]
theorem Nq(hx:∀x∈xs,x<256)(hy:∀y∈ys,y<256):((aU xs).toList==(aU ys).toList)=decide (xs=ys):=by
 rw[ByteArray.toList_eq,ByteArray.toList_eq]
 rw[Bool.eq_iff_iff]
 simp only[aU,beq_iff_eq,decide_eq_true_eq]
 exact⟨Np xs ys hx hy, λ h=>by rw[h]⟩
theorem ug(hx:ai w a xs)(hy:ai w b ys)(hn:xs.length=n)(hm:ys.length=m):
 Calls Tryz.prog 104 (jF a n c b m d) w λ e w'=>e= .returned (.bool (decide (xs=ys)))/\w'=w:=by
 have h1:=cy (c:=c) hx hn
 have h2:=cy (c:=d) hy hm
 have h3:=Nq hx.1 hy.1
 have H3:=af h3
 clear hx hy hn hm h3
 go_enter Tryz.func104,Tryz.ntmps104
 go_wp2_with fail
 go_ret
 exact⟨by rw[<-H3.O];rfl,rfl⟩
theorem Nr{fz:Nat×Nat}(h:W.heap[R]? =some (.cells #[a0,a1,a2,a3,a4,a5] t fz)):
 ((((((W.setCell (za R 0) v0).setCell (za R 1) v1).setCell (za R 2) v2).setCell (za R 3) v3).setCell (za R 4) v4).setCell (za R 5) v5).heap[R]? =some (.cells #[v0,v1,v2,v3,v4,v5] t fz):=by
 have:=aq (j:=5) v5 (aq (j:=4) v4 (aq (j:=3) v3 (aq (j:=2) v2 (aq (j:=1) v1 (aq (j:=0) v0 h)))))
 simpa using this
theorem GF(j:Nat)(hj:j≠R):
 ((((((W.setCell (za R 0) v0).setCell (za R 1) v1).setCell (za R 2) v2).setCell (za R 3) v3).setCell (za R 4) v4).setCell (za R 5) v5).heap[j]? =W.heap[j]? :=by
 rw[Below.heap_setCell _ _ _ _ hj,Below.heap_setCell _ _ _ _ hj,Below.heap_setCell _ _ _ _ hj,Below.heap_setCell _ _ _ _ hj,Below.heap_setCell _ _ _ _ hj,Below.heap_setCell _ _ _ _ hj]
theorem kS(h:n₀<=R):
 Below n₀ W ((((((W.setCell (za R 0) v0).setCell (za R 1) v1).setCell (za R 2) v2).setCell (za R 3) v3).setCell (za R 4) v4).setCell (za R 5) v5):=
 ((((((Below.refl n₀ W).setCell (p:=(za R 0)) h _).setCell (p:=(za R 1)) h _).setCell (p:=(za R 2)) h _).setCell (p:=(za R 3)) h _).setCell (p:=(za R 4)) h _).setCell (p:=(za R 5)) h _
theorem jO(h:W.heap[R]? =some (.cells #[a0,a1,a2,a3,a4,a5] t)):
 W.cell? (za R 0)=some a0/\W.cell? (za R 1)=some a1/\W.cell? (za R 2)=some a2/\W.cell? (za R 3)=some a3/\W.cell? (za R 4)=some a4/\W.cell? (za R 5)=some a5:=by
 refine⟨?_,?_,?_,?_,?_,?_⟩<;>rw[aa h]<;>rfl
theorem so(h:W.heap[R]? =some (.cells cs t)):
 W.frozen? ⟨R,0,none⟩=false/\W.frozen? ⟨R,1,none⟩=false/\W.frozen? ⟨R,2,none⟩=false/\W.frozen? ⟨R,3,none⟩=false/\W.frozen? ⟨R,4,none⟩=false/\W.frozen? ⟨R,5,none⟩=false:=
 ⟨ak h 0,ak h 1,ak h 2,ak h 3,ak h 4,ak h 5⟩
abbrev qH(kv vv:Value):Value:=.agg #[kv,vv,.bool false,.int .i64 0]
abbrev Ks(kv:Value)(at_ c:Int):Value:=.agg #[kv,.int .i64 at_,.int .i64 c,.int .i64 0,.int .i64 0,.int .u64 0,.int .i64 0,.int .i64 0]
theorem uh(a:Option Addr)(n c:Nat)(b:Option Addr)(m d:Nat)(w:World):
 Calls Tryz.prog 272 #[qH (.slice a n c) (.slice b m d)] w λ e w'=>e= .returned (.slice a n c)/\Below w w w':=by
 go_enter Tryz.func272,Tryz.ntmps272
 go_wp2_with fail
 go_ret
 exact⟨rfl,by go_grown⟩
theorem DN(a:Option Addr)(n c:Nat)(b:Option Addr)(m d:Nat)(hm:m<=100)(w:World):
 Calls Tryz.prog 271 #[qH (.slice a n c) (.slice b m d)] w λ e w'=>e= .returned (.bool true)/\Below w w w':=by
 have h:decide ((m:Int)<=100)=true:=bV
 go_enter Tryz.func271,Tryz.ntmps271
 go_wp2_with fail
 go_ret
 exact⟨rfl,by go_grown⟩
theorem xy(a:Option Addr)(n c:Nat)(b:Option Addr)(m d:Nat)(w:World):
 Calls Tryz.prog 273 #[qH (.slice a n c) (.slice b m d)] w λ e w'=>e= .returned (fX 1)/\Below w w w':=by
 go_enter Tryz.func273,Tryz.ntmps273
 go_wp2_with first
  |((with_reducible refine(Rs (.slice a n c) (.slice b m d) rfl rfl 0 _).mono ?_);rintro e w2 ⟨rfl,aC⟩;obtain⟨-,hz⟩:=aS aC;obtain⟨r0,r1,r2,r3,r4,r5⟩:=jO hz;obtain⟨f0,f1,f2,f3,f4,f5⟩:=so hz;have HZ:=af hz;have HB:=af aC;clear hz aC)
  |fail
 refine bodyPost_ret (v:=fX 1) ?_ (by rfl) ⟨rfl,?_⟩
 ·obtain⟨s0,s1,s2,s3,s4,s5⟩:=jO (Nr (v0:=.int .i64 1) (v1:=.int .i64 0) (v2:=.int .i64 0) (v3:=.int .u64 0) (v4:=.int .i64 0) (v5:=.int .i64 0) HZ.O)
  rw[cD rfl]
  go_simp
 ·exact((((Below.refl _ w).alloc (aW) _).alloc aR _).T (HB.O.mono bV)).T (kS (Nat.le_succ _))
theorem ui(a:Option Addr)(n c:Nat)(at_ k:Int)(w:World):
 Calls Tryz.prog 279 #[Ks (.slice a n c) at_ k] w λ e w'=>e= .returned (.slice a n c)/\Below w w w':=by
 go_enter Tryz.func279,Tryz.ntmps279
 go_wp2_with fail
 go_ret
 exact⟨rfl,by go_grown⟩
theorem xz(a:Option Addr)(n c:Nat)(at_ k:Int)(w:World):
 Calls Tryz.prog 280 #[Ks (.slice a n c) at_ k] w λ e w'=>e= .returned (fX k)/\Below w w w':=by
 go_enter Tryz.func280,Tryz.ntmps280
 go_wp2_with fail
 exact bodyPost_ret (v:=fX k) (by rw[cD rfl];go_simp) (by rfl) ⟨rfl,by go_grown⟩
theorem DO(a:Option Addr)(n c:Nat)(at_ k:Nat)(h1:1<=at_)(h2:at_<524288)(h3:1<=k)(h4:k<=1073741824)(w:World):
 Calls Tryz.prog 278 #[Ks (.slice a n c) at_ k] w λ e w'=>e= .returned (.bool true)/\Below w w w':=by
 have e1:decide ((1:Int)<=(at_:Int))=true:=bV
 have e2:decide ((at_:Int)<524288)=true:=bV
 have e3:decide ((1:Int)<=(k:Int))=true:=bV
 have HM:=af λ w=>xw k h4 w
 clear h1 h2 h3
 have HB:Hid (Below w w (w.alloc (.cells (gv a n c at_ k) 315))):=af (by go_grown)
 go_enter Tryz.func278,Tryz.ntmps278
 go_wp2_with first
  |((with_reducible refine(HM.O _).mono ?_);rintro e w2 ⟨rfl,aC⟩)
  |fail
 go_ret
 exact⟨rfl,HB.O.T (aC.mono HB.O.size)⟩
section
attribute [-go_sem] Builtin.append_
structure an where
 ka:Option Addr
 key:List Nat
 kc:Nat
 va:Option Addr
 val:List Nat
 vc:Nat
structure aw where
 ka:Option Addr
 key:List Nat
 kc:Nat
 at_:Nat
 count:Nat
def an.v(x:an):Value:=qH (.slice x.ka x.key.length x.kc) (.slice x.va x.val.length x.vc)
def aw.v(x:aw):Value:=Ks (.slice x.ka x.key.length x.kc) x.at_ x.count
def an.cells(x:an):List Value:=(dv x.ka x.key.length x.kc x.va x.val.length x.vc)
def aw.cells(x:aw):List Value:=(gv x.ka x.key.length x.kc x.at_ x.count)
def dQ(W:World)(a:Option Addr)(xs:List an):Prop:=
 (xs=[]\/∃B o,a=some ⟨B,o,none⟩/\∀(j:Nat) (x:an),xs[j]? =some x->W.cell? ⟨B,o+j*4,none⟩=some (.slice x.ka x.key.length x.kc)/\W.cell? ⟨B,o+j*4+1,none⟩=some (.slice x.va x.val.length x.vc)/\W.cell? ⟨B,o+j*4+2,none⟩=some (.bool false)/\W.cell? ⟨B,o+j*4+3,none⟩=some (.int .i64 0))/\
 ∀x∈xs,ai W x.ka x.key/\ai W x.va x.val
def gT(W:World)(a:Option Addr)(xs:List aw):Prop:=
 (xs=[]\/∃B o,a=some ⟨B,o,none⟩/\∀(j:Nat) (x:aw),xs[j]? =some x->∀(i:Nat) (v:Value),x.cells[i]? =some v->W.cell? ⟨B,o+j*8+i,none⟩=some v)/\
 ∀x∈xs,ai W x.ka x.key
theorem dQ.below{W W':World}{a:Option Addr}{xs:List an}(h:dQ W a xs)(hb:Below W W W'):dQ W' a xs:=by
 refine⟨?_, λ x hx=>⟨(h.2 x hx).1.below hb,(h.2 x hx).2.below hb⟩⟩
 rcases h.1 with h0|⟨B,o,e,hc⟩
 ·exact .inl h0
 ·exact .inr ⟨B,o,e, λ j x hj=>⟨carry hb (hc j x hj).1,carry hb (hc j x hj).2.1,carry hb (hc j x hj).2.2.1,carry hb (hc j x hj).2.2.2⟩⟩
theorem gT.below{W W':World}{a:Option Addr}{xs:List aw}(h:gT W a xs)(hb:Below W W W'):gT W' a xs:=by
 refine⟨?_, λ x hx=>(h.2 x hx).below hb⟩
 rcases h.1 with h0|⟨B,o,e,hc⟩
 ·exact .inl h0
 ·exact .inr ⟨B,o,e, λ j x hj i v hi=>carry hb (hc j x hj i v hi)⟩
def jV(x:an):Value:=.iface 314 x.v
def jW(x:aw):Value:=.iface 315 x.v
theorem Tryz.DP:(Tryz.prog.info? 254).map (λ i=>(i.zero,i.size,i.bytes))=some (some .nilIface,1,16):=aO
theorem nD{xs:List an}(c:Nat)(h:dQ w a xs)(hl:xs.length<=1000)(b:Option Addr)(m d:Nat):
 Calls Tryz.prog 127 #[.agg #[.bool true,.slice a xs.length c,.slice b m d]] w λ e w'=>∃p k,e= .returned (.tuple #[.slice p xs.length k,.int .i64 1])/\w'.ownsRow w 254 1 (.slice p xs.length k) xs.length (xs.map jV)/\Below w w w':=by
 have H:=af h
 have ei:Hid (Below w w (w.alloc (.cells #[.bool true,.slice a xs.length c,.slice b m d] 169))):=af (by go_grown)
 clear h
 go_enter Tryz.func127,Tryz.ntmps127
 go_wp2_with fail
 go_loopw [2,13] (λ rv iv wr=>∃j:Nat,j<=xs.length/\iv= .int .i64 (j:Int)/\∃p k,rv= .slice p j k/\Hid (wr.ownsRow w 254 1 (.slice p j k) j ((xs.take j).map jV))/\Hid (Below w w wr)) (λ _ iv _=>xs.length - (intOf iv).toNat)
 case atStart=>exact⟨0,Nat.zero_le _,rfl,none,0,rfl,af ⟨by simp,.inl ⟨rfl,rfl⟩⟩,ei⟩
 case round=>
  obtain⟨j,hj,rfl,p,k,rfl,ax,hB⟩:=hrel
  by_cases bg:j<xs.length
  ·obtain⟨x,hx⟩:∃x,xs[j]? =some x:=⟨xs[j],by simp[bg]⟩
   obtain⟨B,o,rfl,hc⟩:∃B o,a=some ⟨B,o,none⟩/\_:=by
    rcases(H.O.below hB.O).1 with h0|⟨B,o,e,hc⟩
    ·rw[h0]at bg;simp at bg
    ·exact⟨B,o,e,hc j x hx⟩
   obtain⟨c0,c1,c2,c3⟩:=hc
   obtain⟨g',c',w',bt,dN,zu,mg, -, -⟩:=fM (P:=Tryz.prog) 250 254 .nilIface 1 16 aO Tryz.DP rfl bd (W:=wr.alloc (.cells (dv x.ka x.key.length x.kc x.va x.val.length x.vc) 114)) #[jV x] rfl (by simp[jV,Value.oneCell']) (ax.O.alloc _) ag ag (by have:=hB.O.size;simp;omega)
   have dM:=af (show w'.ownsRow w 254 1 (.slice (zp g') (j+1) c') (j+1) ((xs.take (j+1)).map jV)/\Below w w w' from⟨by rw[List.take_add_one,hx];simpa using dN,hB.O.T ((((Below.refl _ wr).alloc (aW) _).mono hB.O.size).T zu)⟩)
   have bB:((j:Int)<(xs.length:Int)):=ag
   have Vr:(j:Int)<=1000:=ag
   unfold jV an.v at bt
   rw[World.size_alloc]at bt
   clear hx dN zu mg
   go_wp2_with fail
   exact⟨⟨j+1,ag,by simp,_,_,rfl,af dM.O.1,af dM.O.2⟩,by simp[intOf];omega⟩
  ·obtain rfl:j=xs.length:=ag
   rw[List.take_length]at ax
   go_wp2_with fail
   go_ret2
   exact⟨p,k,rfl,ax.O,hB.O⟩
theorem lM{xs:List aw}(c:Nat)(h:gT w a xs)(hl:xs.length<=1000)(b:Option Addr)(m d:Nat):
 Calls Tryz.prog 127 (Gi (.agg (qU b m d a xs.length c))) w λ e w'=>∃p k,e= .returned (.tuple #[.slice p xs.length k,.int .i64 2])/\w'.ownsRow w 254 1 (.slice p xs.length k) xs.length (xs.map jW)/\Below w w w':=by
 have H:=af h
 have ei:Hid (Below w w (w.alloc (.cells (qU b m d a xs.length c) 169))):=af (by go_grown)
 clear h
 go_enter Tryz.func127,Tryz.ntmps127
 go_wp2_with fail
 go_loopw [2,27] (λ rv iv wr=>∃j:Nat,j<=xs.length/\iv= .int .i64 (j:Int)/\∃p k,rv= .slice p j k/\Hid (wr.ownsRow w 254 1 (.slice p j k) j ((xs.take j).map jW))/\Hid (Below w w wr)) (λ _ iv _=>xs.length - (intOf iv).toNat)
 case atStart=>exact⟨0,Nat.zero_le _,rfl,none,0,rfl,af ⟨by simp,.inl ⟨rfl,rfl⟩⟩,ei⟩
 case round=>
  obtain⟨j,hj,rfl,p,k,rfl,ax,hB⟩:=hrel
  by_cases bg:j<xs.length
  ·obtain⟨x,hx⟩:∃x,xs[j]? =some x:=⟨xs[j],by simp[bg]⟩
   obtain⟨B,o,rfl,hc⟩:∃B o,a=some ⟨B,o,none⟩/\_:=by
    rcases(H.O.below hB.O).1 with h0|⟨B,o,e,hc⟩
    ·rw[h0]at bg;simp at bg
    ·exact⟨B,o,e,hc j x hx⟩
   have c0:=hc 0 _ rfl
   have c1:=hc 1 _ rfl
   have c2:=hc 2 _ rfl
   have c3:=hc 3 _ rfl
   have c4:=hc 4 _ rfl
   have c5:=hc 5 _ rfl
   have c6:=hc 6 _ rfl
   have c7:=hc 7 _ rfl
   rw[Nat.add_zero]at c0
   clear hc
   obtain⟨g',c',w',bt,dN,zu,mg, -, -⟩:=fM (P:=Tryz.prog) 250 254 .nilIface 1 16 aO Tryz.DP rfl bd (W:=wr.alloc (.cells (gv x.ka x.key.length x.kc x.at_ x.count) 175)) #[jW x] rfl (by simp[jW,Value.oneCell']) (ax.O.alloc _) ag ag (by have:=hB.O.size;simp;omega)
   have dM:=af (show w'.ownsRow w 254 1 (.slice (zp g') (j+1) c') (j+1) ((xs.take (j+1)).map jW)/\Below w w w' from⟨by rw[List.take_add_one,hx];simpa using dN,hB.O.T ((((Below.refl _ wr).alloc (aW) _).mono hB.O.size).T zu)⟩)
   have bB:((j:Int)<(xs.length:Int)):=ag
   have Vr:(j:Int)<=1000:=ag
   unfold jW aw.v at bt
   rw[World.size_alloc]at bt
   clear hx dN zu mg
   go_wp2_with fail
   exact⟨⟨j+1,ag,by simp,_,_,rfl,af dM.O.1,af dM.O.2⟩,by simp[intOf];omega⟩
  ·obtain rfl:j=xs.length:=ag
   rw[List.take_length]at ax
   go_wp2_with fail
   go_ret2
   exact⟨p,k,rfl,ax.O,hB.O⟩
end
end Go.Proofs.YtkgapncajjafoaaGreatDoor

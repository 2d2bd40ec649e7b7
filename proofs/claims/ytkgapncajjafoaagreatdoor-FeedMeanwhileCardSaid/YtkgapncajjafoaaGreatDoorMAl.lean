/- The store, part 12. -/
import Derived.Test.YtkgapncajjafoaaGreatDoorMAa
import Derived.Test.YtkgapncajjafoaaGreatDoorMAg
import Derived.Test.YtkgapncajjafoaaGreatDoorMAk
import Derived.Test.YtkgapncajjafoaaGreatDoorMAj
import Derived.Test.YtkgapncajjafoaaGreatDoorMAb
import Derived.Test.YtkgapncajjafoaaGreatDoorMAc
import Derived.Lib.AppendZeros
set_option linter.unusedSimpArgs false
set_option linter.unusedVariables false
set_option maxRecDepth 100000
set_option maxHeartbeats 16000000
namespace Go.Proofs.YtkgapncajjafoaaGreatDoor
open Go.RowKit Go.Shelf
variable{W w W' w0:World}{n₀ k d n sz c k' B R g m o cf c1 Bw f hh ht lo base h:Nat}{a q b b':Option Addr}{all xs key eh:List Nat}{l0 lr:List Ed}{its s:List KV}{ks:List aw}{l:List bN}{P:World -> Prop}{TP t:TypeId}{v0 v1:Value}{ps bK:List Piece}{r:aN}{ys:List an}
section
attribute [local go_sem] Oper.semAt_some
attribute [-go_sem] Builtin.append_
theorem JE:(Tryz.prog.info? 333).map (λ i=>(i.zero,i.size,i.bytes))=some (some (.agg fe),11,120):=aO
structure jt(W:World)(a:Option Addr)(rs:List aN):Prop where
 row:bj aN.cells 9 W a rs
 keys:∀r∈rs,ai W r.k.ka r.k.key
theorem jt.below{W W':World}{a:Option Addr}{rs:List aN}(h:jt W a rs)(hb:Below W W W'):jt W' a rs:=⟨h.row.below hb, λ r hr=>(h.keys r hr).below hb⟩
theorem xM.at{rs:List aN}(h:xM W n₀ a k rs):jt W a rs:=⟨bj.gX h.1 (λ _=>rfl) bd, λ r hr=>(h.2 r hr).1⟩
def fF(h:Nat)(r:aN):Pv aw:=if h<r.h then .kept r else .loose [r.k]
theorem uL{rs:List aN}(c h:Nat)(hR:jt w a rs)(hl:rs.length<=1000):
 Calls Tryz.prog 147 #[.slice a rs.length c,.int .i64 (h:Int)] w λ e w'=>∃(ps:List (Pc aw)) (q:Option Addr) (k:Nat),e= .returned (.slice q ps.length k)/\ps.map Pc.val=rs.map (fF h)/\bU r9 w' q k ps/\Below w w w':=by
 have HR:=af hR
 have Kx:(rs.length:Int)<=1000:=ag
 clear hR
 go_enter Tryz.func147,Tryz.ntmps147
 go_wp2_with fail
 go_loopw [5,10] (λ rv iv wr=>∃(j:Nat) (ps:List (Pc aw)) (q:Option Addr) (k':Nat),j<=rs.length/\iv= .int .i64 (j:Int)/\rv= .slice q j k'/\Hid (ps.length=j)/\Hid (ps.map Pc.val=(rs.take j).map (fF h))/\Hid (mq r9 175 333 w wr q k' ps)) (λ _ iv _=>rs.length - (intOf iv).toNat)
 case atStart=>exact⟨0,[],none,0,ag,rfl,rfl,af rfl,af rfl,af ⟨dp,World.ownsRow_nil _ _ _ _, λ p hp=>by cases hp⟩⟩
 case round=>
  obtain⟨j,ps,q,k',hj,rfl,rfl,wH,zG,hP⟩:=hrel
  by_cases bg:j<rs.length
  ·obtain⟨r,hr⟩:∃r,rs[j]? =some r:=⟨rs[j],by simp[bg]⟩
   obtain⟨B,o,rfl⟩:=HR.O.row.some_ ag
   have hg:wr.rangeAt B (o+j*9) (fI r.k.ka r.k.key.length r.k.kc r.k.at_ r.k.count r.h):=(HR.O.row.below hP.O.base).get hr
   have gy:(j:Int)<(rs.length:Int):=ag
   have rj:(j:Int)<=1000:=ag
   obtain⟨V,hV⟩:=aK (wr.alloc (.cells (fI r.k.ka r.k.key.length r.k.kc r.k.at_ r.k.count r.h) 285))
   have jA:Below wr wr V:=by rw[hV];go_grown
   have vu:V.heap.size=wr.heap.size+1:=by rw[hV];simp
   have jI:V.heap[wr.heap.size]? =some (.cells (fI r.k.ka r.k.key.length r.k.kc r.k.at_ r.k.count r.h) 285):=jJ hV
   have gR:=aj (W:=V) (B:=wr.heap.size) (cs:=(fI r.k.ka r.k.key.length r.k.kc r.k.at_ r.k.count r.h)) (t:=285) jI
   have r8:V.cell? (za wr 8)=some (.int .i64 (r.h:Int)):=(aa jI 8).T rfl
   have qi:=hP.O.other jA
   have HT:Hid ((rs.take (j+1)).map (fF h)=(rs.take j).map (fF h)++[fF h r]):=af (by rw[List.take_add_one,hr];simp)
   have TE:=List.mem_of_getElem? hr
   have eK:=HR.O.keys r TE
   by_cases hh:h<r.h
   ·have hc:decide ((h:Int)<(r.h:Int))=true:=bV
    have hcN:decide (h<r.h)=true:=bV
    have vC:fF h r= .kept r:=if_pos hh
    obtain⟨g',c',w',bt,qj⟩:=qi.put (P:=Tryz.prog) (TS:=294) (z:=(.agg fe)) (bytes:=120) aO JE rfl bd bd (.kept r) eK (by rw[wH.O];omega)
    have HN:Hid (mq r9 175 333 w w' (zp g') c' (ps++[.kept r])):=af qj
    have vp:Hid ((ps++[(.kept r:Pc aw)]).map Pc.val=(rs.take (j+1)).map (fF h)):=af (by rw[HT.O,vC,List.map_append,zG.O];rfl)
    have qL:Hid ((ps++[(.kept r:Pc aw)]).length=j+1):=af (by rw[List.length_append,wH.O];rfl)
    rw[wH.O,vu]at bt
    simp only[Pc.cells,List.toArray]at bt
    rw[hV]at gR r8 bt
    clear hr hV jA vu jI qi TE eK hh vC qj
    go_wp2_with first
     |(refine bh 285 ?_)
     |(refine et 285 ?_)
     |fail
    exact⟨⟨j+1,_,_,_,ag,by simp,rfl,qL,vp,HN⟩,by simp[intOf];omega⟩
   ·have hc:decide ((h:Int)<(r.h:Int))=false:=bV
    have hcN:decide (h<r.h)=false:=bV
    have vC:fF h r= .loose [r.k]:=if_neg hh
    have uJ:V.rangeAt wr 0 (gv r.k.ka r.k.key.length r.k.kc r.k.at_ r.k.count):= λ i v hv=>gR i v (by rcases i with _|_|_|_|_|_|_|_|i<;>first|exact hv|(simp at hv))
    obtain⟨V2,CM⟩:=aK (V.alloc (.cells (gv r.k.ka r.k.key.length r.k.kc r.k.at_ r.k.count) 175))
    have oK:Below V V V2:=by rw[CM];go_grown
    have ach:V2.heap.size=wr.heap.size+1+1:=by rw[CM];simp[vu]
    have eW:V2.ownsRow w 175 8 (.slice (zp V) 1 1) 1 ([r.k].flatMap aw.cells):=by
     rw[CM]
     refine⟨rfl,.inr ⟨V.heap.size,1,(gv r.k.ka r.k.key.length r.k.kc r.k.at_ r.k.count),rfl,qi.base.size,World.alloc_heap_new _ _,aW,by decide,rfl,rfl⟩⟩
    obtain⟨g',c',w',bt,qj⟩:=(qi.other oK).put (P:=Tryz.prog) (TS:=294) (z:=(.agg fe)) (bytes:=120) aO JE rfl bd bd (.loose (zp V) 1 [r.k]) (.inr ⟨eW, λ y hy=>by rw[List.mem_singleton]at hy;subst hy;exact eK⟩) (by rw[wH.O];omega)
    have HN:=af qj
    have vp:Hid ((ps++[(.loose (zp V) 1 [r.k]:Pc aw)]).map Pc.val=(rs.take (j+1)).map (fF h)):=af (by rw[HT.O,vC,List.map_append,zG.O];rfl)
    have qL:Hid ((ps++[(.loose (zp V) 1 [r.k]:Pc aw)]).length=j+1):=af (by rw[List.length_append,wH.O];rfl)
    rw[wH.O,ach]at bt
    simp only[Pc.cells,List.toArray,List.length_cons,List.length_nil,vu]at bt
    rw[CM]at bt
    rw[hV]at gR uJ r8 bt
    clear hr hV jA jI qi TE eK hh vC qj CM oK eW
    go_wp2_with first
     |(refine bh 285 ?_)
     |(refine bh 175 ?_)
     |(refine et 285 ?_)
     |fail
    exact⟨⟨j+1,_,_,_,ag,by simp,rfl,qL,vp,HN⟩,by simp[intOf];omega⟩
  ·obtain rfl:j=rs.length:=ag
   go_wp2_with fail
   go_ret
   refine⟨ps,q,k',by rw[wH.O];rfl,by rw[zG.O,List.take_length],hP.O.fin,hP.O.base⟩
def Pv.CN{α:Type}:Pv α->Bool| .kept _=>true| .loose _=>false
theorem Sv{α:Type}(p:Pc α):p.CN=p.val.CN:=by cases p<;>rfl
theorem Sw{α:Type}(ps:List (Pc α)):ps.any (λ p=> !p.CN)=(ps.map Pc.val).any λ p=> !p.CN:=by
 rw[List.any_map];congr 1;funext p;rw[Function.comp_apply,Sv]
def LG(all:List Nat)(r:aN)(its:List KV)(l:List Ed)(V:List (Pv an)):Prop:=
 (V=[.kept r]/\dK its l=its)\/(aT (nk all zE 0) V (dK its l)/\V.length<=its.length/\V.any (λ p=> !p.CN)=true)
theorem WE{a b c:List Nat}(h:fV a b)(h2:¬ fV c b):fV a c:=by
 rcases wN b c with h3|h3|h3
 ·exact gK _ _ _ h h3
 ·rw[<-h3];exact h
 ·exact absurd h3 h2
def wm(all:List Nat)(d:Nat)(l0:List Ed)(its:List KV)(ks:List aw)(V:List (Pv an))(lr:List Ed):Prop:=
 ∃A B l1,its=A++B/\l0=l1++lr/\aT (qO all d) ks B/\aT (nk all zE 0) V (dK A l1)/\V.length<=A.length/\(∀e∈l1,∀b∈B,fV e.key b.1)/\(∀e∈lr,∀a∈A,fV a.1 e.key)/\(V.any (λ p=> !p.CN)=false->dK A l1=A)/\(ks=[]->lr=[])
theorem wm.start(h:aT (qO all d) ks its)(hk:ks≠[]):wm all d l0 its ks [] l0:=
 ⟨[],its,[],rfl,rfl,h,rfl,aW, λ e he=>(by cases he), λ e _ a ha=>(by cases ha), λ _=>rfl, λ e=>absurd e hk⟩
structure Sx(ks:List aw)(lr ln Sy:List Ed):Prop where
 eq:lr=ln++Sy
 next:∀z r,ks=z::r->(∀e∈ln,fV e.key z.key)/\∀e,Sy[0]? =some e->¬ fV e.key z.key
 last:ks=[]->Sy=[]
theorem wm.WG{y:aw}{V:List (Pv an)}(h:wm all d l0 its (y::ks) V lr)(hr:bb (its.map Prod.fst)):∃s,cW all ⟨y,d⟩ s/\bb (s.map Prod.fst)/\s.length<=its.length/\
 ∀(ln Sy:List Ed) (V':List (Pv an)),l0.Pairwise (λ a b=>fV a.key b.key)->Sx ks lr ln Sy->LG all ⟨y,d⟩ s ln V'->wm all d l0 its ks (V++V') Sy:=by
 obtain⟨A,B,l1,h1,h2,⟨s,B',g1,g2,g3⟩,h4,h5,h6,h7,h8,h9⟩:=h
 have mz:bb ((A++(s++B')).map Prod.fst):=by rw[h1,g3]at hr;exact hr
 refine⟨s,g1,(gn (gn mz).2).1,by rw[h1,g3];simp only[List.length_append];omega, λ ln Sy V' hp hc hv=>?_⟩
 have hz:∀z r,ks=z::r->(∀b∈B',z.key=b.1\/fV z.key b.1)/\∀a∈s,fV a.1 z.key:= λ z r e=>by
  subst e
  obtain⟨t,r2,f1,f2,f3⟩:=g2
  obtain⟨kv,l,e1,e2⟩:=cW.first f1
  dsimp only at e2
  have hB:B'=kv::(l++r2):=by rw[f3,e1];rfl
  refine⟨λ b hb=>?_, λ a ha=>?_⟩
  ·rw[e2]
   rw[hB]at hb
   rcases List.mem_cons.1 hb with rfl|hb
   ·exact .inl rfl
   ·right
    have h3:=qa.1 (gn (gn mz).2).2
    rw[hB,PW,List.pairwise_cons]at h3
    exact h3.1 b hb
  ·rw[e2]
   exact xJ (gn mz).2 ha (by rw[hB];exact List.mem_cons_self)
 have hd:dK (A++s) (l1++ln)=dK A l1++dK s ln:=xW s ln l1 A (λ e he b hb=>h6 e he b (by rw[g3];exact List.mem_append_left _ hb)) λ e he a ha=>h7 e (by rw[hc.eq];exact List.mem_append_left _ he) a ha
 obtain⟨kv,l,e1,_⟩:=cW.first g1
 refine⟨A++s,B',l1++ln,by rw[h1,g3,List.append_assoc],by rw[h2,hc.eq,List.append_assoc],g2,?_,?_,?_,?_,?_,hc.last⟩
 ·rw[hd]
  refine aT.app.2 ⟨_,_,h4,?_,rfl⟩
  rcases hv with⟨rfl,e⟩|⟨e,_⟩
  ·rw[e];exact aT.one.2 ⟨g1,Nat.zero_le _⟩
  ·exact e
 ·rw[List.length_append,List.length_append]
  rcases hv with⟨rfl,e⟩|⟨_,e,_⟩
  ·rw[e1];simp only[List.length_cons,List.length_nil];omega
  ·omega
 ·intro e he b hb
  rcases List.mem_append.1 he with he|he
  ·exact h6 e he b (by rw[g3];exact List.mem_append_right _ hb)
  ·cases ks with
   |nil=>cases g2;cases hb
   |cons z r=>
    have h3:=(hc.next z r rfl).1 e he
    rcases(hz z r rfl).1 b hb with h4|h4
    ·rw[<-h4];exact h3
    ·exact gK _ _ _ h3 h4
 ·intro e he a ha
  cases ks with
  |nil=>rw[hc.last rfl]at he;cases he
  |cons z r=>
   have hze:¬ fV e.key z.key:=by
    cases Sy with
    |nil=>cases he
    |cons e0 Sy=>
     have h3:=(hc.next z r rfl).2 e0 rfl
     rcases List.mem_cons.1 he with rfl|he
     ·exact h3
     ·rw[h2,hc.eq]at hp
      have h4:=(List.pairwise_append.1 (List.pairwise_append.1 hp).2.1).2.1
      rw[List.pairwise_cons]at h4
      exact λ h5=>h3 (gK _ _ _ (h4.1 e he) h5)
   rcases List.mem_append.1 ha with ha|ha
   ·exact h7 e (by rw[hc.eq];exact List.mem_append_right _ he) a ha
   ·exact WE ((hz z r rfl).2 a ha) hze
 ·intro LH
  rw[List.any_append,Bool.or_eq_false_iff]at LH
  rw[hd,h8 LH.1]
  rcases hv with⟨_,e⟩|⟨_,_,e⟩
  ·rw[e]
  ·rw[e]at LH;cases LH.2
theorem wm.fin{V:List (Pv an)}(h:wm all d l0 its [] V lr)(r:aN):(V.any (λ p=> !p.CN)=false->LG all r its l0 [.kept r])/\(V.any (λ p=> !p.CN)=true->LG all r its l0 V):=by
 obtain⟨A,B,l1,h1,h2,h3,h4,h5,_,_,h8,h9⟩:=h
 cases h3
 rw[h9 rfl,List.append_nil]at h2
 rw[List.append_nil]at h1
 subst h1 h2
 exact⟨λ e=>.inl ⟨rfl,h8 e⟩, λ e=>.inr ⟨h4,h5,e⟩⟩
theorem wm.C3{V:List (Pv an)}(h:wm all d l0 its ks V lr):V.length<=its.length/\lr.length<=l0.length:=by
 obtain⟨A,B,l1,h1,h2,_,_,h5,_⟩:=h
 rw[h1,h2];simp only[List.length_append];omega
theorem qk:∀{l:List bN} {its:List an} {z:an},z∈bE its l->z∈its\/∃x∈l,z=nH x
 |[],_,_,h=>.inl h
 |x::l,its,z,h=>by
  rw[bE]at h
  rcases List.mem_append.1 h with h|h
  ·exact .inl (List.takeWhile_subset _ h)
  ·rcases List.mem_append.1 h with h|h
   ·split at h
    ·rw[List.mem_singleton]at h;exact .inr ⟨x,List.mem_cons_self,h⟩
    ·cases h
   ·rcases qk h with h|⟨y,hy,h⟩
    ·left
     have:∀(l:List an),∀z∈mo x l,z∈l:= λ l z hz=>by
      cases l with
      |nil=>exact hz
      |cons y r=>
       by_cases hk:y.key=x.key
       ·rw[show mo x (y::r)=r from if_pos hk]at hz;exact List.mem_cons_of_mem _ hz
       ·rw[show mo x (y::r)=y::r from if_neg hk]at hz;exact hz
     exact List.dropWhile_subset _ (this _ _ h)
    ·exact .inr ⟨y,List.mem_cons_of_mem _ hy,h⟩
theorem yP(h:bb (l.map bN.key)):(l.map rF).Pairwise λ a b=>fV a.key b.key:=by
 rw[List.pairwise_iff_getElem]
 intro i j hi hj hij
 rw[List.getElem_map,List.getElem_map]
 rw[List.length_map]at hi hj
 exact h.lt hij (by rw[List.getElem?_map,List.getElem?_eq_getElem hi];rfl) (by rw[List.getElem?_map,List.getElem?_eq_getElem hj];rfl)
structure gd(G:Nat->Prop)(W W':World):Prop where
 os:W'.os=W.os
 tape:W'.tape=W.tape
 output:W'.output=W.output
 size:W.heap.size<=W'.heap.size
 block:∀k,k<W.heap.size->¬ G k->W'.heap[k]? =W.heap[k]?
theorem gd.refl(G:Nat->Prop)(W:World):gd G W W:=⟨rfl,rfl,rfl,aW, λ _ _ _=>rfl⟩
theorem gd.T{G:Nat->Prop}{U V W:World}(h:gd G U V)(k:gd G V W):gd G U W:=⟨k.os.T h.os,k.tape.T h.tape,k.output.T h.output,Nat.le_trans h.size k.size, λ i hi hr=>(k.block i (Nat.lt_of_lt_of_le hi h.size) hr).T (h.block i hi hr)⟩
theorem gd.aA{G:Nat->Prop}(h:Below W W W'):gd G W W':=⟨h.os,h.tape,h.output,h.size, λ k hk _=>h.block k hk⟩
theorem gd.mono{G G':Nat->Prop}(h:gd G W W')(hg:∀j,G j->G' j):gd G' W W':=⟨h.os,h.tape,h.output,h.size, λ k hk hn=>h.block k hk λ hc=>hn (hg k hc)⟩
theorem gd.below{G:Nat->Prop}(h:gd G W W')(hg:∀j,G j->n<=j)(hn:n<=W.heap.size):Below n W W':=⟨h.os,h.tape,h.output,h.size, λ k hk=>h.block k ag λ hc=>aM (hg k hc)⟩
theorem gd.pull{G G':Nat->Prop}(hb:Below w w W)(h:gd G' W W')(hg:∀j,G' j->G j\/w.heap.size<=j):gd G w W':=
 ⟨h.os.T hb.os,h.tape.T hb.tape,h.output.T hb.output,Nat.le_trans hb.size h.size, λ k hk hn=>(h.block k (Nat.lt_of_lt_of_le hk hb.size) λ hc=>(hg k hc).elim hn ag).T (hb.block k hk)⟩
def St(G:Nat->Prop)(W:World)(P:World->Prop):Prop:=∀W',gd G W W'->P W'
theorem St.here{G:Nat->Prop}(h:St G W P):P W:=h W (gd.refl _ _)
theorem St.go{G:Nat->Prop}(h:St G W P)(ho:gd G W W'):St G W' P:= λ V hV=>h V (ho.T hV)
theorem St.pull{G G':Nat->Prop}{w W:World}{P:World->Prop}(h:St G w P)(hb:Below w w W)(hg:∀j,G' j->G j\/w.heap.size<=j):St G' W P:= λ V hV=>h V (gd.pull hb hV hg)
theorem St.imp{G:Nat->Prop}{Q:World->Prop}(h:St G W P)(hi:∀V,P V->Q V):St G W Q:= λ V hV=>hi V (h V hV)
theorem St.free(hP:∀V,Below W W V->P V):St (λ _=>False) W P:= λ V hV=>hP V (hV.below (λ _ h=>h.elim) (aW))
theorem pK{G:Nat->Prop}(h:ai w a xs)(hf:cx n a)(hb:Below w w W)(hg:∀j,G j->j<n\/w.heap.size<=j):St G W λ V=>ai V a xs:= λ V hV=>by
 refine⟨h.1,?_⟩
 rcases h.2 with h0|⟨C,o,e,hc⟩
 ·exact .inl h0
 ·refine .inr ⟨C,o,e, λ j x hx=>?_⟩
  have h1:=hc j x hx
  have bg:C<w.heap.size:=World.block_lt_of_cell? w _ h1
  have hn:n<=C:=hf _ e
  refine(World.cell?_of_block (w:=w) ((hV.block C (Nat.lt_of_lt_of_le bg hb.size) λ hc=>?_).T (hb.block C bg))).T h1
  have:=hg C hc;omega
theorem WH{β:Type}{f:β->List Value}{G:Nat->Prop}{e:Nat}{xs:List β}(h:w.ownsRow n₀ e sz (.slice a k c) k (xs.flatMap f))(hf:∀x,(f x).length=sz)(jr:0<sz)(hb:Below w w W)(hg:∀j,G j->j<n₀\/w.heap.size<=j):St G W λ V=>bj f sz V a xs:= λ V hV=>by
 refine bj.gX (dx h λ g eU=>?_) hf jr
 rcases ay h with⟨h1,_⟩|⟨g2,cur,h1,h2,h3⟩
 ·rw[eU]at h1;cases h1
 ·rw[eU]at h1;cases h1
  have bg:=(aX h3).1
  exact(hV.block g (Nat.lt_of_lt_of_le bg hb.size) λ hc=>aM (hg g hc)).T (hb.block g bg)
abbrev lp(q:Option Addr)(j:Nat):Prop:=q=some ⟨j,0,none⟩
section
variable {α : Type}
structure tk(K:sI α)(TP:TypeId)(G:Nat->Prop)(w W:World)(q:Option Addr)(k':Nat)(ps:List (Pc α)):Prop where
 base:Below w w W
 low:∀j,G j->j<w.heap.size
 row:W.ownsRow w TP 11 (.slice q ps.length k') ps.length (ps.flatMap Pc.cells)
 each:∀p∈ps,St (λ j=>G j\/lp q j) W λ V=>rE K V p
theorem tk.start{K:sI α}{G:Nat->Prop}(hl:∀j,G j->j<w.heap.size):tk K TP G w w none 0 []:=⟨dp,hl,World.ownsRow_nil _ _ _ _, λ p hp=>(by cases hp)⟩
theorem tk.tl{K:sI α}{G:Nat->Prop}{ps:List (Pc α)}(h:tk K TP G w W q k' ps){j:Nat}(hj:lp q j):w.heap.size<=j/\j<W.heap.size:=by
 rcases ay h.row with⟨h1,_⟩|⟨g2,cur,h1,h2,h3⟩
 ·rw[show q=_ from hj]at h1;cases h1
 ·rw[show q=_ from hj]at h1;cases h1
  exact⟨h2,(aX h3).1⟩
theorem tk.other{K:sI α}{G:Nat->Prop}{ps:List (Pc α)}(h:tk K TP G w W q k' ps)(hb:Below W W W'):tk K TP G w W' q k' ps:=
 ⟨h.base.T (hb.mono h.base.size),h.low,bO.row (n₀:=w.heap.size) hb h.row, λ p hp=>(h.each p hp).go (gd.aA hb)⟩
theorem tk.KQ{P:Program}{K:sI α}{TS:TypeId}{z:Value}{bytes:Nat}(ht:P.underlying TS=some (.slice TP))(ou:(P.info? TP).map (λ i=>(i.zero,i.size,i.bytes))=some (some z,11,bytes))(oO:z.cells.size=11)(eZ:bytes<=4096)
 {G:Nat->Prop}{ps:List (Pc α)}(h:tk K TP G w W q k' ps){rs:List (Pc α)}(hr:bU K W a c rs)(iZ:∀p∈rs,St (λ j=>G j\/lp q j) W λ V=>rE K V p)(hk:ps.length+rs.length<=1000000):
 ∃a' c' w',(Builtin.append_ #[TS,TS] TS (jF q ps.length k' a rs.length c)).run P W= .ok (.slice a' (ps.length+rs.length) c') w'/\tk K TP G w w' a' c' (ps++rs)/\Below w W w':=by
 obtain⟨a',c',w',bt,DC,hg⟩:=ph (P:=P) TS TP z 11 bytes ht ou oO bd (W:=W) (src:=a) (m:=rs.length) (cc:=c) (news:=rs.flatMap Pc.cells) (dB rs) (hr.row.src hr.plain Pc.len bd) (by intro u hu;obtain⟨y,_,hy⟩:=List.mem_flatMap.1 hu;exact Pc.one y u hy) h.row ag eZ h.base.size hr.nil
 refine⟨a',c',w',bt,⟨h.base.T hg.below,h.low,by rw[List.length_append,List.flatMap_append];exact DC, λ p hp=>?_⟩,hg.below⟩
 have fK:St (λ j=>G j\/lp q j) W λ V=>rE K V p:=by
  rcases List.mem_append.1 hp with e|e
  ·exact h.each p e
  ·exact iZ p e
 have dF:∀k,k<W.heap.size->¬ lp q k->w'.heap[k]? =W.heap[k]? := λ k hk hn=>hg.bT k hk λ e=>by
  rcases ay h.row with⟨h1,_⟩|⟨g2,cur,h1,_⟩
  ·rw[h1]at e;simp[Value.ownBlock]at e
  ·rw[h1]at e hn
   have:g2=k:=by simpa[Value.ownBlock]using e
   subst this;exact hn rfl
 have GA:∀k,k<W.heap.size->lp a' k->lp q k:= λ k hk ha=>by
  rcases hg.at_ with e|⟨g2,e,h2⟩
  ·rw[show a'=_ from ha]at e
   rcases ay h.row with⟨h1,_⟩|⟨g2,cur,h1,_⟩
   ·rw[h1]at e;simp[Value.ownBlock]at e
   ·rw[h1]at e
    have:k=g2:=by simpa[Value.ownBlock]using e
    rw[this];exact h1
  ·rw[show a'=_ from ha]at e
   have:k=g2:=by simpa[Value.ownBlock]using e
   omega
 intro V hV
 refine fK V ⟨hV.os.T hg.below.os,hV.tape.T hg.below.tape,hV.output.T hg.below.output,Nat.le_trans hg.below.size hV.size, λ k hk hn=>?_⟩
 have dD:¬ G k:= λ hc=>hn (.inl hc)
 have fu:¬ lp q k:= λ hc=>hn (.inr hc)
 exact(hV.block k (Nat.lt_of_lt_of_le hk hg.below.size) λ hc=>hc.elim dD λ hc=>fu (GA k hk hc)).T (dF k hk fu)
theorem tk.fin{K:sI α}{G:Nat->Prop}{ps:List (Pc α)}(h:tk K TP G w W q k' ps):bU K W q k' ps/\∀p∈ps,St G W λ V=>rE K V p:=by
 refine⟨⟨bj.gX h.row Pc.len bd, λ p hp=>(h.each p hp).here,js h.row, λ e=>?_,?_⟩, λ p hp V hV=>h.each p hp V (hV.mono λ j hj=>.inl hj)⟩
 ·rcases h.row.2 with⟨h,_⟩|⟨g,cap,cur,h,_⟩
  ·injection h
  ·subst e;cases h
 ·rcases ay h.row with⟨h,_⟩|⟨g,cur,h,_⟩
  ·exact .inl h
  ·exact .inr ⟨_,_,h⟩
end
theorem kz(h:bb (l.map bN.key))(n:Nat):bb ((l.take n).map bN.key)/\bb ((l.drop n).map bN.key):=by
 rw[<-List.take_append_drop n l,List.map_append]at h
 exact⟨h.left,h.right⟩
end
section
attribute [-go_sem] Builtin.append_
theorem OR{u v:Value}{fz:Nat×Nat}(h:W.heap[B]? =some (.cells #[u,v] t fz)):W.cell? (za B 0)=some u/\W.cell? (za B 1)=some v:=⟨(aa h 0).T rfl,(aa h 1).T rfl⟩
theorem aci{a0 a1:Value}{fz:Nat×Nat}(h:W.heap[R]? =some (.cells #[a0,a1] t fz)):((W.setCell (za R 0) v0).setCell (za R 1) v1).heap[R]? =some (.cells #[v0,v1] t fz):=by
 simpa using aq (j:=1) v1 (aq (j:=0) v0 h)
theorem Ih(h:n₀<=R):Below n₀ W ((W.setCell (za R 0) v0).setCell (za R 1) v1):=((Below.refl n₀ W).setCell (p:=(za R 0)) h _).setCell (p:=(za R 1)) h _
theorem WI(g m:Nat)(h:1<=g\/(g=0/\m=0))(w:World):Calls Tryz.prog 78 (Gi (.agg (cP g m))) w λ e w'=>e= .returned (.bool true)/\Below w w w':=by
 have HB:Hid (Below w w (w.alloc (.cells (cP g m) 54))):=af ((Below.refl _ w).alloc (aW) _)
 rcases h with h|⟨rfl,rfl⟩
 ·have e1:decide ((0:Int)<(g:Int))=true:=bV
  have e2:¬ g=0:=ag
  have e3:0<g:=ag
  clear h
  go_enter Tryz.func78,Tryz.ntmps78
  go_wp2_with fail
  go_ret
  exact⟨rfl,HB.O⟩
 ·have heq:∀W:World,(binOp BinOp.eql 54 (.agg ck) (.agg ck)).run Tryz.prog W= .ok (.bool true) W:= λ W=>aO
  simp only[Int.natCast_zero]at HB⊢
  go_enter Tryz.func78,Tryz.ntmps78
  go_wp2_with fail
  go_ret
  exact⟨rfl,HB.O⟩
theorem OS(hg:1<=g\/(g=0/\m=0))(eU:g<4294967295)(hm:m<4294967296)(hb:ai w (some ⟨B,o,none⟩) xs)(hl:xs.length<1000000):
 Calls Tryz.prog 59 (YJ (.agg (cP g m)) (some ⟨B,o,none⟩) xs.length c) w λ e w'=>∃m':Nat,m'<4294967296/\e= .returned (.tuple (np (.agg (cP (g+1) m'))))/\Below w w w':=by
 obtain⟨w1,aH⟩:=aK ((w.alloc (.cells (cP g m) 54)).alloc (.cells ck 54))
 have aQ:Below w w w1:=by rw[aH];go_grown
 have bB:=aS (w2:=w1) (by rw[aH];exact dp)
 have AM:=af bB
 have cZ:=af aQ
 have HI:=af (WI g m hg w1)
 have HXS:=af hb
 have x0:w1.cell? (za w 0)=some (.int .u32 (g:Int)):=(aa bB.1 0).T rfl
 have x1:w1.cell? (za w 1)=some (.int .u32 (m:Int)):=(aa bB.1 1).T rfl
 have wg:IntKind.u32.wrap ((g:Int)+1)=(g:Int)+1:=by rw[IntKind.wrap_u32];omega
 have eg:((g:Int)+1==0)=false:=bV
 have hgi:(g:Int)<4294967295:=ag
 have Ce:=af hl
 obtain⟨b0,h0⟩:=aK (m%256)
 obtain⟨b1,h1⟩:=aK (m/256%256)
 obtain⟨b2,h2⟩:=aK (m/65536%256)
 obtain⟨b3,h3⟩:=aK (m/16777216)
 have e0:(m:Int)%256=(b0:Int):=ag
 have e1:(m:Int)/256%256=(b1:Int):=ag
 have e2:(m:Int)/65536%256=(b2:Int):=ag
 have e3:(m:Int)/16777216=(b3:Int):=ag
 have q0:b0<256:=ag
 have q1:b1<256:=ag
 have q2:b2<256:=ag
 have q3:b3<256:=ag
 have HS:Hid (∀W:World,Calls Tryz.prog 20 (jE (zp W) 4 4) (W.alloc (.cells (UL b0 b1 b2 b3) 5)) λ e w'=>∃s:Nat,s<4294967296/\e= .returned (.int .u32 (s:Int))/\Below W W w'):=af λ W=>by
  have bg:∀y∈[b0,b1,b2,b3],y<256:=by intro y hy;simp at hy;omega
  refine(BX [b0,b1,b2,b3] W.heap.size 0 4 _ bg aR (λ j x hj=>?_)).mono ?_
  ·rw[World.cell?_alloc_new]
   rcases j with _|_|_|_|j
   ·cases hj;rfl
   ·cases hj;rfl
   ·cases hj;rfl
   ·cases hj;rfl
   ·simp at hj
  ·rintro e w' ⟨rfl,hb⟩
   exact⟨_,ff _ (lI _ _ (ff 0 bd) bg),rfl,((Below.refl _ W).alloc (aW) _).T (hb.mono aR)⟩
 have HM:Hid (∀(s:Nat) (W:World),s<4294967296->Below w w W->Calls Tryz.prog 33 #[.int .u32 (s:Int),.slice (some ⟨B,o,none⟩) xs.length c] W λ e w'=>∃s':Nat,s'<4294967296/\e= .returned (.int .u32 (s':Int))/\Below W W w'):=af λ s W hs hW=>by
  have Dv:=HXS.O.below hW
  refine(xn s xs B o c W hs Dv.1 Ce.O (λ j x hj=>?_)).mono ?_
  ·rcases Dv.2 with h0|⟨B',o',e,hc⟩
   ·rw[h0]at hj;cases hj
   ·cases e;exact hc j x hj
  ·rintro e w' ⟨rfl,hb⟩
   exact⟨_,ff _ (lI _ _ (ff _ hs) Dv.1),rfl,hb⟩
 clear hg eU hm hb hl aQ bB h0 h1 h2 h3
 rw[aH]at HI x0 x1
 go_enter Tryz.func59,Tryz.ntmps59
 go_wp2_with first
  |((with_reducible refine HI.O.mono ?_);rintro e w2 ⟨rfl,aC⟩;rw[<-aH]at aC
    have bR:=af aC
    have y0:w2.cell? (za w 0)=some (.int .u32 (g:Int)):=(aa ((aC.block _ (aX AM.O.1).1).T AM.O.1) 0).T rfl
    have y1:w2.cell? (za w 1)=some (.int .u32 (m:Int)):=(aa ((aC.block _ (aX AM.O.1).1).T AM.O.1) 1).T rfl
    clear aC x0 x1)
  |((with_reducible refine(HS.O w2).mono ?_);rintro e w3 ⟨s,hs,rfl,aL⟩
    have bA:=af (bR.O.T (aL.mono bR.O.size))
    have z0:=carry aL y0
    have HMM:=af (HM.O s w3.drew hs (cZ.O.T (bA.O.mono cZ.O.size)).drew)
    clear aL y0 y1)
  |fail
 refine bP 9 ?_
 refine tP [0,1,2,3,4] ?_
 iterate 5 refine tO ?_
 refine ah 4 rfl ?_
 refine sP 5 [3,4] λ K hK=>?_
 go_simp
 (with_reducible refine HMM.O.mono ?_);rintro e w4 ⟨s2,fZ,rfl,bH⟩
 have iJ:=af (bA.O.drew.T (bH.mono bA.O.size))
 have y0:=carry (w:=w3) ((Below.refl _ w3).drew.T (bH.mono (aW))) z0
 have lz:=(iJ.O.block _ (aX AM.O.2).1).T AM.O.2
 obtain⟨r0,r1⟩:=OR lz
 have rf:=ak lz
 have HX4:=af lz
 clear bH z0 lz
 refine nP hK ?_
 clear hK K
 refine tP [6] ?_
 refine tO ?_
 refine ah 2 rfl ?_
 refine sP 7 [0,1,2,3,4,5,6] λ K hK=>?_
 go_simp
 refine nP hK ?_
 clear hK K
 refine tP [8] ?_
 refine tO ?_
 refine ah 0 rfl ?_
 refine dP ?_
 go_simp
 go_wp2_with fail
 refine bodyPost_ret (v:=.tuple (np (.agg (cP (g+1) s2)))) ?_ (by rfl) ⟨s2,fZ,rfl,(cZ.O.T (iJ.O.mono cZ.O.size)).T (Ih (Nat.le_succ _))⟩
 obtain⟨t0,t1⟩:=OR (aci (v0:=.int .u32 ((g:Int)+1)) (v1:=.int .u32 (s2:Int)) HX4.O)
 rw[results_cell_tmp rfl]
 go_simp
end
section
attribute [local go_sem] Oper.semAt_some
attribute [-go_sem] Builtin.append_
theorem Bk{X B0 a1' d1 a2 d2 c2 q:Nat}(hS:eE w B0 b k cf a1' d1 c1 a2 d2 c2 q){id:ByteArray}{y:aG}{wk wn:Int}{kn:Bool}{tx:ByteArray}{s:Nat}{d:Bool}{a p1 e1 f1 p2 e2 f2:Nat}{wt:Bool}(hX:ew w X B0 id y wk wn kn tx g m s d a p1 e1 f1 p2 e2 f2 wt)(bS:X≠B0)
 (hg:1<=y.g\/(y.g=0/\y.m=0))(eU:y.g<4294967295)(hm:y.m<4294967296)(hq:q<1099511627776)(Yg:tx.size<1000000):
 Calls Tryz.prog 45 (dW (zp X)) w λ e w'=>∃m':Nat,m'<4294967296/\e= .returned (.int .i64 0)/\ew w' X B0 id y wk wn kn tx (y.g+1) m' (q+1) d a p1 e1 f1 p2 e2 f2 wt/\gd (·=X) w w':=by
 have Ii:=(aX hX).1
 have QJ:=(aX hS).1
 obtain⟨cA,wA,hcA,Ms,Sn,zC,Nw⟩:=gO tx w
 obtain⟨wI,OI⟩:=aK (w.alloc (.cells ck 54))
 have Mt:Below w w wI:=by rw[OI];go_grown
 have hnI:wI.heap[w.heap.size]? =some (.cells ck 54):=jJ OI
 have Mu:wI.heap.size=w.heap.size+1:=by rw[OI];simp
 obtain⟨cC,wC,hcC,hkC,hgC,Ya,hsC⟩:=gO tx wI
 rw[Mu]at hcC hkC
 have HWI:=af OI
 have AO:=af zC
 have Wu:=af Mt
 have HBC:=af (Wu.O.T (Ya.mono Wu.O.size))
 have HS:Hid (wA.heap.size=w.heap.size+1):=af ag
 have Ri:Hid (wC.heap.size=w.heap.size+1+1/\wI.heap.size=w.heap.size+1):=af ag
 have yM:=af (λ (V:World) (hV:Below w w V)=>show V.heap[X]? =some (.cells (zK (zp B0) id (aU y.id) y.g y.m y.s y.del y.at_ wk wn kn tx g m s d a p1 e1 f1 p2 e2 f2 wt) 124)from(hV.block X Ii).T hX)
 have yQ:=af (λ (V:World) (hV:Below w w V)=>hS.below hV)
 have HF:Hid (∀W,Below w w W->W.cell? (za X 0)=some (.pointer (zp B0))/\W.cell? (za X 3)=some (.int .u32 (y.g:Int))/\W.cell? (za X 4)=some (.int .u32 (y.m:Int))/\W.cell? (za X 14)=some (.string tx)/\W.cell? (za B0 21)=some (.int .u64 (q:Int))):=af λ W hb=>by
  have h:=yM.O W hb
  have h2:=yQ.O W hb
  exact⟨(aa h 0).T rfl,(aa h 3).T rfl,(aa h 4).T rfl,(aa h 14).T rfl,(aa h2 21).T rfl⟩
 have HG:Hid (∀(V:World) (ka:Nat) (kc:Nat),Below w w V->ai V (zp ka) (dk tx)->tx.size<=kc->Calls Tryz.prog 59 (YJ (.agg (cP y.g y.m)) (zp ka) tx.size kc) V λ e w'=>∃m':Nat,m'<4294967296/\e= .returned (.tuple (np (.agg (cP (y.g+1) m'))))/\Below V V w'):=af λ V ka kc hV hk zt=>by
  have:=OS (c:=kc) hg eU hm hk (by rw[dI];exact Yg)
  rw[dI]at this;exact this
 have j7:((q:Int)==1099511627776)=false:=bV
 have ny:¬ ((q:Int)=1099511627776):=ag
 have ko:IntKind.u64.wrap ((q:Int)+1)=(q:Int)+1:=by rw[IntKind.wrap_u64];omega
 have uk:=af bS
 have HQ:=af hq
 clear hS hX Ii QJ hg eU hm Yg Nw hsC Mu OI bS hq
 have iL:=Below.refl w w
 have ei:=af iL
 clear iL
 go_enter Tryz.func45,Tryz.ntmps45
 go_wp2_with fail
 obtain⟨x0,x3,x4,qR,yR⟩:=HF.O _ ei.O
 refine bP 18 ?_
 refine tP [0,1,2,3,4,5,6,7,8,9] ?_
 iterate 10 refine tO ?_
 refine ah 8 rfl ?_
 refine Gr 10 15 [6,7,8,9] [] (λ K hK=>?_) λ K hK=>?_
 go_simp
 clear x0 x3 x4 qR yR
 obtain⟨x0,x3,x4,qR,yR⟩:=HF.O _ AO.O
 refine nP hK ?_
 clear hK K
 refine Gr 11 15 [0,1,2,3,4,5,6,7,8,9,10] [6,7,8,9] (λ K hK=>?_) λ K hK=>?_
 go_simp
 have eP:=af (AO.O)
 (with_reducible refine(HG.O _ _ _ eP.O (Ms) (Sn)).mono ?_);rintro e w3 ⟨m',wU,rfl,aL⟩
 have bA:=cV (eP.O.T (aL.mono eP.O.size)) aL wU
 clear aL wU
 refine nP hK ?_
 clear hK K
 refine tP [12,13,14] ?_
 iterate 3 refine tO ?_
 refine ah 3 rfl ?_
 refine sP 15 [0,1,2,3,4,5,6,7,8,9,10] λ K hK=>?_
 go_simp
 obtain⟨w5,eT⟩:=aK (w3.alloc (.cells ck 54))
 have bJ:Below w3 w3 w5:=by rw[eT];go_grown
 have HA:Hid (w5.heap[w3.heap.size]? =some (.cells ck 54)/\Below w w w5):=af ⟨by rw[eT];exact World.alloc_heap_new _ _,bA.O.1.T (bJ.mono bA.O.1.size)⟩
 rw[<-eT]
 have HL:Hid (w.heap.size<=w3.heap.size):=af bA.O.1.size
 clear eT bJ
 refine nP hK ?_
 clear hK K
 refine sP 16 [0,1,2,3,4,5,6,7,8,9,10,11,12,13,15] λ K hK=>?_
 refine lB ?_
 refine bI 54 _ _ rfl _ 0 ck (cP (y.g+1) m') 54 rfl rfl HA.O.1 aR aO (by simp[Value.oneCell']) (λ w7 g1 g2 g3=>?_)
 simp only[aF,bD]at g1
 have eX:=cV g1 (g3 w w (aM HL.O) HA.O.2) bA.O.2.2
 clear g1 g2 g3
 refine nP hK ?_
 clear hK K
 refine tP [17] ?_
 refine tO ?_
 refine ah 0 rfl ?_
 refine dP ?_
 go_simp
 have a0:=(aa eX.O.1 0).T rfl
 have a1:=(aa eX.O.1 1).T rfl
 simp only[aD]at a0 a1
 clear x0 x3 x4 qR yR
 obtain⟨x0,x3,x4,qR,yR⟩:=HF.O _ eX.O.2.1
 clear x3 x4 qR
 have OT:Hid (w7.heap[X]? =some (.cells (zK (zp B0) id (aU y.id) y.g y.m y.s y.del y.at_ wk wn kn tx g m s d a p1 e1 f1 p2 e2 f2 wt) 124)/\eE w7 B0 b k cf a1' d1 c1 a2 d2 c2 q/\∀V:World,(∀j,j≠X->V.heap[j]? =w7.heap[j]?)->(∀n U,n<=X->Below n U w7->Below n U V)->gd (·=X) w7 V):=af ⟨yM.O w7 eX.O.2.1,yQ.O w7 eX.O.2.1, λ V h1 h2=>by
  have:=h2 0 w7 (Nat.zero_le _) (dp)
  exact⟨this.os,this.tape,this.output,this.size, λ j _ hj=>h1 j hj⟩⟩
 go_wp2_with fail
 refine bP 20 ?_
 refine tP [0,1,2,3,4,5,6,7,8,9,10,11,12,13,14] ?_
 iterate 15 refine tO ?_
 refine ah 5 rfl ?_
 refine sP 15 [0,2,3,4,5,6,7,8,9,10,12,13,14] λ K hK=>?_
 refine lB ?_
 refine bI 54 _ _ rfl X 15 (zK (zp B0) id (aU y.id) y.g y.m y.s y.del y.at_ wk wn kn tx g m s d a p1 e1 f1 p2 e2 f2 wt) (cP (y.g+1) m') 124 rfl rfl OT.O.1 aR aO (by simp[Value.oneCell']) (λ w8 g1 g2 g3=>?_)
 simp only[aF,bD]at g1
 have HO8:Hid (gd (·=X) w7 w8):=af ((OT.O.2.2 w8 g2 (λ n U hn hb=>g3 n U hn hb.drew)))
 clear g3 x0 yR
 have x0:=(aa g1 0).T rfl
 have gb:=(aa g1 17).T rfl
 simp only[aD]at x0 gb
 have yR:=(aa ((g2 B0 (λ e=>uk.O e.symm)).T OT.O.2.1) 21).T rfl
 simp only[aD]at yR
 have xg:=ak g1 17
 have Gd:=af g1
 clear g1 g2 a0 a1
 refine nP hK ?_
 clear hK K
 refine tP [16,17,18] ?_
 iterate 3 refine tO ?_
 refine ah 1 rfl ?_
 refine sP 19 [0,1,2,3,4,5,6,7,8,9,10,11,12,13,14,15,16,17,18] λ K hK=>?_
 go_simp
 refine nP hK ?_
 clear hK K
 refine dP ?_
 go_simp
 go_wp2_with fail
 go_ret
 exact⟨m',eX.O.2.2,rfl,by unfold ew qA;simpa using aq (j:=17) (.int .u64 ((q:Int)+1)) Gd.O,((gd.aA eX.O.2.1).T HO8.O).T ⟨rfl,rfl,rfl,by simp[World.setCell], λ j _ hj=>Below.heap_setCell _ _ _ _ hj⟩⟩
 go_simp
 obtain⟨wJ,OJ⟩:=aK (wA.alloc (.cells ck 54))
 have TW:Hid (Below wA wA wJ):=af (by rw[OJ];go_grown)
 have HNJ:Hid (wJ.heap[wA.heap.size]? =some (.cells ck 54)):=af (jJ OJ)
 have TX:Hid (wJ.heap.size=wA.heap.size+1):=af (by rw[OJ];simp)
 rw[<-OJ]
 clear OJ
 clear x0 x3 x4 qR yR
 obtain⟨x0,x3,x4,qR,yR⟩:=HF.O _ (AO.O.T (TW.O.mono AO.O.size))
 refine nP hK ?_
 clear hK K
 refine sP 11 [0,1,2,3,4,5,6,7,8,9,10] λ K hK=>?_
 go_simp
 have eP:=af (AO.O.T (TW.O.mono AO.O.size))
 (with_reducible refine(HG.O _ _ _ eP.O (Ms.below TW.O) (Sn)).mono ?_);rintro e w3 ⟨m',wU,rfl,aL⟩
 have bA:=cV (eP.O.T (aL.mono eP.O.size)) aL wU
 clear aL wU
 have HA:Hid (w3.heap[wA.heap.size]? =some (.cells ck 54)/\Below w w w3):=af ⟨(bA.O.2.1.block _ (aM TX.O)).T HNJ.O,bA.O.1⟩
 refine nP hK ?_
 clear hK K
 refine tP [12,13,14] ?_
 iterate 3 refine tO ?_
 refine ah 2 rfl ?_
 refine sP 16 [0,1,2,3,4,5,6,7,8,9,10,11,12,13,15] λ K hK=>?_
 refine lB ?_
 refine bI 54 _ _ rfl _ 0 ck (cP (y.g+1) m') 54 rfl rfl HA.O.1 aR aO (by simp[Value.oneCell']) (λ w7 g1 g2 g3=>?_)
 simp only[aF,bD]at g1
 have eX:=cV g1 (g3 w w (aM HS.O) HA.O.2) bA.O.2.2
 clear g1 g2 g3
 refine nP hK ?_
 clear hK K
 refine tP [17] ?_
 refine tO ?_
 refine ah 0 rfl ?_
 refine dP ?_
 go_simp
 have a0:=(aa eX.O.1 0).T rfl
 have a1:=(aa eX.O.1 1).T rfl
 simp only[aD]at a0 a1
 clear x0 x3 x4 qR yR
 obtain⟨x0,x3,x4,qR,yR⟩:=HF.O _ eX.O.2.1
 clear x3 x4 qR
 have OT:Hid (w7.heap[X]? =some (.cells (zK (zp B0) id (aU y.id) y.g y.m y.s y.del y.at_ wk wn kn tx g m s d a p1 e1 f1 p2 e2 f2 wt) 124)/\eE w7 B0 b k cf a1' d1 c1 a2 d2 c2 q/\∀V:World,(∀j,j≠X->V.heap[j]? =w7.heap[j]?)->(∀n U,n<=X->Below n U w7->Below n U V)->gd (·=X) w7 V):=af ⟨yM.O w7 eX.O.2.1,yQ.O w7 eX.O.2.1, λ V h1 h2=>by
  have:=h2 0 w7 (Nat.zero_le _) (dp)
  exact⟨this.os,this.tape,this.output,this.size, λ j _ hj=>h1 j hj⟩⟩
 go_wp2_with fail
 refine bP 20 ?_
 refine tP [0,1,2,3,4,5,6,7,8,9,10,11,12,13,14] ?_
 iterate 15 refine tO ?_
 refine ah 5 rfl ?_
 refine sP 15 [0,2,3,4,5,6,7,8,9,10,12,13,14] λ K hK=>?_
 refine lB ?_
 refine bI 54 _ _ rfl X 15 (zK (zp B0) id (aU y.id) y.g y.m y.s y.del y.at_ wk wn kn tx g m s d a p1 e1 f1 p2 e2 f2 wt) (cP (y.g+1) m') 124 rfl rfl OT.O.1 aR aO (by simp[Value.oneCell']) (λ w8 g1 g2 g3=>?_)
 simp only[aF,bD]at g1
 have HO8:Hid (gd (·=X) w7 w8):=af ((OT.O.2.2 w8 g2 (λ n U hn hb=>g3 n U hn hb.drew)))
 clear g3 x0 yR
 have x0:=(aa g1 0).T rfl
 have gb:=(aa g1 17).T rfl
 simp only[aD]at x0 gb
 have yR:=(aa ((g2 B0 (λ e=>uk.O e.symm)).T OT.O.2.1) 21).T rfl
 simp only[aD]at yR
 have xg:=ak g1 17
 have Gd:=af g1
 clear g1 g2 a0 a1
 refine nP hK ?_
 clear hK K
 refine tP [16,17,18] ?_
 iterate 3 refine tO ?_
 refine ah 1 rfl ?_
 refine sP 19 [0,1,2,3,4,5,6,7,8,9,10,11,12,13,14,15,16,17,18] λ K hK=>?_
 go_simp
 refine nP hK ?_
 clear hK K
 refine dP ?_
 go_simp
 go_wp2_with fail
 go_ret
 exact⟨m',eX.O.2.2,rfl,by unfold ew qA;simpa using aq (j:=17) (.int .u64 ((q:Int)+1)) Gd.O,((gd.aA eX.O.2.1).T HO8.O).T ⟨rfl,rfl,rfl,by simp[World.setCell], λ j _ hj=>Below.heap_setCell _ _ _ _ hj⟩⟩
 go_simp
 rw[<-HWI.O]
 clear x0 x3 x4 qR yR
 obtain⟨x0,x3,x4,qR,yR⟩:=HF.O _ Wu.O
 refine nP hK ?_
 clear hK K
 refine sP 10 [6,7,8,9] λ K hK=>?_
 go_simp
 clear x0 x3 x4 qR yR
 obtain⟨x0,x3,x4,qR,yR⟩:=HF.O _ HBC.O
 refine nP hK ?_
 clear hK K
 refine sP 11 [0,1,2,3,4,5,6,7,8,9,10] λ K hK=>?_
 go_simp
 have eP:=af (HBC.O)
 (with_reducible refine(HG.O _ _ _ eP.O (hkC) (hgC)).mono ?_);rintro e w3 ⟨m',wU,rfl,aL⟩
 have bA:=cV (eP.O.T (aL.mono eP.O.size)) aL wU
 clear aL wU
 have HA:Hid (w3.heap[w.heap.size]? =some (.cells ck 54)/\Below w w w3):=af ⟨(bA.O.2.1.block _ (aM Ri.O)).T ((Ya.block _ (aM Ri.O)).T hnI),bA.O.1⟩
 refine nP hK ?_
 clear hK K
 refine tP [12,13,14] ?_
 iterate 3 refine tO ?_
 refine ah 2 rfl ?_
 refine sP 16 [0,1,2,3,4,5,6,7,8,9,10,11,12,13,15] λ K hK=>?_
 refine lB ?_
 refine bI 54 _ _ rfl _ 0 ck (cP (y.g+1) m') 54 rfl rfl HA.O.1 aR aO (by simp[Value.oneCell']) (λ w7 g1 g2 g3=>?_)
 simp only[aF,bD]at g1
 have eX:=cV g1 (g3 w w ag HA.O.2) bA.O.2.2
 clear g1 g2 g3
 refine nP hK ?_
 clear hK K
 refine tP [17] ?_
 refine tO ?_
 refine ah 0 rfl ?_
 refine dP ?_
 go_simp
 have a0:=(aa eX.O.1 0).T rfl
 have a1:=(aa eX.O.1 1).T rfl
 simp only[aD]at a0 a1
 clear x0 x3 x4 qR yR
 obtain⟨x0,x3,x4,qR,yR⟩:=HF.O _ eX.O.2.1
 clear x3 x4 qR
 have OT:Hid (w7.heap[X]? =some (.cells (zK (zp B0) id (aU y.id) y.g y.m y.s y.del y.at_ wk wn kn tx g m s d a p1 e1 f1 p2 e2 f2 wt) 124)/\eE w7 B0 b k cf a1' d1 c1 a2 d2 c2 q/\∀V:World,(∀j,j≠X->V.heap[j]? =w7.heap[j]?)->(∀n U,n<=X->Below n U w7->Below n U V)->gd (·=X) w7 V):=af ⟨yM.O w7 eX.O.2.1,yQ.O w7 eX.O.2.1, λ V h1 h2=>by
  have:=h2 0 w7 (Nat.zero_le _) (dp)
  exact⟨this.os,this.tape,this.output,this.size, λ j _ hj=>h1 j hj⟩⟩
 go_wp2_with fail
 refine bP 20 ?_
 refine tP [0,1,2,3,4,5,6,7,8,9,10,11,12,13,14] ?_
 iterate 15 refine tO ?_
 refine ah 5 rfl ?_
 refine sP 15 [0,2,3,4,5,6,7,8,9,10,12,13,14] λ K hK=>?_
 refine lB ?_
 refine bI 54 _ _ rfl X 15 (zK (zp B0) id (aU y.id) y.g y.m y.s y.del y.at_ wk wn kn tx g m s d a p1 e1 f1 p2 e2 f2 wt) (cP (y.g+1) m') 124 rfl rfl OT.O.1 aR aO (by simp[Value.oneCell']) (λ w8 g1 g2 g3=>?_)
 simp only[aF,bD]at g1
 have HO8:Hid (gd (·=X) w7 w8):=af ((OT.O.2.2 w8 g2 (λ n U hn hb=>g3 n U hn hb.drew)))
 clear g3 x0 yR
 have x0:=(aa g1 0).T rfl
 have gb:=(aa g1 17).T rfl
 simp only[aD]at x0 gb
 have yR:=(aa ((g2 B0 (λ e=>uk.O e.symm)).T OT.O.2.1) 21).T rfl
 simp only[aD]at yR
 have xg:=ak g1 17
 have Gd:=af g1
 clear g1 g2 a0 a1
 refine nP hK ?_
 clear hK K
 refine tP [16,17,18] ?_
 iterate 3 refine tO ?_
 refine ah 1 rfl ?_
 refine sP 19 [0,1,2,3,4,5,6,7,8,9,10,11,12,13,14,15,16,17,18] λ K hK=>?_
 go_simp
 refine nP hK ?_
 clear hK K
 refine dP ?_
 go_simp
 go_wp2_with fail
 go_ret
 exact⟨m',eX.O.2.2,rfl,by unfold ew qA;simpa using aq (j:=17) (.int .u64 ((q:Int)+1)) Gd.O,((gd.aA eX.O.2.1).T HO8.O).T ⟨rfl,rfl,rfl,by simp[World.setCell], λ j _ hj=>Below.heap_setCell _ _ _ _ hj⟩⟩
theorem LI{n:Nd}(k:Nat)(h:n.At w a)(ho:n.Ok):
 Calls Tryz.prog 167 #[n.v a k] w λ e w'=>∃a' k',e= .returned (.tuple (BH a' n.enc.length k'))/\ai w' a' n.enc/\Below w w w':=by
 cases n with
 |leaf xs=>
  refine(vg k h ho.1 ho.2 none 0).mono ?_
  rintro e w' ⟨a',k',rfl,_,_,h1,h2⟩
  exact⟨a',k',rfl,h1,h2⟩
 |inner xs=>
  refine(sE k h ho none 0).mono ?_
  rintro e w' ⟨a',k',rfl,_,_,h1,h2⟩
  exact⟨a',k',rfl,h1,h2⟩
theorem Nd.At.below{W W':World}{a:Option Addr}{n:Nd}(h:n.At W a)(hb:Below W W W'):n.At W' a:=by
 cases n
 ·exact dQ.below h hb
 ·exact gT.below h hb
theorem Sz(n:Nd):1<=n.enc.length:=by cases n<;>simp[Nd.enc,bG,bf]
section
variable {R : Nat} {W W' : World} {cs : Array Value} {t : TypeId}
theorem LJ(ho:bm R W W')(hR:W.heap[R]? =some (.cells cs t)){v:Value}(hv:∀j:Nat,cs[j]? ≠some v)(h:W.cell? ⟨B,o,none⟩=some v):W'.cell? ⟨B,o,none⟩=some v:=by
 have bS:B≠R:=by
  rintro rfl
  rw[aa hR]at h
  exact hv _ h
 exact(World.cell?_of_block (w:=W) (ho.block B (World.block_lt_of_cell? W _ h) bS)).T h
theorem fU(ho:bm R W W')(hR:W.heap[R]? =some (.cells cs t))(h8:∀(j x:Nat),cs[j]? ≠some (.int .u8 (x:Int)))(h:ai W a xs):ai W' a xs:=by
 refine⟨h.1,?_⟩
 rcases h.2 with h0|⟨C,o,e,hc⟩
 ·exact .inl h0
 ·exact .inr ⟨C,o,e, λ j x hx=>LJ ho hR (λ i=>h8 i x) (hc j x hx)⟩
theorem m7{β:Type}{f:β->List Value}(ho:bm R W W')(hR:W.heap[R]? =some (.cells cs t))(hf:∀o x,¬ W.rangeAt R o (f x))(hp:∀x,f x≠[]){xs:List β}(h:bj f sz W a xs):bj f sz W' a xs:=by
 rcases h with h|⟨B,o,e,h⟩
 ·exact .inl h
 ·refine .inr ⟨B,o,e, λ j x hx=>?_⟩
  have h1:=h j x hx
  have bS:B≠R:=by rintro rfl;exact hf _ _ h1
  obtain⟨v,l,hv⟩:∃v l,f x=v::l:=by
   cases hfx:f x with
   |nil=>exact absurd hfx (hp x)
   |cons v l=>exact⟨v,l,rfl⟩
  have bg:B<W.heap.size:=World.block_lt_of_cell? W ⟨B,o+j*sz+0,none⟩ (h1 0 v (by rw[hv];rfl))
  exact λ i u hu=>(World.cell?_of_block (w:=W) (ho.block B bg bS)).T (h1 i u hu)
end
theorem yS{vs:List Value}(h:fp W Bw b k c)(hv:7<=vs.length):¬ W.rangeAt Bw o vs:= λ hr=>by
 have:=hr 6 _ (List.getElem?_eq_getElem ag)
 rw[aa h]at this
 have:=(aX this).1
 simp at this
 omega
theorem JF(x:an)(h:fp W Bw b k c):¬ W.rangeAt Bw o x.cells:= λ hr=>by
 have h2:=hr 2 _ rfl
 have h0:=hr 0 _ rfl
 rw[aa h]at h2 h0
 rcases o with _|_|_|_|_|_|o<;>simp at h2 h0
theorem tm:∀(j x:Nat),(wkC b k c)[j]? ≠some (.int .u8 (x:Int)):= λ j x=>by rcases j with _|_|_|_|_|_|j<;>simp
theorem Bl(hF:au w b c ps)(hm:Marks (al ps))(hW:fp w Bw b ps.length c){n:Nd}(ka:Nat)(hA:n.At w a)(ho:n.Ok)(jr:n.enc.length<=4096)(fG:(al ps).length+(dq (al ps).length (eV n.enc)).length<=524288)(h:Nat)(key:List Nat)(hk:n.keys[0]? =some key):
 Calls Tryz.prog 185 #[.pointer (zp Bw),n.v a ka,.int .i64 (h:Int)] w λ e w'=>∃b' c' pc kc,e= .returned (.agg (mV n.XY key.length kc (br (al ps).length) n.red h))/\fp w' Bw b' (ps.length+1) c'/\au w' b' c' (ps++[pc])/\pc.2.1=dq (al ps).length (eV n.enc)/\(cx w b'/\cx w pc.1)/\bm Bw w w':=by
 obtain⟨w1,aH⟩:=aK ((w.alloc (.cells (tN n.is (n.a1 a) n.n1 (n.k1 ka) (n.a2 a) n.n2 (n.k2 ka)) 169)).alloc (.cells MC 285))
 have aQ:Below w w w1:=by rw[aH];go_grown
 have bB:=aS (w2:=w1) (by rw[aH];exact dp)
 have dm:w1.heap.size=w.heap.size+1+1:=by rw[aH];simp
 have qv:=(aX hW).1
 have hWt:= λ (V:World) (hV:Below w1 w1 V)=>(hW.below aQ).below hV
 have HE:=af (LI ka (hA.below aQ) ho)
 have CA:=af (λ (V:World) (p:Option Addr) (k:Nat) (hV:Below w1 w1 V) (hp:ai V p n.enc)=>DK ((hF.below aQ).below hV) hm n.enc p k hp (Sz n) jr fG)
 have HFI:=af (λ (V:World) (hV:n.At V a)=>AW (k:=ka) hV ho key hk)
 have XZ:=af (λ (V:World) (hV:n.At V a)=>NL (k:=ka) hV ho)
 have HA:=af (hA.below aQ)
 have y:= λ j=>aa (hW.below aQ) j
 have y5:=(y 5).T rfl
 simp only[aD]at y5
 have acj:=aj bB.1
 have H1:=jo aQ bB dm aH
 have HW:=cj qv @hWt
 obtain⟨N,hN⟩:=aK ps.length
 obtain⟨L,hL⟩:=aK n.enc.length
 obtain⟨at_,ot⟩:=aK (br (al ps).length)
 rw[<-ot]
 have HN:=cV hN hL ot
 unfold Nd.v at HE HFI XZ⊢
 unfold aE at CA
 rw[<-hL]at HE CA
 rw[<-hN]at CA⊢
 rw[<-ot]at CA
 rw[aH]at HE y5 acj
 clear hF hm hW hA ho jr fG hk aQ bB dm aH qv hWt y hN hL ot
 go_enter Tryz.func185,Tryz.ntmps185
 go_wp2_with first
  |(refine bh 169 ?_)
  |(refine bh 39 ?_)
  |(refine et 39 ?_)
  |((with_reducible refine HE.O.mono ?_);rintro e w2 ⟨p,kp,rfl,Zl,aC⟩
    rw[<-H1.O.2.2.2]at aC
    have hW2:=HW.O.2 _ aC
    rw[<-HN.O.1]at hW2
    have v:= λ j=>aa hW2 j
    have v0:=(v 0).T rfl
    have v1:=(v 1).T rfl
    have v2:=(v 2).T rfl
    have v3:=(v 3).T rfl
    have v4:=(v 4).T rfl
    simp only[aD]at v0 v1 v2 v3 v4
    have HP:=af (CA.O _ _ kp aC Zl)
    have bR:=af aC
    have NW:=af hW2
    clear aC Zl hW2 v)
  |((with_reducible refine HP.O.mono ?_);rintro e w3 ⟨b',c',pc,rfl,Ro,AJ,kK,aL⟩
    have QA:=fp.below NW.O aL
    have bA:=af (bR.O.T (aL.mono bR.O.size))
    have Dc:=BM Ro AJ kK bR.O.size aL.size
    have mL:=af QA
    clear Ro AJ kK aL QA)
  |(refine aP 37 rfl _ _ rfl _ _ _ _ _ rfl rfl mL.O aR aO (by simp[Value.oneCell']) (λ w4 h1 h2 h3=>?_)
    have T8:Hid (bm Bw w1 w4):=af ((bm.aA bA.O).T ⟨(h3 0 w3 (Nat.zero_le _) (dp)).os,(h3 0 w3 (Nat.zero_le _) (dp)).tape,(h3 0 w3 (Nat.zero_le _) (dp)).output,(h3 0 w3 (Nat.zero_le _) (dp)).size, λ k _ hk=>h2 k hk⟩)
    have hxn:=(T8.O.block _ (aM H1.O.2.2.1) (aM HW.O.1)).T H1.O.2.1.1
    have hxr:=(T8.O.block _ (aM H1.O.2.2.1) (aM HW.O.1)).T H1.O.2.1.2
    have OU:=aj hxn
    have gA:fp w4 Bw b' (N+1) c':=h1
    have F4:=mN h2 mL.O tm Dc.O.1 (λ G o e=>by
     have q1:w2.heap.size<=G:=Dc.O.2.2.1.1 _ e
     have:=HW.O.1
     have:=H1.O.2.2.1
     have:=Dc.O.2.2.2.1
     omega)
    have hA4:n.At w4 a:=by
     have hR:=H1.O.1.size
     cases n with
     |leaf xs=>
      have Ij:=kV.1 HA.O
      exact kV.2 ⟨m7 T8.O (HW.O.2 _ (Below.refl _ w1)) (λ o x=>JF x (HW.O.2 _ (Below.refl _ w1))) (λ x=>by simp[an.cells]) Ij.1, λ x hx=>⟨fU T8.O (HW.O.2 _ (Below.refl _ w1)) tm (Ij.2 x hx).1,fU T8.O (HW.O.2 _ (Below.refl _ w1)) tm (Ij.2 x hx).2⟩⟩
     |inner xs=>
      have Ij:=Cs.1 HA.O
      exact Cs.2 ⟨m7 T8.O (HW.O.2 _ (Below.refl _ w1)) (λ o x=>yS (HW.O.2 _ (Below.refl _ w1)) (by simp[aw.cells])) (λ x=>by simp[aw.cells]) Ij.1, λ x hx=>fU T8.O (HW.O.2 _ (Below.refl _ w1)) tm (Ij.2 x hx)⟩
    have HF:=af (HFI.O _ hA4)
    have WJ:=BM gA F4 hA4 hxn hxr
    clear h1 h2 h3 hxn hxr gA F4 hA4)
  |((with_reducible refine HF.O.mono ?_);rintro e w5 ⟨kc,rfl,hkb,bJ⟩
    have aaF:=aj ((bJ.block _ (aX WJ.O.2.2.2.1).1).T WJ.O.2.2.2.1)
    have HR:=af (XZ.O _ (WJ.O.2.2.1.below bJ))
    have eN:=cj hkb bJ
    clear hkb bJ)
  |((with_reducible refine HR.O.mono ?_);rintro e w6 ⟨rfl,fD⟩
    have n6:=World.alloc_heap_new w6 (.cells (qT n.red) 39)
    have adE:=aj n6
    have mv:Below w4 w4 (w6.alloc (.cells (qT n.red) 39)):=(eN.O.2.T (fD.mono eN.O.2.size)).alloc (Nat.le_trans eN.O.2.size fD.size) _
    have hxr:=(mv.block _ (aX WJ.O.2.2.2.2).1).T WJ.O.2.2.2.2
    have Qv:=af hxr
    have X9:=cj mv trivial
    clear n6 fD mv hxr)
  |(refine aP 285 rfl _ _ rfl _ _ _ _ _ rfl rfl Qv.O aR aO (by simp[Value.oneCell']) (λ w8 h1 h2 h3=>?_)
    have x0:=(aa h1 0).T rfl
    have x1:=(aa h1 1).T rfl
    have x2:=(aa h1 2).T rfl
    have x3:=(aa h1 3).T rfl
    have x4:=(aa h1 4).T rfl
    have x5:=(aa h1 5).T rfl
    have x6:=(aa h1 6).T rfl
    have x7:=(aa h1 7).T rfl
    have x8:=(aa h1 8).T rfl
    simp only[aF,bD,aD]at x0 x1 x2 x3 x4 x5 x6 x7 x8
    have hW7:=WJ.O.1.below X9.O.1
    have hW8:fp w8 Bw b' (N+1) c':=(h2 Bw (aM HW.O.1)).T hW7
    have hF8:=mN h2 Qv.O (λ j x=>by rcases j with _|_|_|_|_|_|_|_|_|j<;>simp) (WJ.O.2.1.below X9.O.1) (λ G o e=>by
     have q1:w2.heap.size<=G:=Dc.O.2.2.1.1 _ e
     have:=H1.O.2.2.1
     have:=Dc.O.2.2.2.1
     omega)
    have LK:bm Bw w w8:=by
     have q:=((bm.aA H1.O.1).T T8.O).T (bm.aA X9.O.1)
     have q2:=h3 0 _ (Nat.zero_le _) (dp)
     exact⟨q2.os.T q.os,q2.tape.T q.tape,q2.output.T q.output,Nat.le_trans q.size q2.size, λ k hk bS=>(h2 k ag).T (q.block k hk bS)⟩
    have HZ:=cV hW8 hF8 LK
    clear h1 h2 h3 hW7 hW8 hF8 LK)
  |fail
 refine bodyPost_ret (v:=.agg (mV n.XY key.length kc at_ n.red h)) (by rw[cD rfl];go_simp) (by rfl) ⟨b',c',pc,kc,rfl,HZ.O.1,HZ.O.2.1,Dc.O.2.1,⟨Dc.O.2.2.1.1.mono (Nat.le_trans H1.O.1.size Dc.O.2.2.2.1),Dc.O.2.2.1.2.mono (Nat.le_trans H1.O.1.size Dc.O.2.2.2.1)⟩,HZ.O.2.2⟩
def yT(all:List Nat)(f:Nat)(r:aN)(its:List KV):Prop:=∃n:Nd,er all r.h n r.k.at_ its/\r.k.count=n.red/\n.keys[0]? =some r.k.key/\f<=n.tL
def E8(all:List Nat)(f lo:Nat)(r:aN)(its:List KV):Prop:=yT all f r its/\lo<=r.h
theorem yT.more{all:List Nat}{f:Nat}{r:aN}{its:List KV}(h:yT all f r its)(m:List Nat):yT (all++m) f r its:=by
 obtain⟨n,h1,h2,h3,h4⟩:=h;exact⟨n,h1.more m,h2,h3,h4⟩
theorem E8.more{all:List Nat}{f lo:Nat}{r:aN}{its:List KV}(h:E8 all f lo r its)(m:List Nat):E8 (all++m) f lo r its:=⟨h.1.more m,h.2⟩
theorem cW.tL(h:cW all r its)(hf:f<=3):yT all f r its:=by
 obtain⟨n,h1,h2,h3,h4⟩:=h;exact⟨n,h1,h2,h3,ag⟩
theorem yT.gp(h:yT all 3 r its):cW all r its:=h
theorem yT.top(h:yT all f r its):Aj all r its:=by
 obtain⟨n,h1,h2,_,_⟩:=h;exact⟨n,h1,h2⟩
theorem OV{x y:Nat}(hm:m=(n+5)/6)(hx:x=n*k/m)(hy:y=n*(k+1)/m)(hk:k<m):x<y/\y<=n/\y - x<=6/\(3<=n->3<=y - x)/\(n<3->m=1/\x=0/\y=n):=by
 have tJ:0<m:=ag
 have e:n*(k+1)=n*k+n:=Nat.mul_succ n k
 have h1:x+n/m<=y:=by
  rw[hx,hy,e,Nat.le_div_iff_mul_le tJ,Nat.add_mul]
  exact Nat.add_le_add (Nat.div_mul_le_self _ _) (Nat.div_mul_le_self _ _)
 have h2:y<x+7:=by
  rw[hy,Nat.div_lt_iff_lt_mul tJ,e]
  have h3:n*k<m*x+m:=by rw[hx];exact Nat.lt_mul_div_succ _ tJ|> λ h=>by rw[Nat.mul_succ]at h;exact h
  have h4:n<=6*m:=ag
  have h5:(x+7)*m=m*x+7*m:=by rw[Nat.add_mul,Nat.mul_comm]
  omega
 have h3:y<=n:=by
  rw[hy,Nat.div_le_iff_le_mul_add_pred tJ]
  have:n*(k+1)<=n*m:=Nat.mul_le_mul_left _ ag
  rw[Nat.mul_comm m n];omega
 have h4:3<=n->3<=n/m:= λ h=>by
  rw[Nat.le_div_iff_mul_le tJ];omega
 have h5:n<3->m=1/\x=0/\y=n:= λ h=>by
  have:m=1:=ag
  subst this
  have zP:k=0:=ag
  subst zP
  exact⟨rfl,by simp[hx],by simp[hy]⟩
 have h6:1<=n/m:=by rw[Nat.le_div_iff_mul_le tJ];omega
 exact⟨ag,h3,ag, λ h=>aM (h4 h),h5⟩
theorem SA(hm:m=(n+5)/6)(h1:1<=n):n*m/m=n/\1<=m/\m<=n:=by
 have tJ:0<m:=ag
 exact⟨Nat.mul_div_cancel _ tJ,tJ,ag⟩
theorem tn{α:Type}{all:List Nat}{S:α->List KV->Prop}{lo:Nat}(m:Nat)(hS:∀x s,S x s->m<=s.length):∀{V:List (Pv α)} {its:List KV},aT (nk all S lo) V its->bu V*m<=its.length
 |[],_,_=>by simp[bu]
 | .kept r::V,_,⟨s,t,_,h2,h3⟩=>by
   have:=tn m hS h2
   rw[h3,List.length_append];simp only[bu];omega
 | .loose ys::V,_,⟨s,t,h1,h2,h3⟩=>by
   have:=tn m hS h2
   have h4:=aT.len m hS (show aT S ys s from h1)
   rw[h3,List.length_append];simp only[bu];rw[Nat.add_mul];omega
theorem SB(hs:cQ (ys.map eC))(hb:∀y∈ys,(∀x∈y.key,x<256)/\∀x∈y.val,x<256)(h6:ys.length<=6):∀x∈bG ys,x<256:= λ x hx=>by
 unfold bG at hx
 simp only[List.mem_cons,List.mem_flatMap]at hx
 rcases hx with rfl|rfl|⟨y,hy,hx⟩
 ·omega
 ·omega
 ·have:=hs (eC y) (List.mem_map.2 ⟨y,hy,rfl⟩)
  simp only[eC]at this
  exact I8 y ag ag (hb y hy).1 (hb y hy).2 x hx
theorem OW{ys:List aw}(hs:∀y∈ys,y.key.length<=24)(hb:∀y∈ys,∀x∈y.key,x<256)(h6:ys.length<=6):∀x∈bf ys,x<256:= λ x hx=>by
 unfold bf at hx
 simp only[List.mem_cons,List.mem_flatMap]at hx
 rcases hx with rfl|rfl|⟨y,hy,hx⟩
 ·omega
 ·omega
 ·exact I9 y (aM (hs y hy)) (hb y hy) x hx
theorem ack(all:List Nat)(h1:1<=ys.length)(h6:ys.length<=6)(hs:cQ (ys.map eC))(hr:bb ((ys.map eC).map Prod.fst))(hb:∀y∈ys,(∀x∈y.key,x<256)/\∀x∈y.val,x<256)(kb:Option Addr)(kc:Nat)(hk:(Nd.leaf ys).keys[0]? =some key):
 yT (all++dq all.length (eV (Nd.leaf ys).enc)) ys.length ⟨⟨kb,key,kc,br all.length,(Nd.leaf ys).red⟩,0⟩ (ys.map eC):=
 ⟨.leaf ys,N3 all h1 h6 hs hr (SB hs hb h6),rfl,hk,by simp[Nd.tL,Nd.n1,Nd.n2]⟩
theorem acm{xs:List aw}(h2:2<=xs.length)(h6:xs.length<=6)(hS:aT (qO all hh) xs its)(hs:cQ its)(hr:bb (its.map Prod.fst))(hl:its.length<=1000)(ha:all.length<=524288)(hb:∀y∈xs,∀x∈y.key,x<256)(kb:Option Addr)(kc:Nat)(hk:(Nd.inner xs).keys[0]? =some key):
 yT (all++dq all.length (eV (Nd.inner xs).enc)) xs.length ⟨⟨kb,key,kc,br all.length,(Nd.inner xs).red⟩,hh+1⟩ its:=by
 obtain⟨_,acn,_⟩:=Cr h2 h6 hS hs hr hl ha
 exact⟨.inner xs,KL h2 h6 hS hs hr hl ha (OW acn hb h6),rfl,hk,by simp[Nd.tL,Nd.n1,Nd.n2]⟩
theorem okI(h1:1<=ys.length)(h6:ys.length<=6)(hS:aT zE ys s)(hs:cQ s)(hr:bb (s.map Prod.fst)):(Nd.leaf ys).Ok/\(Nd.leaf ys).enc.length<=2+69*ys.length:=by
 obtain rfl:=aT.its.1 hS
 exact⟨Ji h1 h6 hs hr,by have:=Eo ys hs;show(bG ys).length<=_;omega⟩
theorem okK{ys:List aw}(h1:2<=ys.length)(h6:ys.length<=6)(hS:aT (qO all hh) ys s)(hs:cQ s)(hr:bb (s.map Prod.fst))(hl:s.length<=1000)(ha:all.length<=524288):(Nd.inner ys).Ok/\(Nd.inner ys).enc.length<=2+69*ys.length:=by
 obtain⟨h2,h3,_⟩:=Cr h1 h6 hS hs hr hl ha
 exact⟨h2,A0 ys h3⟩
theorem aco(h1:1<=ys.length)(h6:ys.length<=6)(hS:aT zE ys s)(hs:cQ s)(hr:bb (s.map Prod.fst))(hb:∀y∈ys,(∀x∈y.key,x<256)/\∀x∈y.val,x<256)(hf:f<=ys.length)(Dd:ht=0)(kb:Option Addr)(kc:Nat)(hk:(Nd.leaf ys).keys[0]? =some key):
 E8 (all++dq all.length (eV (Nd.leaf ys).enc)) f ht ⟨⟨kb,key,kc,br all.length,(Nd.leaf ys).red⟩,ht⟩ s:=by
 obtain rfl:=aT.its.1 hS
 subst Dd
 obtain⟨n,a,b,c,d⟩:=ack all h1 h6 hs hr hb kb kc hk
 exact⟨⟨n,a,b,c,ag⟩,aW⟩
theorem acp{m:List Nat}(hm:all=eh++m){ys:List aw}(h1:2<=ys.length)(h6:ys.length<=6)(hS:aT (qO eh hh) ys s)(hs:cQ s)(hr:bb (s.map Prod.fst))(hl:s.length<=1000)(ha:all.length<=524288)(hb:∀y∈ys,∀x∈y.key,x<256)(hf:f<=ys.length)(Dd:ht=hh+1)(kb:Option Addr)(kc:Nat)(hk:(Nd.inner ys).keys[0]? =some key):
 E8 (all++dq all.length (eV (Nd.inner ys).enc)) f ht ⟨⟨kb,key,kc,br all.length,(Nd.inner ys).red⟩,ht⟩ s:=by
 subst Dd
 obtain⟨n,a,b,c,d⟩:=acm h1 h6 (show aT (qO all hh) ys s by rw[hm];exact hS.mono λ _ _ _ h=>cW.more h m) hs hr hl ha hb kb kc hk
 exact⟨⟨n,a,b,c,ag⟩,aW⟩
section
variable {α : Type}
def left:List (Pv α)->Nat
 |[]=>0
 | .loose []::V=>left V
 |_::V=>left V+1
theorem wW:∀V:List (Pv α),left V<=V.length
 |[]=>aW
 | .loose []::V=>by have:=wW V;simp only[left,List.length_cons];omega
 | .loose (_::_)::V=>by have:=wW V;simp only[left,List.length_cons];omega
 | .kept _::V=>by have:=wW V;simp only[left,List.length_cons];omega
def qB(eh:List Nat)(S:α->List KV->Prop)(lo f:Nat)(all:List Nat)(base:Nat)(V2:List (Pv α))(rs:List aN)(cost:Nat)(its:List KV):Prop:=
 ∃a1 a2,aT (E8 all f lo) rs a1/\aT (nk eh S lo) V2 a2/\its=a1++a2/\all.length<=base+80*cost/\(f=3\/rs.length+left V2<=1)/\∃m,all=eh++m
theorem qB.start{S:α->List KV->Prop}{V:List (Pv α)}(h:aT (nk eh S lo) V its)(hf:f=3\/V.length<=1):qB eh S lo f eh eh.length V [] 0 its:=
 ⟨[],its,rfl,h,rfl,aW,hf.imp id λ h=>(by have:=wW V;simp;omega),[],(List.append_nil _).symm⟩
theorem qB.kept{eh all:List Nat}{S:α->List KV->Prop}{lo f base cost:Nat}{V2:List (Pv α)}{rs:List aN}{its:List KV}{r:aN}(hf:f<=3)(h:qB eh S lo f all base (.kept r::V2) rs cost its):qB eh S lo f all base V2 (rs++[r]) cost its:=by
 obtain⟨a1,a2,h1,⟨s,t,h2,h3,h4⟩,h5,h6,h8,m,h7⟩:=h
 refine⟨a1++s,t,h1.snoc ⟨by rw[h7];exact(h2.1.tL hf).more m,h2.2⟩,h3,by rw[h5,h4,List.append_assoc],h6,h8.imp id λ h=>(by simp only[left,List.length_append,List.length_cons,List.length_nil]at*;omega),m,h7⟩
theorem qB.nil{S:α->List KV->Prop}{cost:Nat}{V2:List (Pv α)}{rs:List aN}(h:qB eh S lo f all base (.loose []::V2) rs cost its):qB eh S lo f all base V2 rs cost its:=by
 obtain⟨a1,a2,h1,⟨s,t,h2,h3,h4⟩,h5,h6,h8,h7⟩:=h
 cases h2
 exact⟨a1,t,h1,h3,by rw[h5,h4];rfl,h6,h8,h7⟩
theorem qB.WG{S:α->List KV->Prop}{cost:Nat}{V2:List (Pv α)}{rs:List aN}{QK WK:List α}(h:qB eh S lo f all base (.loose (QK++WK)::V2) rs cost its)(hs:cQ its)(hr:bb (its.map Prod.fst)):∃s,aT S QK s/\cQ s/\bb (s.map Prod.fst)/\s.length<=its.length:=by
 obtain⟨a1,a2,h1,⟨s,t,h2,h3,h4⟩,h5,h6,h8,m,h7⟩:=h
 obtain⟨s1,s2,e1,e2,e3⟩:=aT.app.1 (show aT S (QK++WK) s from h2)
 have qN:its=a1++(s1++(s2++t)):=by rw[h5,h4,e3,List.append_assoc]
 refine⟨s1,e1,?_,?_,by rw[qN];simp only[List.length_append];omega⟩
 ·rw[qN]at hs;exact(cQ.app (cQ.app hs).2).1
 ·rw[qN]at hr;exact(gn (gn hr).2).1
theorem qB.chunk{S:α->List KV->Prop}{cost:Nat}{V2:List (Pv α)}{rs:List aN}{QK WK:List α}{x:List Nat}(h:qB eh S lo f all base (.loose (QK++WK)::V2) rs cost its)(hs:cQ its)(hr:bb (its.map Prod.fst))
 (hx:x.length<=80*c)(h1z:1<=QK.length)(hz:f=3\/WK=[])(hn:∀s,aT S QK s->cQ s->bb (s.map Prod.fst)->s.length<=its.length->E8 (all++x) f lo r s):qB eh S lo f (all++x) base (.loose WK::V2) (rs++[r]) (cost+c) its:=by
 obtain⟨a1,a2,h1,⟨s,t,h2,h3,h4⟩,h5,h6,h8,m,h7⟩:=h
 obtain⟨s1,s2,e1,e2,e3⟩:=aT.app.1 (show aT S (QK++WK) s from h2)
 have qN:its=a1++(s1++(s2++t)):=by rw[h5,h4,e3,List.append_assoc]
 refine⟨a1++s1,s2++t,(aT.mono (λ _ _ _ h=>h.more x) h1).snoc (hn s1 e1 ?_ ?_ ?_),⟨s2,t,e2,h3,rfl⟩,by rw[qN];simp,by rw[List.length_append];omega,?_,m++x,by rw[h7];simp⟩
 ·rw[qN]at hs;exact(cQ.app (cQ.app hs).2).1
 ·rw[qN]at hr;exact(gn (gn hr).2).1
 ·rw[qN];simp only[List.length_append];omega
 ·rcases hz with hz|hz
  ·exact .inl hz
  ·refine h8.imp id λ h8=>?_
   subst hz
   cases QK with
   |nil=>simp at h1z
   |cons z QK=>simp only[left,List.cons_append,List.length_append,List.length_cons,List.length_nil]at*;omega
theorem SC(r:aN)(s:List KV)(h:E8 all f lo r s):1<=s.length:=by
 obtain⟨⟨n,h1,_⟩,_⟩:=h
 obtain⟨kv,l,e,_⟩:=h1.first
 rw[e];simp
theorem qB.C3{S:α->List KV->Prop}{cost:Nat}{V2:List (Pv α)}{rs:List aN}(h:qB eh S lo f all base V2 rs cost its):rs.length<=its.length:=by
 obtain⟨a1,a2,h1,_,h5,_⟩:=h
 have:=h1.len 1 SC
 rw[h5,List.length_append];omega
structure OX(eh all:List Nat)(lo n:Nat)(rs:List aN)(its:List KV):Prop where
 ext:∃m,all=eh++m
 cost:all.length<=eh.length+80*n
 pay:n*3^lo<=its.length
 Gf:aT (λ r s=>cW all r s/\lo<=r.h) rs its\/∃r,rs=[r]/\Aj all r its
theorem qB.fin{S:α->List KV->Prop}{rs:List aN}(h:qB eh S lo f all eh.length [] rs n its)(hn:n*3^lo<=its.length):OX eh all lo n rs its:=by
 obtain⟨a1,a2,h1,h2,h5,h6,h8,h7⟩:=h
 cases h2
 rw[List.append_nil]at h5
 subst h5
 refine⟨h7,h6,hn,?_⟩
 rcases h8 with rfl|h8
 ·exact .inl (h1.mono λ _ _ _ h=>⟨h.1.gp,h.2⟩)
 ·match rs,h1,h8 with
  |[],h1,_=>exact .inl h1
  |[r],h1,_=>exact .inr ⟨r,rfl,(aT.one.1 h1).1.top⟩
  |_::_::_,_,h8=>simp at h8;omega
theorem OY{S:α->List KV->Prop}{t:Nat}{V V':List (Pv α)}(ht:t=1\/t=2/\2<=bW V+bu V)(h:lj all S lo V V' its)(hs:bC V'=0\/V'.length<=1):∃f,t<=f/\f<=3/\(∀ys,Pv.loose ys∈V'->f<=ys.length)/\(f=3\/(V'.length<=1/\∀ys,Pv.loose ys∈V'->ys.length<3)):=by
 by_cases h0:bC V'=0
 ·refine⟨3,ag,aW, λ ys hy=>?_,.inl rfl⟩
  unfold bC at h0
  rw[List.countP_eq_zero]at h0
  have:=h0 _ hy
  simpa[isSmall]using this
 ·have h1:V'.length<=1:=by rcases hs with h|h;exact absurd h h0;exact h
  refine⟨t,aW,ag, λ ys hy=>?_,.inr ⟨h1, λ ys hy=>?_⟩⟩
  rotate_left
  ·have hV:V'=[.loose ys]:=by
    match V',h1,hy with
    |[p],_,hy=>rw[List.mem_singleton]at hy;rw[hy]
   refine Nat.lt_of_not_le λ hc=>h0 ?_
   rw[hV,nM _ hc]
  have lA:=iC h.tidy hy
  rcases ht with rfl|⟨rfl,ht⟩
  ·exact lA
  ·have hV:V'=[.loose ys]:=by
    match V',h1,hy with
    |[p],_,hy=>rw[List.mem_singleton]at hy;rw[hy]
   have:=h.more
   rw[hV]at this
   have hk:bW [Pv.loose ys]=0:=by simp[bW]
   have hl:bu [Pv.loose ys]=ys.length:=by simp[bu]
   omega
theorem bj.sub{β:Type}{f:β->List Value}{xs:List β}(h:bj f sz W (some ⟨B,o,none⟩) xs)(i n:Nat):bj f sz W (some ⟨B,o+i*sz,none⟩) ((xs.drop i).take n):=(h.drop i).take n
theorem bU.only{K:sI α}(hK:∀{W W':World} {Bw k c:Nat} {b:Option Addr} (x:α),fp W Bw b k c->bm Bw W W'->K.gp W x->K.gp W' x)(hR:∀{W:World} {Bw k c:Nat} {b:Option Addr} (o:Nat) (x:α),fp W Bw b k c->¬ W.rangeAt Bw o (K.f x)){c':Nat}{ps:List (Pc α)}(hw:fp W Bw b k c')(ho:bm Bw W W')(h:bU K W a c ps):bU K W' a c ps:=by
 refine⟨m7 ho hw (λ o p=>yS hw (by rw[Pc.len];decide)) (λ p=>by cases p<;>simp[Pc.cells]) h.row, λ p hp=>?_,h.cap,h.nil,h.plain⟩
 have:=h.each p hp
 cases p with
 |kept r=>exact fU ho hw tm this
 |loose a c ys=>exact⟨m7 ho hw (λ o x=>hR o x hw) (λ x e=>by have:=K.VV x;have:=K.pos;rw[e]at*;simp at*;omega) this.row, λ y hy=>hK y hw ho (this.gp y hy),this.cap,this.nil,this.plain⟩
end
theorem E9(x:an)(hw:fp W Bw b k c)(ho:bm Bw W W')(h:lC.gp W x):lC.gp W' x:=⟨fU ho hw tm h.1,fU ho hw tm h.2⟩
theorem Fa(x:aw)(hw:fp W Bw b k c)(ho:bm Bw W W')(h:r9.gp W x):r9.gp W' x:=fU ho hw tm h
theorem JG(o:Nat)(x:an)(hw:fp W Bw b k c):¬ W.rangeAt Bw o (lC.f x):=JF x hw
theorem JH(o:Nat)(x:aw)(hw:fp W Bw b k c):¬ W.rangeAt Bw o (r9.f x):=yS hw (by simp[r9,aw.cells])
def db(g:Nat)(b:Option Addr)(ps:List Piece):Prop:=(ps=[]\/∀G o,b=some ⟨G,o,none⟩->G≠g)/\∀p∈ps,∀G o,p.1=some ⟨G,o,none⟩->G≠g
theorem Ik(hk:∀j,j<W.heap.size->j≠g->W'.heap[j]? =W.heap[j]?)(h:ai W a xs)(ha:∀G o,a=some ⟨G,o,none⟩->G≠g):ai W' a xs:=by
 refine⟨h.1,?_⟩
 rcases h.2 with h0|⟨C,o,e,hc⟩
 ·exact .inl h0
 ·exact .inr ⟨C,o,e, λ j x hx=>(World.cell?_of_block (w:=W) (hk C (World.block_lt_of_cell? W _ (hc j x hx)) (ha C o e))).T (hc j x hx)⟩
theorem cO(hk:∀j,j<W.heap.size->j≠g->W'.heap[j]? =W.heap[j]?)(h:au W b c ps)(ha:db g b ps):au W' b c ps:=by
 refine⟨⟨?_, λ p hp=>⟨(h.pieces.2 p hp).1,(h.pieces.2 p hp).2.1,Ik hk (h.pieces.2 p hp).2.2 (ha.2 p hp)⟩⟩,h.small,h.room⟩
 rcases h.pieces.1 with h0|⟨B,o,e,hc⟩
 ·exact .inl h0
 ·cases ps with
  |nil=>exact .inl rfl
  |cons p0 E7=>
   refine .inr ⟨B,o,e, λ j p hp=>?_⟩
   rcases ha.1 with h1|h1
   ·cases h1
   ·exact(World.cell?_of_block (w:=W) (hk B (World.block_lt_of_cell? W _ (hc j p hp)) (h1 B o e))).T (hc j p hp)
theorem db.new(h:au W b c ps)(hg:W.heap.size<=g):db g b ps:=by
 constructor
 ·rcases h.pieces.1 with h0|⟨B,o,e,hc⟩
  ·exact .inl h0
  ·cases ps with
   |nil=>exact .inl rfl
   |cons p0 E7=>
    refine .inr λ G o2 e2=>?_
    rw[e]at e2;cases e2
    have:=World.block_lt_of_cell? W _ (hc 0 p0 rfl)
    dsimp only at this
    omega
 ·intro p hp G o e
  obtain⟨h1,_,h2⟩:=h.pieces.2 p hp
  rcases h2.2 with h0|⟨C,o2,e2,hc⟩
  ·exact absurd h0 h1
  ·rw[e]at e2;cases e2
   cases tK:p.2.1 with
   |nil=>exact absurd tK h1
   |cons x l=>
    have:=World.block_lt_of_cell? W _ (hc 0 x (by rw[tK];rfl))
    dsimp only at this
    omega
theorem db.snoc{pc:Piece}(h:db g b ps)(hb:cx n b')(hp:cx n pc.1)(hg:g<n):db g b' (ps++[pc]):=
 ⟨.inr λ G o e=>by have:n<=G:=hb _ e;omega, λ p tK G o e=>by
   rcases List.mem_append.1 tK with h1|h1
   ·exact h.2 p h1 G o e
   ·rw[List.mem_singleton]at h1;subst h1
    have:n<=G:=hp _ e;omega⟩
structure jQ(Bw:Nat)(w0 W:World)(b:Option Addr)(cf:Nat)(bK:List Piece)(q:Option Addr)(k:Nat)(rs:List aN):Prop where
 only:bm Bw w0 W
 lt:Bw<w0.heap.size
 wk:fp W Bw b bK.length cf
 file:au W b cf bK
 marks:Marks (al bK)
 row:W.ownsRow w0 285 9 (.slice q rs.length k) rs.length (rs.flatMap aN.cells)
 keys:∀r∈rs,ai w0 r.k.ka r.k.key
 SD:∀g,q=some ⟨g,0,none⟩->db g b bK
theorem jQ.start(hw:fp w0 Bw b bK.length cf)(hF:au w0 b cf bK)(hm:Marks (al bK)):jQ Bw w0 w0 b cf bK none 0 []:=
 ⟨bm.refl _ _,(aX hw).1,hw,hF,hm,World.ownsRow_nil _ _ _ _, λ r hr=>(by cases hr), λ g e=>(by cases e)⟩
theorem jQ.below{Bw:Nat}{w0 W W':World}{b:Option Addr}{cf:Nat}{bK:List Piece}{q:Option Addr}{k:Nat}{rs:List aN}(h:jQ Bw w0 W b cf bK q k rs)(hb:Below W W W'):jQ Bw w0 W' b cf bK q k rs:=
 ⟨h.only.T (bm.aA hb),h.lt,h.wk.below hb,h.file.below hb,h.marks,bO.row (n₀:=w0.heap.size) hb h.row,h.keys,h.SD⟩
theorem jQ.wrote{bL:Nat}{pc:Piece}{rs:List aN}(h:jQ Bw w0 W b cf bK q k rs)(ho:bm Bw W W')(hw:fp W' Bw b' (bK.length+1) bL)(hF:au W' b' bL (bK++[pc]))(AJ:pc.2.1=dq (al bK).length xs)(kK:cx W b'/\cx W pc.1):jQ Bw w0 W' b' bL (bK++[pc]) q k rs:=by
 have hg:∀g,q=some ⟨g,0,none⟩->g<W.heap.size/\w0.heap.size<=g:= λ g hg=>by
  rcases ay h.row with⟨h1,_⟩|⟨g2,cur,h1,h2,h3⟩
  ·rw[hg]at h1;cases h1
  ·rw[hg]at h1;cases h1
   exact⟨(aX h3).1,h2⟩
 refine⟨h.only.T ho,h.lt,by rw[List.length_append];exact hw,hF,?_,dx h.row λ g mg=>?_,h.keys, λ g mg=>(h.SD g mg).snoc kK.1 kK.2 (hg g mg).1⟩
 ·have:al (bK++[pc])=al bK++dq (al bK).length xs:=by simp[al,AJ]
  rw[this];exact AH h.marks _
 ·exact ho.block g (hg g mg).1 (by have:=h.lt;have:=(hg g mg).2;omega)
theorem jQ.put{rs:List aN}(h:jQ Bw w0 W b cf bK q k rs)(r:aN)(hr:ai w0 r.k.ka r.k.key)(hk:rs.length<=1000):
 ∃g' c' w',(Builtin.append_ #[289,289] 289 (jF q rs.length k (zp W) 1 1)).run Tryz.prog (W.alloc (.cells r.cells.toArray 285))= .ok (.slice (zp g') (rs.length+1) c') w'/\jQ Bw w0 w' b cf bK (zp g') c' (rs++[r])/\(∀(E:Nat) (cs:Array Value) (t:TypeId),W.heap[E]? =some (.cells cs t)->t≠285->w'.heap[E]? =some (.cells cs t)):=by
 obtain⟨g',c',w',bt,DC,mg⟩:=eF (P:=Tryz.prog) 289 285 (.agg MC) 9 88 aO xN rfl bd r.cells rfl (xO r) h.row ag ag h.only.size
 have hb:Below w0 W w':=mg.below
 have dF:∀(E:Nat) (cs:Array Value) (t:TypeId),W.heap[E]? =some (.cells cs t)->t≠285->w'.heap[E]? =some (.cells cs t):= λ E cs t hE ht=>(mg.bT E (aX hE).1 (GR h.row hE ht)).T hE
 have aak:au w' b cf bK:=by
  rcases ay h.row with⟨h1,_⟩|⟨g2,cur,h1,h2,h3⟩
  ·have kN:Below W W w':=⟨hb.os,hb.tape,hb.output,hb.size, λ j hj=>mg.bT j hj (by rw[h1];simp[Value.ownBlock])⟩
   exact h.file.below kN
  ·refine cO (g:=g2) (λ j hj bS=>mg.bT j hj ?_) h.file (h.SD g2 h1)
   rw[h1];simp[Value.ownBlock];omega
 refine⟨g',c',w',bt,⟨⟨hb.os.T h.only.os,hb.tape.T h.only.tape,hb.output.T h.only.output,Nat.le_trans h.only.size hb.size, λ j hj bS=>(hb.block j hj).T (h.only.block j hj bS)⟩,h.lt,dF _ _ _ h.wk bd,aak,h.marks,by rw[List.length_append,List.flatMap_append];simpa using DC, λ x hx=>?_, λ g hg=>?_⟩,dF⟩
 ·rcases List.mem_append.1 hx with e|e
  ·exact h.keys x e
  ·rw[List.mem_singleton]at e;subst e;exact hr
 ·cases hg
  rcases mg.at_ with h1|⟨g2,h1,h2⟩
  ·rcases ay h.row with⟨h3,_⟩|⟨g2,cur,h3,_,_⟩
   ·rw[h3]at h1;simp[Value.ownBlock]at h1
   ·rw[h3]at h1
    have:g'=g2:=by simpa[Value.ownBlock]using h1
    rw[this];exact h.SD g2 h3
  ·have:g'=g2:=by simpa[Value.ownBlock]using h1
   rw[this];exact db.new h.file h2
structure oz(Bw:Nat)(w W:World)(b:Option Addr)(cf:Nat)(bK:List Piece)(q:Option Addr)(rs:List aN):Prop where
 only:bm Bw w W
 wk:fp W Bw b bK.length cf
 file:au W b cf bK
 marks:Marks (al bK)
 roots:jt W q rs
theorem jQ.fin{w1:World}{rs:List aN}(h:jQ Bw w1 W b cf bK q k rs){b1:Option Addr}{k1:Nat}(h1:fp w1 Bw b1 k1 c1)(hb:Below w w w1):oz Bw w W b cf bK q rs:=
 ⟨(bm.aA hb).T h.only,h.wk,h.file,h.marks,⟨bj.gX h.row (λ _=>rfl) bd, λ r hr=>fU h.only h1 tm (h.keys r hr)⟩⟩
structure wu(eh all:List Nat)(h:Nat)(rs:List aN)(its:List KV):Prop where
 ext:∃m,all=eh++m
 pot:2*all.length+80*(its.length/3^h)<=2*eh.length+240*its.length
 Gf:aT (λ r s=>cW all r s/\h<=r.h) rs its\/∃r,rs=[r]/\Aj all r its
theorem wu.start{rs:List aN}(h:OX eh all 0 n rs its):wu eh all 0 rs its:=by
 refine⟨h.ext,?_,h.Gf⟩
 have h1:=h.cost
 have h2:=h.pay
 rw[Nat.pow_zero]at*
 rw[Nat.div_one];omega
theorem wu.kept(h:Aj all r its):wu all all 0 [r] its:=
 ⟨⟨[],(List.append_nil _).symm⟩,by rw[Nat.pow_zero,Nat.div_one];omega,.inr ⟨r,rfl,h⟩⟩
theorem wu.next{aaN aaO:List Nat}{rs Q4:List aN}(h1:wu eh aaN h rs its)(h2:OX aaN aaO (h+1) n Q4 its):wu eh aaO (h+1) Q4 its:=by
 refine⟨?_,?_,h2.Gf⟩
 ·obtain⟨m,e1⟩:=h1.ext
  obtain⟨m2,e2⟩:=h2.ext
  exact⟨m++m2,by rw[e2,e1,List.append_assoc]⟩
 ·have e1:=h1.pot
  have e2:=h2.cost
  have e3:n<=its.length/3^(h+1):=(Nat.le_div_iff_mul_le (Nat.pow_pos bd)).2 h2.pay
  have e4:its.length/3^(h+1)=its.length/3^h/3:=by rw[Nat.pow_succ,Nat.div_div_eq_div_mul]
  omega
theorem wu.cost{rs:List aN}(h1:wu eh all h rs its):all.length<=eh.length+120*its.length:=by
 have:=h1.pot;omega
theorem Fb(r:aN)(s:List KV)(h:cW all r s/\lo<=r.h):3^(lo+1)<=s.length:=by
 have:=h.1.many
 have:=RG (show lo+1<=r.h+1 by have:=h.2;omega)
 omega
theorem wu.many{rs:List aN}(h1:wu eh all h rs its)(h2:1<rs.length):aT (λ r s=>cW all r s/\h<=r.h) rs its/\2*3^(h+1)<=its.length:=by
 rcases h1.Gf with h3|⟨r,h3,_⟩
 ·refine⟨h3,?_⟩
  have:=h3.len (3^(h+1)) Fb
  have:2*3^(h+1)<=rs.length*3^(h+1):=Nat.mul_le_mul_right _ h2
  omega
 ·rw[h3]at h2;simp at h2
theorem wu.C3{rs:List aN}(h1:wu eh all h rs its):rs.length<=its.length:=by
 rcases h1.Gf with h3|⟨r,h3,n,h4,_⟩
 ·have:=h3.len 1 λ r s hg=>by
   have h2:=Fb r s hg
   have h4:0<3^(h+1):=Nat.pow_pos bd
   omega
  omega
 ·obtain⟨kv,l,e,_⟩:=h4.first
  rw[h3,e];simp
theorem OZ{l:Nat}(h1:2*3^(h+1)<=l)(h2:l<=200):h<=10:=by
 refine Nat.le_of_not_lt λ hc=>?_
 have:=RG (show 12<=h+1 by omega)
 have h51:3^12>200:=by decide
 omega
theorem ts{all:List Nat}{h:Nat}:∀{rs:List aN} {its:List KV},aT (λ r s=>cW all r s/\h<=r.h) rs its->aT (nk all (qO all h) (h+1)) (rs.map (fF h)) its
 |[],_,hs=>hs
 |r::rs,_,⟨s,t,h1,h2,h3⟩=>by
  refine⟨s,t,?_,ts h2,h3⟩
  unfold fF
  by_cases hh:h<r.h
  ·rw[if_pos hh];exact⟨h1.1,hh⟩
  ·rw[if_neg hh]
   refine aT.one.2 ?_
   have:r.h=h:=aM h1.2
   obtain⟨k,h'⟩:=r
   dsimp only at this
   subst this
   exact h1.1
theorem nW(h:Nat):∀(rs:List aN),bW (rs.map (fF h))+bu (rs.map (fF h))=rs.length
 |[]=>rfl
 |r::rs=>by
  have ih:=nW h rs
  rw[List.map_cons,List.length_cons]
  have e1:bW (fF h r::rs.map (fF h))=bW [fF h r]+bW (rs.map (fF h)):=cF [_] _
  have e2:bu (fF h r::rs.map (fF h))=bu [fF h r]+bu (rs.map (fF h)):=cH [_] _
  have e3:bW [fF h r]+bu [fF h r]=1:=by
   unfold fF;split<;>simp[bW,bu]
  omega
theorem wu.fin{rs:List aN}(h1:wu eh all h rs its)(h2:rs.length<=1)(hr:bb (its.map Prod.fst))(hl:its.length<=200):(rs=[]/\dh all 0 0 0 its)\/∃r,rs=[r]/\dh all r.k.at_ r.h r.k.count its:=by
 have zU:∀r,Aj all r its->dh all r.k.at_ r.h r.k.count its:= λ r ⟨n,g1,g2⟩=>by
  obtain⟨kv,l,e,_⟩:=g1.first
  refine⟨λ hc=>(by rw[e]at hc;cases hc), λ _=>⟨?_,?_,n,g1⟩,by rw[g2,g1.count],hr⟩
  ·have:=g1.node.1.xq
   rcases Nat.eq_zero_or_pos r.k.at_ with h0|h0
   ·rw[h0]at this;simp at this
   ·exact h0
  ·have h3:=xL g1
   have hf:1<=n.tL:=by
    have ho:=g1.node.2.1
    cases n with
    |leaf xs=>have:=ho.1.DQ;simpa[Nd.tL,Nd.n1,Nd.n2]using this
    |inner xs=>have:=dt.DR ho;simp only[Nd.tL,Nd.n1,Nd.n2];omega
   refine Nat.le_of_not_lt λ hc=>?_
   have h4:=RG (show 9<=r.h by omega)
   have h5:1*3^r.h<=n.tL*3^r.h:=Nat.mul_le_mul_right _ hf
   have h6:3^9>200:=by decide
   omega
 rcases h1.Gf with h3|⟨r,h3,h4⟩
 ·match rs,h2,h3 with
  |[],_,h3=>cases h3;exact .inl ⟨rfl,⟨λ _=>⟨rfl,rfl⟩, λ h=>absurd rfl h,rfl,hr⟩⟩
  |[r],_,h3=>exact .inr ⟨r,rfl,zU r (aT.one.1 h3).1.root.top⟩
  |_::_::_,h2,_=>simp at h2
 ·exact .inr ⟨r,h3,zU r h4⟩
structure eR(α:Type)where
 a:Option Addr
 c:Nat
 ps:List (Pc α)
def eR.v{α:Type}(r:eR α):Value:=.slice r.a r.ps.length r.c
def du{α:Type}(l:List (eR α)):Nat:=(l.map λ r=>r.ps.length).sum
theorem tt{α:Type}(l:List (eR α))(j:Nat)(r:eR α)(h:l[j]? =some r):du (l.take (j+1))=du (l.take j)+r.ps.length:=by
 unfold du
 rw[List.take_add_one,h];simp
theorem nX{α:Type}(l:List (eR α))(j:Nat):du (l.take j)<=du l:=by
 unfold du
 conv=>rhs;rw[<-List.take_append_drop j l,List.map_append,List.sum_append]
 omega
theorem iD{α:Type}:∀l:List (eR α),(l.flatMap eR.ps).length=du l
 |[]=>rfl
 |r::l=>by rw[List.flatMap_cons,List.length_append,iD l];simp[du]
theorem LL(n:Nat)(h1:1<=n)(h2:n<=100000)(w:World):
 Calls Tryz.prog 232 #[.slice none 0 0,.int .i64 (n:Int)] w λ e w'=>∃(g:Nat) (c:Nat),e= .returned (.slice (zp g) 0 c)/\w'.ownsRow w 287 11 (.slice (zp g) 0 c) 0 []/\Below w w w':=by
 obtain⟨i0,hi,gQ,fq,mx⟩:=info_parts nJ
 have bt:=Lib.run_append_nil_zeros (P:=Tryz.prog) w 282 3 282 287 i0 (.agg fe) .i64 .i64 aO aO hi gQ n ag ag ag (by rw[mx];omega)
 have ja:=grownCap_ge w n 0 287
 have wh:=grownCap_le_maxLen w n 0 287 (by simp[maxLen];omega)
 obtain⟨cp,QI⟩:=aK (grownCap w n 0 287)
 rw[<-QI]at bt ja wh
 have uM:Hid ((w.drew.alloc (.cells (Builtin.zeroCells ((.agg fe):Value).cells n++Builtin.zeroCells ((.agg fe):Value).cells (cp - n)) 287)).ownsRow w 287 11 (.slice (zp w) 0 cp) 0 []/\Below w w (w.drew.alloc (.cells (Builtin.zeroCells ((.agg fe):Value).cells n++Builtin.zeroCells ((.agg fe):Value).cells (cp - n)) 287))):=af ⟨World.ownsRow_made w.drew _ cp (aW) wh (by rw[Array.size_append,size_zeroCells,size_zeroCells];show n*11+(cp - n)*11=cp*11;omega),((Below.refl _ w).drew).alloc (aW) _⟩
 have e1:¬ ((n:Int)<0):=ag
 have e2:(0:Int)<(n:Int):=ag
 have e3:IntKind.i64.wrap (n:Int)=(n:Int):=by rw[IntKind.wrap_i64];omega
 have e4:0<n:=ag
 have acq:(0:Int)<=(cp:Int):=ag
 have Gz:w.drew.alloc (.cells (Builtin.zeroCells ((.agg fe):Value).cells n++Builtin.zeroCells ((.agg fe):Value).cells (cp - n)) 287)=(w.alloc (.cells (Builtin.zeroCells ((.agg fe):Value).cells n++Builtin.zeroCells ((.agg fe):Value).cells (cp - n)) 287)).drew:=rfl
 rw[Gz]at bt uM
 obtain⟨W1,qF⟩:=aK ((w.alloc (.cells (Builtin.zeroCells ((.agg fe):Value).cells n++Builtin.zeroCells ((.agg fe):Value).cells (cp - n)) 287)).drew)
 rw[<-qF]at bt uM
 clear hi gQ fq mx QI wh Gz qF
 go_enter Tryz.func232,Tryz.ntmps232
 go_wp2_with fail
 go_ret
 exact⟨w.heap.size,cp,rfl,uM.O.1,uM.O.2⟩
theorem Fc{rows:List (eR an)}(hc:w.rangeAt R 0 (rows.map eR.v))(hr:∀r∈rows,bU lC w r.a r.c r.ps)(hl:rows.length<=10)(h1:1<=du rows)(h2:du rows<=10000):
 Calls Tryz.prog 221 (jE (zp R) rows.length rows.length) w λ e w'=>∃(a:Option Addr) (k:Nat),e= .returned (.slice a (rows.flatMap eR.ps).length k)/\bU lC w' a k (rows.flatMap eR.ps)/\Below w w w':=by
 have HC:=af hc
 have HR:=af hr
 have HL:=cj h1 h2
 have Kx:(rows.length:Int)<=10:=ag
 clear hc hr h1 h2
 go_enter Tryz.func221,Tryz.ntmps221
 go_wp2_with fail
 go_loopw [3,11] (λ sv iv wr=>∃j m:Nat,j<=rows.length/\iv= .int .i64 (j:Int)/\sv= .int .i64 (m:Int)/\Hid (m=du (rows.take j))/\Hid (wr=w)) (λ _ iv _=>rows.length - (intOf iv).toNat)
 case atStart=>exact⟨0,0,ag,rfl,rfl,af rfl,af rfl⟩
 case round=>
  obtain⟨j,m,hj,rfl,rfl,hm,hw⟩:=hrel
  by_cases bg:j<rows.length
  ·obtain⟨r,hr⟩:∃r,rows[j]? =some r:=⟨rows[j],by simp[bg]⟩
   have hg:wr.cell? ⟨R,j,none⟩=some (.slice r.a r.ps.length r.c):=by have:=HC.O j _ (show(rows.map eR.v)[j]? =some r.v by simp[hr]);rw[Nat.zero_add]at this;rw[hw.O];exact this
   have gy:(j:Int)<(rows.length:Int):=ag
   have rj:(j:Int)<=10:=ag
   have zO:=tt rows j r hr
   have Qa:=nX rows (j+1)
   have hmw:IntKind.i64.wrap ((m:Int)+(r.ps.length:Int))=((m+r.ps.length:Nat):Int):=by rw[IntKind.wrap_i64];have:=HL.O.2;have:=hm.O;omega
   have tJ:decide (((m+r.ps.length:Nat):Int)<0)=false:=bV
   have acr:¬ ((m:Int)+(r.ps.length:Int)<0):=ag
   have HM:Hid (m+r.ps.length=du (rows.take (j+1))):=af (by rw[zO,hm.O])
   clear hr zO Qa
   go_wp2_with fail
   exact⟨⟨j+1,m+r.ps.length,ag,by simp,by simp,HM,hw⟩,by simp[intOf];omega⟩
  ·obtain rfl:j=rows.length:=ag
   have zO:m=du rows:=by rw[hm.O,List.take_length]
   have HG:=af (LL m (aM HL.O.1) (aM HL.O.2) wr)
   have HW:=hw
   clear zO
   go_wp2_with first
    |((with_reducible refine HG.O.mono ?_);rintro e w2 ⟨g,cg,rfl,eW,RY⟩
      have HP0:Hid (mq lC 114 287 w w2 (zp g) cg []):=af (by rw[HW.O]at eW RY;exact⟨RY,eW, λ p hp=>by cases hp⟩)
      clear eW RY)
    |fail
   go_loopw [6,27] (λ rv iv wr=>∃(j n:Nat) (q:Option Addr) (k':Nat),j<=rows.length/\iv= .int .i64 (j:Int)/\rv= .slice q n k'/\Hid (((rows.take j).flatMap eR.ps).length=n)/\Hid (mq lC 114 287 w wr q k' ((rows.take j).flatMap eR.ps))) (λ _ iv _=>rows.length - (intOf iv).toNat)
   case atStart=>exact⟨0,0,_,_,ag,rfl,rfl,af rfl,HP0⟩
   case round=>
    obtain⟨j,n,q,k',hj,rfl,rfl,hn,hP⟩:=hrel
    by_cases bg:j<rows.length
    ·obtain⟨r,hr⟩:∃r,rows[j]? =some r:=⟨rows[j],by simp[bg]⟩
     have hg:wr.cell? ⟨R,j,none⟩=some (.slice r.a r.ps.length r.c):=by have:=HC.O j _ (show(rows.map eR.v)[j]? =some r.v by simp[hr]);rw[Nat.zero_add]at this;exact carry hP.O.base this
     have gy:(j:Int)<(rows.length:Int):=ag
     have rj:(j:Int)<=10:=ag
     have hT:(rows.take (j+1)).flatMap eR.ps=(rows.take j).flatMap eR.ps++r.ps:=by rw[List.take_add_one,hr];simp
     have hle:=nX rows (j+1)
     rw[<-iD (rows.take (j+1)),hT,List.length_append]at hle
     obtain⟨a',c',w',bt,qj⟩:=hP.O.KQ (P:=Tryz.prog) (TS:=282) (z:=(.agg fe)) (bytes:=120) aO nJ rfl bd bd (HR.O r (List.mem_of_getElem? hr)) (aM HL.O.2)
     rw[hn.O]at bt
     rw[<-hT]at qj
     have HN:=af qj
     have qL:Hid (((rows.take (j+1)).flatMap eR.ps).length=n+r.ps.length):=af (by rw[hT,List.length_append,hn.O])
     clear hr hT hle qj
     go_wp2_with fail
     exact⟨⟨j+1,_,_,_,ag,by simp,rfl,qL,HN⟩,by simp[intOf];omega⟩
    ·obtain rfl:j=rows.length:=ag
     go_wp2_with fail
     go_ret
     have h1:=hn.O
     have h2:=hP.O
     rw[List.take_length]at h1 h2
     exact⟨q,k',by rw[h1];rfl,h2.fin,h2.base⟩
end
end Go.Proofs.YtkgapncajjafoaaGreatDoor

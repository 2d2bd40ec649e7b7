/- The store, part 3. -/
import Derived.Test.YtbiififbfefkjaaGreatDoorMAa
set_option linter.unusedSimpArgs false
set_option linter.unusedVariables false
set_option maxRecDepth 100000
set_option maxHeartbeats 16000000
namespace Go.Proofs.YtbiififbfefkjaaGreatDoor
open Go.RowKit Go.Shelf
variable{W W' w:World}{n₀ k c sz B D n gf:Nat}{e t:TypeId}{xs:List Value}{P:Program}{assign body:Code}{Q:Exit -> Act -> World -> Prop}{a:Act}{lb:Array Value}{E:World -> Prop}
theorem _root_.Go.World.grownBy.T{a b c:World}{row:Option Nat}(h:a.grownBy b row)(k:b.grownBy c row):a.grownBy c row:=World.grownBy.trans h k
theorem bg{a:az}(h:W.ownsRow n₀ e sz (.slice a k c) k xs):(a=none/\k=0/\c=0)\/∃g cur,a=some ⟨g,0,none⟩/\n₀<=g/\W.heap[g]? =some (.cells cur e (0,0)):=by
 rcases h.2 with⟨h,h2⟩|⟨g,cap,cur,h,hb,hg,_⟩
 ·cases h;exact .inl ⟨rfl,rfl,rfl⟩
 ·cases h;exact .inr ⟨g,cur,rfl,hb,hg⟩
theorem vS{p:Prop}(h:p:=by
 rcases bg bA with⟨rfl,_⟩|⟨g,cur,rfl,hb,_⟩
 ·simp[Value.ownBlock]at ej
 ·obtain rfl:g=j:=by simpa[Value.ownBlock]using ej
  exact hb
 ):p:=h
theorem kZ(t e:TypeId)(z:Value)(sz bytes:Nat)(ht:P.underlying t=some (.slice e))(vw:(P.info? e).map (λ i=>(i.zero,i.size,i.bytes))=some (some z,sz,bytes))(vT:z.cells.size=sz)(kA:0<sz){a:az}(cells:Array Value)(fh:cells.size=sz)(h1:∀u∈cells.toList,u.oneCell'=true)(bA:W.ownsRow n₀ e sz (.slice a k c) k xs)(hk:k+1<=1048576)(iL:bytes<=4096)(hn:n₀<=W.heap.size):
 ∃g' c' w',(Builtin.append_ #[t,t] t (fP a k c (zp W) 1 1)).run P (W.alloc (.cells cells e))= .ok (.slice (zp g') (k+1) c') w'/\
  w'.ownsRow n₀ e sz (.slice (zp g') (k+1) c') (k+1) (xs++cells.toList)/\Below n₀ W w'/\n₀<=g'/\W.grownBy w' (Value.slice a k c).ownBlock/\((Value.slice a k c).ownBlock=some g'\/W.heap.size<=g'):=by
 obtain⟨i0,hi,l8,j5,vr⟩:=info_parts vw;have Eo:=ai W (.cells cells e);have hmul:(k+1)*bytes<=1048576*4096:=eX hk iL;obtain⟨v',w1,eh,gp,jQ, -,mU⟩:=run_append_own_at (P:=P) (W.alloc (.cells cells e)) n₀ t t e i0 z sz bytes ht hi l8 j5 vr vT kA _ _ xs (bA.alloc _)
  ⟨W.heap.size,0,none⟩ 1 1 cells.toList (by simp[fh]) (λ j u hj=>by
   have hj':cells[j]? =some u:=by simpa using hj
   have:(⟨W.heap.size,0,none⟩:Addr).add j=⟨W.heap.size,j,none⟩:=by cases j<;>simp[Addr.add]
   rw[this,bO];exact hj') h1 kt an dU
 obtain⟨g',k',rfl⟩:=ownsRow_succ gp;have hg:W.grownBy w1 (Value.slice a k c).ownBlock:=(World.grownBy_alloc W _ _).T jQ;refine⟨g',k',w1,eh,gp,?_,?_,hg,?_⟩
 ·refine(ah n₀ W).grown hg hn λ j ej=>?_;exact vS
 ·rcases gp.2 with⟨h,_⟩|⟨g2,cap,cur,h,hb,_⟩
  ·cases h
  ·cases h;exact hb
 ·rcases mU with h|h
  ·left;rw[<-h];rfl
  ·right;have:g'=W.heap.size+1:=by simpa[Value.ownBlock]using h
   omega
theorem Cn{a:az}(h:Boxed W B t (.slice a k c)):rowOf B W=(Value.slice a k c).ownBlock:=by
 cases a with
 |none=>rw[yo h];rfl
 |some a=>rw[nh h];rfl
theorem tE{j:Nat}{u:TypeId}{a:az}{cs:Array Value}{fz:Nat×Nat}(hb:Boxed W B t (.slice a k c))(bA:W.ownsRow n₀ e sz (.slice a k c) k xs)(hj:W.heap[j]? =some (.cells cs u fz))(hu:u≠e):rowOf B W≠some j:=by
 rw[Cn hb];intro h;rcases bg bA with⟨rfl,_⟩|⟨g,cur,rfl,_,hg⟩
 ·cases h
 ·obtain rfl:g=j:=by simpa[Value.ownBlock]using h
  rw[hg]at hj;cases hj;exact hu rfl
theorem Fo(t e:TypeId)(z:Value)(sz bytes:Nat)(ht:P.underlying t=some (.slice e))(vw:(P.info? e).map (λ i=>(i.zero,i.size,i.bytes))=some (some z,sz,bytes))(vT:z.cells.size=sz)(kA:0<sz)(Iq:t≠e){a:az}(cells:Array Value)(fh:cells.size=sz)(h1:∀u∈cells.toList,u.oneCell'=true)(hb:Boxed W B t (.slice a k c))(bA:W.ownsRow n₀ e sz (.slice a k c) k xs)(hk:k+1<=1048576)(iL:bytes<=4096)(hn:n₀<=W.heap.size)(hB:n₀<=B)(X:Nat->Prop):
 ∃g' c' w',(Builtin.append_ #[t,t] t (fP a k c (zp W) 1 1)).run P (W.alloc (.cells cells e))= .ok (.slice (zp g') (k+1) c') w'/\
  w'.cell? (za B 0)=some (.slice a k c)/\w'.frozen? ⟨B,0,none⟩=false/\
  Boxed (w'.setCell (za B 0) (.slice (zp g') (k+1) c')) B t (.slice (zp g') (k+1) c')/\
  (w'.setCell (za B 0) (.slice (zp g') (k+1) c')).ownsRow n₀ e sz (.slice (zp g') (k+1) c') (k+1) (xs++cells.toList)/\
  Lets n₀ X B W (w'.setCell (za B 0) (.slice (zp g') (k+1) c'))/\KeepsOthers W (w'.setCell (za B 0) (.slice (zp g') (k+1) c'))/\
  (∀j,j<W.heap.size->j≠B->rowOf B W≠some j->w'.heap[j]? =W.heap[j]? /\(w'.setCell (za B 0) (.slice (zp g') (k+1) c')).heap[j]? =W.heap[j]?):=by
 obtain⟨g',c',w',eh,kW,B9,ti,jQ,mU⟩:=kZ t e z sz bytes ht vw vT kA cells fh h1 bA hk iL hn;have hnr:some B≠(Value.slice a k c).ownBlock:=kC hb Iq bA;have mz:Boxed w' B t (.slice a k c):=hb.kept jQ hnr;have bG:Boxed (w'.setCell (za B 0) (.slice (zp g') (k+1) c')) B t (.slice (zp g') (k+1) c'):=mz.set _;have BQ:=Cn hb;have SK:g'<w'.heap.size:=by
  rcases bg kW with⟨h,_⟩|⟨g,cur,h,_,hg⟩
  ·cases h
  ·cases h;exact(cS hg).1
 have VN:∀j,j≠B->(w'.setCell (za B 0) (.slice (zp g') (k+1) c')).heap[j]? =w'.heap[j]? := λ j hj=>aq w' ⟨B,0,none⟩ _ j hj;have iU:∀j,j<W.heap.size->rowOf B W≠some j->w'.heap[j]? =W.heap[j]? := λ j hj hr=>jQ.block j hj (λ e=>hr (BQ.T e.symm));refine⟨g',c',w',eh,mz.cell,mz.frozen,bG,kW.kept (grownBy_setCell' w' B _) (.inr (kC mz Iq kW).symm),⟨B9.setCell hB _,?_,?_,?_⟩,?_, λ j hj hjB hr=>⟨iU j hj hr,(VN j hjB).T (iU j hj hr)⟩⟩
 ·intro j cs u fz hj _ hjB hr;exact((VN j hjB).T (iU j (cS hj).1 hr)).T hj
 ·intro j hj;rw[nh bG]at hj;obtain rfl:g'=j:=by simpa using hj
  rw[BQ];exact mU
 ·intro _ j hj;rw[nh bG]at hj;obtain rfl:g'=j:=by simpa using hj
  simpa[World.setCell]using SK
 ·refine(KeepsOthers.of_grownBy jQ λ j o ej hj=>?_).T (gX _ _ _);rcases bg bA with⟨rfl,_⟩|⟨g,cur,rfl,_,hg⟩
  ·simp[Value.ownBlock]at ej
  ·obtain rfl:g=j:=by simpa[Value.ownBlock]using ej
   rw[hg]at hj;cases hj;rfl
theorem iF{e:Nat}{a:az}(h:W.ownsRow n₀ e sz (.slice a k c) k xs)(hk:∀g,a=some ⟨g,0,none⟩->W'.heap[g]? =W.heap[g]?):W'.ownsRow n₀ e sz (.slice a k c) k xs:=by
 refine⟨h.1,?_⟩;rcases h.2 with h2|⟨g,cap,cur,hv,hb,hg,r⟩
 ·exact .inl h2
 ·refine .inr ⟨g,cap,cur,hv,hb,?_,r⟩;cases hv;exact(hk g rfl).T hg
theorem Ep{M:Nat->Prop}{e:Nat}{a:az}(h:W.ownsRow n₀ e sz (.slice a k c) k xs)(hk:iB D M W W')(hM:∀g,n₀<=g->¬ M g):W'.ownsRow n₀ e sz (.slice a k c) k xs:=
 iF h λ g hg=>by
  rcases bg h with⟨h1,_⟩|⟨g2,cur,h1,hb,jk⟩
  ·rw[hg]at h1;cases h1
  ·rw[hg]at h1;cases h1;exact(hk.eG _ _ jk (.inr rfl) (hM _ hb)).T jk.symm
theorem mL{M:Nat->Prop}{v:Value}(h:Boxed W B t v)(hk:iB D M W W')(hM:¬ M B):Boxed W' B t v:=hk.eG _ _ h (.inr rfl) hM
theorem ni{M:Nat->Prop}(h:Below n₀ w W)(hk:iB D M W W')(hn:n₀<=D)(hM:∀k,k<n₀->¬ M k)(hw:n₀<=w.heap.size):Below n₀ w W':=by refine⟨hk.os.T h.os,hk.tape.T h.tape,hk.output.T h.output,aj h.size hk.size, λ k OZ=>?_⟩;have cL:k<W.heap.size:=aA OZ (aj hw h.size);have e:=br cL;exact((hk.eG k _ e (.inl an) (hM k OZ)).T e.symm).T (h.block k OZ)
theorem vU{X:Nat->Prop}(hB:B<w.heap.size)(hn:n₀<=w.heap.size)(W:World)(l:Nat)(o o':Obj)(hl:w.heap.size<=l)(h:W.heap[l]? =some o)(ho:o.isCells=false):Lets n₀ X B W (W.putObj l o'):=Lets.putObj W l o o' h ho an an
theorem vV(t e:TypeId)(z:Value)(sz bytes:Nat)(ht:P.underlying t=some (.slice e))(vw:(P.info? e).map (λ i=>(i.zero,i.size,i.bytes))=some (some z,sz,bytes))(vT:z.cells.size=sz)(b:az)(k:Nat)(Co:List Value)(En:Co.length=k*sz)(hb:(b=none/\k=0)\/∃a:Addr,b=some a/\∀j v,Co[j]? =some v->W.cell? (a.add j)=some v)
 (ad:Addr)(m c:Nat)(news:List Value)(hl:news.length=m*sz)(aba:∀j v,news[j]? =some v->W.cell? (ad.add j)=some v)(hm:0<m)(hk:k+m<=1048576)(iL:bytes<=4096):
 ∃cap w',(Builtin.append_ #[t,t] t (fP b k k (some ad) m c)).run P W= .ok (.slice (zp W) (k+m) cap) w'/\k+m<=cap/\
  w'.ownsRow W e sz (.slice (zp W) (k+m) cap) (k+m) (Co++news)/\Below W W w':=by
 obtain⟨i,hi,l8,j5,vr⟩:=info_parts vw;subst j5;have hmul:(k+m)*bytes<=1048576*4096:=eX hk iL;have hx:(k+m:Nat)<=maxLen:=by simp only[maxLen];omega
 have hlen:(Co++news).length=(k+m)*i.size:=by rw[ar,En,hl,fB]
 have grown:∀(Pr:Nat),(W.drew.alloc (.cells (Co.toArray++news.toArray++Builtin.zeroCells z.cells (grownCap W (k+m) Pr e - (k+m))) e)).ownsRow W e i.size
  (.slice (zp W) (k+m) (grownCap W (k+m) Pr e)) (k+m) (Co++news):=by
  intro Pr;have vW:=grownCap_ge W (k+m) Pr e;have hcm:=grownCap_le_maxLen W (k+m) Pr e hx;refine⟨hlen,.inr ⟨W.heap.size,_,_,rfl,cH,heap_alloc_new W.drew _,vW,hcm,?_,?_⟩⟩
  ·simp only[ng,List.size_toArray,size_zeroCells,vT,En,hl,<-fB];congr 1;omega
  ·simp only[Array.toList_append,aS];rw[<-aS,<-hlen];exact List.take_left
 have B9:∀o,Below W W (W.drew.alloc o):= λ o=>((ah _ W).drew).alloc (cH) o;rcases hb with⟨rfl,rfl⟩|⟨a,rfl,ha⟩
 ·have ho:Co=[]:=eT (by simpa using En);subst ho;have hr:=run_append_nil (P:=P) W t t e i z ht hi l8 ad m c news hl aba hm an (by rw[vr];have:=hmul;rw[aN]at this;omega);have Y7:=grown 0;simp only[aN,bn,Array.empty_append]at Y7⊢;exact⟨_,_,hr,grownCap_ge W m 0 e,Y7,B9 _⟩
 ·have hr:=run_append_grow (P:=P) W t t e i z ht hi l8 a k k Co En ha ad m c news hl aba an an (growslice_fits an qL);exact⟨_,_,hr,grownCap_ge W (k+m) k e,grown k,B9 _⟩
theorem PU{α:Type}{g:Operand}{ps:Array Tmp}
 (h1:5<=n)(hg:a.eval g= .func (.func gf) #[] lb)(eg:∀args w,(callFunc gf args).run P w= .ok (.enter gf args) w)
 {tB:α->Array Value}{Kp:World->World->Prop}{ig:Nat->Prop}{G8:List α->Prop}{At:α->World->Prop}{Full:List α->Prop}{w0:World}(sS:Mt P gf lb tB Kp ig E G8 At Full w0)(Y6:∀x A B,At x A->iB w ig A B->At x B)
 (Au:∀{A B C:World},Kp A B->Kp B C->Kp A C)(Fb:∀(W:World) (l:Nat) (o o':Obj),w.heap.size<=l->W.heap[l]? =some o->o.isCells=false->Kp W (W.putObj l o'))(nt:Below w0 w0 w)(G9:∀x,(tB x).size=ps.size)
 (tD:∀k,ig k->k<w.heap.size)
 (I:List α->World->Prop)(Ix:Code->List α->World->Prop)(hI:∀s A B,I s A->iB w ig A B->I s B)(hIx:∀c s A B,Ix c s A->iB w ig A B->Ix c s B)(hE:∀(W:World) (l:Nat) (o o':Obj),w.heap.size<=l->W.heap[l]? =some o->o.isCells=false->E W->E (W.putObj l o'))(h0:I [] w)(Km:α->World->Act)(Nu:α->World->World)(WW:∀x W,Below W.heap.size W (Nu x W))(hKa:∀x W,w.heap.size<=W.heap.size->Kp W (Nu x W))
 (kX:∀(l:Nat) (x:α) (W:World) (K:Act->World->Prop),K (Km x W) (Nu x W)->
   assign.wpIn (Fence.wide.inRound l) (n - 1 - 1) P (Exit.then K (λ _ _ _=>False)) {tmps:=(ps.zip (tB x)).foldl (λ t (p,v)=>t.setIfInBounds p v) a.tmps,defers:=[]} W)
 (qY:∀(l:Nat) (pre:List α) (x:α) (U W:World),w.heap.size<=U.heap.size->(∀(k:Nat) (o:Obj),(Nu x U).heap[k]? =some o->o.isCells=true->W.heap[k]? =some o)->I pre W->G8 (pre++[x])->At x W->body.wpIn (Fence.wide.inRound l) (n - 1 - 1) P (Fl w Kp I Ix (pre++[x]) W) (Km x U) W)
 (qZ:∀(D:Nat) (s:List α) (W:World),w.heap.size<=D->Full s->I s W->E W->W.heap[D]? =some (.deferred (some []))->Q .normal {a with defers:={target:=.collected D,args:=#[]}::a.defers} W)
 (q9:∀(D:Nat) (c:Code) (pre:List α) (W:World),w.heap.size<=D->G8 pre->Ix c pre W->E W->W.heap[D]? =some (.deferred (some []))->c.wpIn Fence.wide n P Q {a with defers:={target:=.collected D,args:=#[]}::a.defers} W):
 (Code.rangeFunc g ps assign body).wpIn Fence.wide n P Q a w:=by
 refine wpIn_rangeFunc ?_;intro fn hfn;rw[show Fence.wide.round=none from rfl];obtain⟨rec,sQ⟩:∃rec:LoopState->Option Code->Loop,rec= λ st pe=>{state:=st,pending:=pe,fn,tmps:=a.tmps,params:=ps,assign,body,defers:=w.heap.size}:=⟨_,rfl⟩;obtain⟨W1,vK⟩:∃W1,(w.alloc (.deferred (some []))).alloc (.loop (rec .ready none))=W1:=⟨_,rfl⟩;have rY:W1.heap[w.heap.size+1]? =some (.loop (rec .ready none)):=by rw[<-vK];have:=ai (w.alloc (.deferred (some []))) (.loop (rec .ready none));rwa [bt]at this
 have hK1:W1.heap[w.heap.size]? =some (.deferred (some [])):=by rw[<-vK];exact(aT _ _ _ cP).T (ai w _)
 have gC:W1.heap.size=w.heap.size+1+1:=by rw[<-vK];simp
 have hI1:I [] W1:=by rw[<-vK];exact hI _ _ _ (hI _ _ _ h0 (iB.alloc _ _)) (iB.alloc _ _)
 have cN:Below w0 w0 W1:=by rw[<-vK];exact nt.T ((((ah _ w).alloc (cH) _).alloc cP _).mono nt.size)
 refine⟨w.heap.size+1,[{target:=.collected w.heap.size,args:=#[]}],W1,{target:=.fn (.func gf) lb,args:=#[.func (.yield (w+1)) #[] #[]]},W1,gf,
  #[.func (.yield (w+1)) #[] #[]]++lb,W1,?_,?_,?_,?_, λ _=>an,?_⟩
 ·rw[<-vK,sQ];exact run_enterLoop_outer _ _ _ _ _
 ·simp only[resolve,hg];simp[go_sem]
 ·intro f' hf';trivial
 ·simp[invoke,go_sem,eg]
 ·have OZ:∀{A B:World},iB W1 ig A B->iB w ig A B:= λ h=>⟨h.size,h.os,h.tape,h.output, λ k o hk hd hm=>h.eG k o hk (hd.elim (λ h=>.inl an) .inr) hm⟩;have Kn:∀{A B:World} {k:Nat} {o:Obj},iB W1 ig A B->A.heap[k]? =some o->w.heap.size<=k->k<W1.heap.size->B.heap[k]? =some o:= λ h hk h1 h2=>h.eG _ _ hk (.inl h2) (λ m=>cm (tD _ m));refine(sS (n - 1) (w+1)
   (λ pre W=>I pre W/\W.heap[w.heap.size+1]? =some (.loop (rec .ready none))/\W.heap[w.heap.size]? =some (.deferred (some [])))
   (λ pre W=>∃c,Ix c pre W/\W.heap[w.heap.size+1]? =some (.loop (rec .done (some c)))/\W.heap[w.heap.size]? =some (.deferred (some [])))
   W1 an cN
   (λ s A B hs hk=>⟨hI s A B hs.1 (OZ hk),Kn hk hs.2.1 an an,Kn hk hs.2.2 an an⟩)
   (λ s A B hs hk=>by obtain⟨c,hc,hl,u9⟩:=hs;exact⟨c,hIx c s A B hc (OZ hk),Kn hk hl an an,Kn hk u9 an an⟩)
   ?_ ⟨hI1,rY,hK1⟩).mono ?_
  ·rintro pre x U ⟨hiU,hlU,hkU⟩ mD ahv;have ahw:w.heap.size+1<U.heap.size:=(cS hlU).1;have hy:=run_yield (P:=P) (args:=tB x) hlU (by rw[sQ];exact G9 x);rw[sQ]at hy;have hbU:=WW x U;obtain⟨W,hWU⟩:=bL (Nu x U);have hKU:Kp U W:=hWU▸hKa x U an;have hi:I pre W:=hI _ _ _ hiU (hWU▸iB.bH hbU);have mU:At x W:=Y6 _ _ _ ahv (hWU▸iB.bH hbU);have hl:W.heap[w.heap.size+1]? =some (.loop (rec .ready none)):=by rw[hWU];exact(hbU.block _ ahw).T hlU
   have hk:W.heap[w.heap.size]? =some (.deferred (some [])):=by rw[hWU];exact(hbU.block _ an).T hkU
   have cL:w.heap.size+1<W.heap.size:=(cS hl).1;refine⟨fn,_,assign,body,hy,roundIn_of_wpIn hfn (kX _ x U _ ⟨_,run_beginRound (hWU▸hl) (by rw[sQ]),?_⟩)⟩;rw[<-hWU];have ri:(W.putObj (w+1) (.loop {rec .ready none with state:=.busy})).heap[w.heap.size+1]? =some (.loop {rec .ready none with state:=.busy}):=gi cL;have u9:(W.putObj (w+1) (.loop {rec .ready none with state:=.busy})).heap[w.heap.size]? =some (.deferred (some [])):=(aV an).T hk;have fH:Kp U (W.putObj (w+1) (.loop {rec .ready none with state:=.busy})):=Au hKU (Fb _ _ _ _ an hl rfl);refine wpIn_mono (qY _ pre x U _ an (λ k o ho hc=>(aV (λ e=>by subst e;rw[<-hWU,hl]at ho;cases ho;cases hc)).T (hWU▸ho)) (hI _ _ _ hi (iB.putObj _ _ _ _ an hl rfl)) mD (Y6 _ _ _ mU (iB.putObj _ _ _ _ an hl rfl))) ?_;have fin:∀(jump:Option Code) (W3:World),KeepsFrom w (W.putObj (w+1) (.loop {rec .ready none with state:=.busy})) W3->
    (Instr.endRound (w+1) jump).run P W3= .ok (.bool jump.isNone) (W3.putObj (w+1) (.loop (rec (if jump.isNone then .ready else .done) jump)))/\
    W3.heap[w.heap.size+1]? =some (.loop {rec .ready none with state:=.busy})/\
    (W3.putObj (w+1) (.loop (rec (if jump.isNone then .ready else .done) jump))).heap[w.heap.size+1]? =some (.loop (rec (if jump.isNone then .ready else .done) jump))/\
    (W3.putObj (w+1) (.loop (rec (if jump.isNone then .ready else .done) jump))).heap[w.heap.size]? =some (.deferred (some [])):= λ jump W3 oN=>by
    have pA:=oN.same _ _ an ri rfl;have:=run_endRound (P:=P) jump pA;rw[sQ]at this⊢;exact⟨this,by rw[sQ]at pA;exact pA,gi (cS pA).1,(aV an).T (oN.same _ _ (cH) u9 rfl)⟩
   rintro e a3 W3 hp;cases e with
   |normal=>
    obtain⟨oN,yK,Ja⟩:=hp;obtain⟨hr,pA,Fm,Pq⟩:=fin none W3 oN;exact⟨_,_,hr,.inl ⟨rfl,⟨hI _ _ _ Ja (iB.putObj _ _ _ _ an pA rfl),Fm,Pq⟩,Au (Au fH yK) (Fb _ _ _ _ an pA rfl)⟩⟩
   |ret=>
    obtain⟨oN,yK,Ja⟩:=hp;obtain⟨hr,pA,Fm,Pq⟩:=fin (some .ret) W3 oN;exact⟨_,_,hr,.inr ⟨rfl,⟨.ret,hIx _ _ _ _ Ja (iB.putObj _ _ _ _ an pA rfl),Fm,Pq⟩,Au (Au fH yK) (Fb _ _ _ _ an pA rfl)⟩⟩
   |exit id=>
    obtain⟨oN,yK,Ja⟩:=hp;obtain⟨hr,pA,Fm,Pq⟩:=fin (some (.exit id)) W3 oN;exact⟨_,_,hr,.inr ⟨rfl,⟨.exit id,hIx _ _ _ _ Ja (iB.putObj _ _ _ _ an pA rfl),Fm,Pq⟩,Au (Au fH yK) (Fb _ _ _ _ an pA rfl)⟩⟩
   |goto t=>
    obtain⟨oN,yK,Ja⟩:=hp;obtain⟨hr,pA,Fm,Pq⟩:=fin (some (.goto t)) W3 oN;exact⟨_,_,hr,.inr ⟨rfl,⟨.goto t,hIx _ _ _ _ Ja (iB.putObj _ _ _ _ an pA rfl),Fm,Pq⟩,Au (Au fH yK) (Fb _ _ _ _ an pA rfl)⟩⟩
   |panic ch=>exact hp.elim
   |outgrown=>exact hp.elim
  ·rintro e W2 ⟨⟨v,rfl⟩,(⟨s,hs,hi,hl,hk⟩|⟨pre,hSp,c,hi,hl,hk⟩),hE2⟩
   ·exact⟨none,_,by have:=run_endLoop (P:=P) hl uk;rw[sQ]at this;exact this,qZ _ s _ (cH) hs (hI _ _ _ hi (iB.putObj _ _ _ _ an hl rfl)) (hE _ _ _ _ an hl rfl hE2) ((aV an).T hk)⟩
   ·exact⟨some c,_,by have:=run_endLoop (P:=P) hl uk;rw[sQ]at this;exact this,q9 _ c pre _ (cH) hSp (hIx c _ _ _ hi (iB.putObj _ _ _ _ an hl rfl)) (hE _ _ _ _ an hl rfl hE2) ((aV an).T hk)⟩
theorem aam{α:Type}{g:Operand}{p1:Tmp}(d1:Tmp)
 (h1:5<=n)(hg:a.eval g= .func (.func gf) #[] lb)(eg:∀args w,(callFunc gf args).run P w= .ok (.enter gf args) w)
 {e1:α->Value}{Kp:World->World->Prop}{ig:Nat->Prop}{G8:List α->Prop}{At:α->World->Prop}{Full:List α->Prop}(sS:Mt P gf lb (λ x=>#[e1 x]) Kp ig E G8 At Full w)(Y6:∀x A B,At x A->iB w ig A B->At x B)
 (Au:∀{A B C:World},Kp A B->Kp B C->Kp A C)(Fb:∀(W:World) (l:Nat) (o o':Obj),w.heap.size<=l->W.heap[l]? =some o->o.isCells=false->Kp W (W.putObj l o'))
 (tD:∀k,ig k->k<w.heap.size)
 (I:List α->World->Prop)(Ix:Code->List α->World->Prop)(hI:∀s A B,I s A->iB w ig A B->I s B)(hIx:∀c s A B,Ix c s A->iB w ig A B->Ix c s B)(hE:∀(W:World) (l:Nat) (o o':Obj),w.heap.size<=l->W.heap[l]? =some o->o.isCells=false->E W->E (W.putObj l o'))(h0:I [] w)(Nu:α->World->World)(WW:∀x W,Below W.heap.size W (Nu x W))(hKa:∀x W,w.heap.size<=W.heap.size->Kp W (Nu x W))
 (kX:∀(l:Nat) (x:α) (W:World) (K:Act->World->Prop),K ({tmps:=(a.tmps.setIfInBounds p1 (e1 x)).setIfInBounds d1 (.pointer (zp W)),defers:=[]}:Act) (Nu x W)->
   assign.wpIn (Fence.wide.inRound l) (n - 1 - 1) P (Exit.then K (λ _ _ _=>False)) {tmps:=a.tmps.setIfInBounds p1 (e1 x),defers:=[]} W)
 (qY:∀(l:Nat) (pre:List α) (x:α) (U W:World),w.heap.size<=U.heap.size->(∀(k:Nat) (o:Obj),(Nu x U).heap[k]? =some o->o.isCells=true->W.heap[k]? =some o)->I pre W->G8 (pre++[x])->At x W->body.wpIn (Fence.wide.inRound l) (n - 1 - 1) P (Fl w Kp I Ix (pre++[x]) W) ({tmps:=(a.tmps.setIfInBounds p1 (e1 x)).setIfInBounds d1 (.pointer (zp U)),defers:=[]}:Act) W)
 (qZ:∀(D:Nat) (s:List α) (W:World),w.heap.size<=D->Full s->I s W->E W->W.heap[D]? =some (.deferred (some []))->Q .normal {a with defers:={target:=.collected D,args:=#[]}::a.defers} W)
 (q9:∀(D:Nat) (c:Code) (pre:List α) (W:World),w.heap.size<=D->G8 pre->Ix c pre W->E W->W.heap[D]? =some (.deferred (some []))->c.wpIn Fence.wide n P Q {a with defers:={target:=.collected D,args:=#[]}::a.defers} W):
 (Code.rangeFunc g #[p1] assign body).wpIn Fence.wide n P Q a w:=
 PU h1 hg eg sS Y6 Au Fb (gb) (λ _=>rfl) tD I Ix hI hIx hE h0 (λ x U=>({tmps:=(a.tmps.setIfInBounds p1 (e1 x)).setIfInBounds d1 (.pointer (zp U)),defers:=[]}:Act)) Nu WW hKa (λ l x W K hK=>by simpa using kX l x W K hK) qY qZ q9
theorem aan{α:Type}{g:Operand}{p1:Tmp}
 (h1:5<=n)(hg:a.eval g= .func (.func gf) #[] lb)(eg:∀args w,(callFunc gf args).run P w= .ok (.enter gf args) w)
 {e1:α->Value}{Kp:World->World->Prop}{ig:Nat->Prop}{G8:List α->Prop}{At:α->World->Prop}{Full:List α->Prop}(sS:Mt P gf lb (λ x=>#[e1 x]) Kp ig E G8 At Full w)(Y6:∀x A B,At x A->iB w ig A B->At x B)
 (Au:∀{A B C:World},Kp A B->Kp B C->Kp A C)(Fb:∀(W:World) (l:Nat) (o o':Obj),w.heap.size<=l->W.heap[l]? =some o->o.isCells=false->Kp W (W.putObj l o'))
 (tD:∀k,ig k->k<w.heap.size)
 (I:List α->World->Prop)(Ix:Code->List α->World->Prop)(hI:∀s A B,I s A->iB w ig A B->I s B)(hIx:∀c s A B,Ix c s A->iB w ig A B->Ix c s B)(hE:∀(W:World) (l:Nat) (o o':Obj),w.heap.size<=l->W.heap[l]? =some o->o.isCells=false->E W->E (W.putObj l o'))(h0:I [] w)
 (kX:∀(l:Nat) (x:α) (W:World) (K:Act->World->Prop),K (({tmps:=a.tmps.setIfInBounds p1 (e1 x),defers:=[]}:Act)) W->
   assign.wpIn (Fence.wide.inRound l) (n - 1 - 1) P (Exit.then K (λ _ _ _=>False)) {tmps:=a.tmps.setIfInBounds p1 (e1 x),defers:=[]} W)
 (qY:∀(l:Nat) (pre:List α) (x:α) (W:World),I pre W->G8 (pre++[x])->At x W->body.wpIn (Fence.wide.inRound l) (n - 1 - 1) P (Fl w Kp I Ix (pre++[x]) W) (({tmps:=a.tmps.setIfInBounds p1 (e1 x),defers:=[]}:Act)) W)
 (qZ:∀(D:Nat) (s:List α) (W:World),w.heap.size<=D->Full s->I s W->E W->W.heap[D]? =some (.deferred (some []))->Q .normal {a with defers:={target:=.collected D,args:=#[]}::a.defers} W)
 (q9:∀(D:Nat) (c:Code) (pre:List α) (W:World),w.heap.size<=D->G8 pre->Ix c pre W->E W->W.heap[D]? =some (.deferred (some []))->c.wpIn Fence.wide n P Q {a with defers:={target:=.collected D,args:=#[]}::a.defers} W):
 (Code.rangeFunc g #[p1] assign body).wpIn Fence.wide n P Q a w:=
 VK h1 hg eg sS Y6 Au Fb (gb) (λ _=>rfl) tD I Ix hI hIx hE h0 (λ x=>({tmps:=a.tmps.setIfInBounds p1 (e1 x),defers:=[]}:Act)) (λ l x W K hK=>by simpa using kX l x W K hK) qY qZ q9
theorem R9{α:Type}{g:Operand}{p1 p2:Tmp}(d1 d2:Tmp)
 (h1:5<=n)(hg:a.eval g= .func (.func gf) #[] lb)(eg:∀args w,(callFunc gf args).run P w= .ok (.enter gf args) w)
 {e1 e2:α->Value}{Kp:World->World->Prop}{ig:Nat->Prop}{G8:List α->Prop}{At:α->World->Prop}{Full:List α->Prop}(sS:Mt P gf lb (λ x=>#[e1 x,e2 x]) Kp ig E G8 At Full w)(Y6:∀x A B,At x A->iB w ig A B->At x B)
 (Au:∀{A B C:World},Kp A B->Kp B C->Kp A C)(Fb:∀(W:World) (l:Nat) (o o':Obj),w.heap.size<=l->W.heap[l]? =some o->o.isCells=false->Kp W (W.putObj l o'))
 (tD:∀k,ig k->k<w.heap.size)
 (I:List α->World->Prop)(Ix:Code->List α->World->Prop)(hI:∀s A B,I s A->iB w ig A B->I s B)(hIx:∀c s A B,Ix c s A->iB w ig A B->Ix c s B)(hE:∀(W:World) (l:Nat) (o o':Obj),w.heap.size<=l->W.heap[l]? =some o->o.isCells=false->E W->E (W.putObj l o'))(h0:I [] w)(Nu:α->World->World)(WW:∀x W,Below W.heap.size W (Nu x W))(hKa:∀x W,w.heap.size<=W.heap.size->Kp W (Nu x W))
 (kX:∀(l:Nat) (x:α) (W:World) (K:Act->World->Prop),K ({tmps:=(((a.tmps.setIfInBounds p1 (e1 x)).setIfInBounds p2 (e2 x)).setIfInBounds d1 (.pointer (zp W))).setIfInBounds d2 (e2 x),defers:=[]}:Act) (Nu x W)->
   assign.wpIn (Fence.wide.inRound l) (n - 1 - 1) P (Exit.then K (λ _ _ _=>False)) {tmps:=(a.tmps.setIfInBounds p1 (e1 x)).setIfInBounds p2 (e2 x),defers:=[]} W)
 (qY:∀(l:Nat) (pre:List α) (x:α) (U W:World),w.heap.size<=U.heap.size->(∀(k:Nat) (o:Obj),(Nu x U).heap[k]? =some o->o.isCells=true->W.heap[k]? =some o)->I pre W->G8 (pre++[x])->At x W->body.wpIn (Fence.wide.inRound l) (n - 1 - 1) P (Fl w Kp I Ix (pre++[x]) W) ({tmps:=(((a.tmps.setIfInBounds p1 (e1 x)).setIfInBounds p2 (e2 x)).setIfInBounds d1 (.pointer (zp U))).setIfInBounds d2 (e2 x),defers:=[]}:Act) W)
 (qZ:∀(D:Nat) (s:List α) (W:World),w.heap.size<=D->Full s->I s W->E W->W.heap[D]? =some (.deferred (some []))->Q .normal {a with defers:={target:=.collected D,args:=#[]}::a.defers} W)
 (q9:∀(D:Nat) (c:Code) (pre:List α) (W:World),w.heap.size<=D->G8 pre->Ix c pre W->E W->W.heap[D]? =some (.deferred (some []))->c.wpIn Fence.wide n P Q {a with defers:={target:=.collected D,args:=#[]}::a.defers} W):
 (Code.rangeFunc g #[p1,p2] assign body).wpIn Fence.wide n P Q a w:=
 PU h1 hg eg sS Y6 Au Fb (gb) (λ _=>rfl) tD I Ix hI hIx hE h0 (λ x U=>({tmps:=(((a.tmps.setIfInBounds p1 (e1 x)).setIfInBounds p2 (e2 x)).setIfInBounds d1 (.pointer (zp U))).setIfInBounds d2 (e2 x),defers:=[]}:Act)) Nu WW hKa (λ l x W K hK=>by simpa using kX l x W K hK) qY qZ q9
end Go.Proofs.YtbiififbfefkjaaGreatDoor

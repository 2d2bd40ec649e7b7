/- The store, part 4. -/
import Derived.Test.YtbiififbfefkjaaGreatDoorMAa
set_option linter.unusedSimpArgs false
set_option linter.unusedVariables false
set_option maxRecDepth 100000
set_option maxHeartbeats 16000000
namespace Go.Proofs.YtbiififbfefkjaaGreatDoor
open Go.RowKit Go.Shelf
variable{xs:List Nat}{b:Bool}{id:Nat}{a:Act}{w:World}
def cE(xs:List Nat):ByteArray:=⟨(xs.map UInt8.ofNat).toArray⟩
theorem fu{W:World}{a:az}{k c:Nat}(h:ay W a xs)(hl:xs.length=k):(convert 28 9 (.slice a k c)).run Tryz.prog W= .ok (.string (cE xs)) W:=by
 rw[run_convert_bytes_string W _ _ 5 _ k c bU bU bU];cases a with
 |none=>
  rcases h.2 with h0|⟨B,o,h1,_⟩
  ·subst h0;simp[Conv.bytesToString,cE];rfl
  ·cases h1
 |some p=>
  have hc:(loadCells p k).run Tryz.prog W= .ok ((xs.map Int.ofNat).map (Value.int .u8)).toArray W:=by
   have:=run_loadCells_list (P:=Tryz.prog) W p ((xs.map Int.ofNat).map (Value.int .u8)) (λ j v hj=>by
    obtain⟨x,hx,rfl⟩:∃x,xs[j]? =some x/\Value.int .u8 (Int.ofNat x)=v:=by simpa using hj
    rcases h.2 with h0|⟨B,o,h1,h2⟩
    ·rw[h0]at hx;cases hx
    ·cases h1;have e:(⟨B,o,none⟩:Addr).add j=⟨B,o+j,none⟩:=by unfold Addr.add;split<;>simp_all
     rw[e,h2 j x hx];rfl)
   simpa[hl]using this
  rw[run_bytesToString W p k c _ hc,foldl_push_bytes];simp[cE,ByteArray.empty,ByteArray.emptyWithCapacity];show[]++_=_;rw[bn];exact List.map_congr_left λ x _=>rfl
theorem ay.drop{W:World}{B o:Nat}{xs:List Nat}(h:ay W (some ⟨B,o,none⟩) xs)(n:Nat):ay W (some ⟨B,o+n,none⟩) (xs.drop n):=by
 refine⟨λ x hx=>h.1 x (bm hx),?_⟩;rcases h.2 with h0|⟨B',o',h1,h2⟩
 ·exact .inl (by rw[h0];simp)
 ·cases h1;exact .inr ⟨B,o+n,rfl, λ j x hx=>by rw[fi]at hx;rw[bh];exact h2 _ _ hx⟩
theorem ay.take{W:World}{a:az}{xs:List Nat}(h:ay W a xs)(n:Nat):ay W a (xs.take n):=by
 refine⟨λ x hx=>h.1 x (aP hx),?_⟩;rcases h.2 with h0|⟨B',o',h1,h2⟩
 ·exact .inl (by rw[h0];simp)
 ·exact .inr ⟨B',o',h1, λ j x hx=>by
   rw[bB]at hx;split at hx
   ·exact h2 _ _ hx
   ·cases hx⟩
def cmpL:List Nat->List Nat->Int
 |[],[]=>0
 |[],_::_=> -1
 |_::_,[]=>1
 |a::asz,b::bs=>if a<b then-1 else if b<a then 1 else cmpL asz bs
theorem qG:∀(a b:List Nat),cmpL a b= -1\/cmpL a b=0\/cmpL a b=1
 |[],[]=>by simp[cmpL]
 |[],_::_=>by simp[cmpL]
 |_::_,[]=>by simp[cmpL]
 |a::asz,b::bs=>by
  unfold cmpL;split
  ·simp
  ·split
   ·simp
   ·exact qG asz bs
theorem cmpL_eq:∀(a b:List Nat),cmpL a b=0↔a=b
 |[],[]=>by simp[cmpL]
 |[],_::_=>by simp[cmpL]
 |_::_,[]=>by simp[cmpL]
 |a::asz,b::bs=>by
  unfold cmpL;split
  ·constructor
   ·intro h;cases h
   ·intro h;cases h;omega
  ·split
   ·constructor
    ·intro h;cases h
    ·intro h;cases h;omega
   ·rw[cmpL_eq asz bs,show a=b by omega];simp
theorem Jg(a:List Nat):cmpL a a=0:=(cmpL_eq a a).2 rfl
theorem tH:∀(a b:List Nat),cmpL b a= - cmpL a b
 |[],[]=>by simp[cmpL]
 |[],_::_=>by simp[cmpL]
 |_::_,[]=>by simp[cmpL]
 |a::asz,b::bs=>by
  have ih:=tH asz bs;unfold cmpL;by_cases h1:a<b
  ·simp[h1,Nat.lt_asymm h1]
  ·by_cases h2:b<a
   ·simp[h1,h2]
   ·simp[h1,h2,ih]
def lj(a b:List Nat):Prop:=cmpL a b= -1
theorem lE:∀(a b c:List Nat),lj a b->lj b c->lj a c
 |[],[],c,h,_=>by simp[lj,cmpL]at h
 |[],_::_,[],_,h=>by simp[lj,cmpL]at h
 |[],_::_,_::_,_,_=>by simp[lj,cmpL]
 |_::_,[],_,h,_=>by simp[lj,cmpL]at h
 |_::_,_::_,[],_,h=>by simp[lj,cmpL]at h
 |a::asz,b::bs,c::cs,h1,h2=>by
  have ih:=lE asz bs cs;simp only[lj]at ih;simp only[lj,cmpL]at h1 h2⊢;by_cases ab:a<b
  ·by_cases bc:b<c
   ·rw[if_pos an]
   ·by_cases cb:c<b
    ·simp[bc,cb]at h2
    ·rw[if_pos an]
  ·by_cases ba:b<a
   ·simp[ab,ba]at h1
   ·rw[if_neg ab,if_neg ba]at h1;by_cases bc:b<c
    ·rw[if_pos an]
    ·by_cases cb:c<b
     ·simp[bc,cb]at h2
     ·rw[if_neg bc,if_neg cb]at h2;rw[if_neg an,if_neg an];exact ih h1 h2
theorem jF(a:List Nat):¬ lj a a:=by unfold lj;rw[Jg];decide
theorem yq{a b:List Nat}(h:lj a b):¬ lj b a:=by unfold lj at*;rw[tH,h];decide
theorem Es(a b:List Nat):lj a b\/a=b\/lj b a:=by
 rcases qG a b with h|h|h
 ·exact .inl h
 ·exact .inr (.inl ((cmpL_eq a b).1 h))
 ·exact .inr (.inr (by unfold lj;rw[tH,h]))
def u8s(xs:List Nat):List UInt8:=xs.map UInt8.ofNat
theorem Da:∀(a b:List Nat),(∀x∈a,x<256)->(∀x∈b,x<256)->Lib.compareBytes (u8s a) (u8s b)=cmpL a b
 |[],[],_,_=>rfl
 |[],_::_,_,_=>rfl
 |_::_,[],_,_=>rfl
 |a::asz,b::bs,ha,hb=>by
  have ih:=Da asz bs (λ x hx=>ha x jz) (λ x hx=>hb x jz);have h1:=ha a cP;have h2:=hb b cP;have e1:(UInt8.ofNat a<UInt8.ofNat b)↔a<b:=by rw[UInt8.lt_iff_toNat_lt];simp[cl h1,cl h2]
  have e2:(UInt8.ofNat b<UInt8.ofNat a)↔b<a:=by rw[UInt8.lt_iff_toNat_lt];simp[cl h1,cl h2]
  simp only[u8s,bF,Lib.compareBytes,cmpL,e1,e2];unfold u8s at ih;rw[ih]
def ahs:Go.Shelf.Ren:=⟨λ |165=>41|166=>110|169=>43|240=>69|241=>70|276=>108|277=>109|n=>n, λ |70=>114|72=>116|9=>9|37=>28|127=>164|3=>3|5=>5|4=>4|20=>20|164=>203|75=>207|80=>121|0=>0|n=>n, λ n=>n⟩
theorem abR:Builder.Extra Tryz.prog ahs:={
 sizeBuilder:=bU
 liesBuilder:=bU
 t5:=Tryz.underlying5
 a5:=Tryz.isAgg5
 z5:=Tryz.sizeOf5
 v5:=Tryz.zeroValue5
 infoByte:=bU
 cellsByte:=bU
 sizeByte:=bU
 neB5:=by decide}
def kE(s:ByteArray):List Nat:=s.data.toList.map UInt8.toNat
theorem pS(s:ByteArray):cE (kE s)=s:=by
 unfold cE kE;rw[jq];have:(UInt8.ofNat∘UInt8.toNat)=id:=by funext x;exact UInt8.ofNat_toNat
 rw[this,List.map_id]
theorem iA(s:ByteArray):(kE s).length=s.size:=by unfold kE;rw[aR,jS];rfl
theorem Qt(s:ByteArray):∀x∈kE s,x<256:=by intro x hx;obtain⟨y,_,rfl⟩:=aM.1 hx;exact y.toNat_lt
theorem tX(h:∀x∈xs,x<256):kE (cE xs)=xs:=by
 unfold cE kE;rw[jq]
 conv=>rhs;rw[<-List.map_id xs]
 refine List.map_congr_left λ x hx=>?_;simp[cl (h x hx)]
theorem BE(s:ByteArray)(W:World):∃c W',(convert 9 28 (.string s)).run Tryz.prog W= .ok (.slice (zp W) s.size c) W'/\ay W' (zp W) (kE s)/\s.size<=c/\Below W W W'/\W'.heap.size=W.heap.size+1:=by
 refine⟨_,_,Lib.run_convert_string_bytes W _ _ 5 s (u:=.string) bU bU bU,⟨Qt s,.inr ⟨_,_,rfl, λ j x hx=>?_⟩⟩,grownCap_ge _ _ _ _,?_,Lib.bytesWorld_size _ _ _⟩
 ·have hj:j<s.size:=by
   have:=(aC.1 hx).1;rw[iA]at this;exact this
  rw[aN,Lib.bytesWorld_cell _ _ _ _ hj];unfold kE at hx;rw[aW,gh]at hx;obtain⟨y,hy,rfl⟩:=hx;have hy':s.data[j]? =some y:=by simpa using hy
  simp[List.getD,hy']
 ·unfold Lib.bytesWorld;exact Lib.below_freeze (((ah W W).drew).alloc (cH) _) (cH) _
theorem nr(s:ByteArray)(W:World):∃c W',(convert 9 28 (.string s)).run Tryz.prog W.drew= .ok (.slice (zp W) s.size c) W'/\ay W' (zp W) (kE s)/\s.size<=c/\Below W W W'/\W'.heap.size=W.heap.size+1:=by obtain⟨c,W',h1,h2,h3,h4,h5⟩:=BE s W.drew;exact⟨c,W',h1,h2,h3,((ah W W).drew).T h4,h5⟩
def ins(L:Nat->Bool)(i:Nat):Nat->Bool:= λ k=>cond (k==i) true (L k)
theorem se(h:b=true->False):b=false:=by cases b with
 |false=>rfl
 |true=>exact(h rfl).elim
theorem Ll{p:Prop}(h:b=false)(e:b=true):p:=by rw[h]at e;cases e
def sK(vs:Nat->Value)(i:Nat)(v:Value):Nat->Value:= λ k=>cond (k==i) v (vs k)
def Qz(md:Region.Mode)(ops:Array Oper):Bool:=(List.range ops.size).all λ i=>match ops[i]? with
 |some o=>o.after.all λ e=> !Region.binds md e||decide (e.on<i)
 |none=>true
theorem XZ{p q:Nat->Bool}(h:∀k,q k=true->p k=true){x:Nat}(hp:p x=true)(hq:q x=false):∀{l:List Nat},x∈l->l.countP q<l.countP p
 |[],hx=>by cases hx
 |y::l,hx=>by
  rw[gG,gG];have hm:l.countP q<=l.countP p:=List.countP_mono_left λ k _ hk=>h k hk;rcases aO.1 hx with rfl|hx
  ·rw[hp,hq];simp;omega
  ·have:=XZ h hp hq hx;cases hy:q y with
   |false=>simp;split<;>omega
   |true=>rw[h y hy];simp;omega
section
variable {P : Program} {ops : Array Oper} {Q : Exit -> Act -> World -> Prop} {md : Region.Mode} {Fr : (Nat -> Value) -> Act} {I : (Nat -> Bool) -> (Nat -> Value) -> World -> Prop}
def Lm(P:Program)(md:Region.Mode)(ops:Array Oper)(Q:Exit->Act->World->Prop)(Fr:(Nat->Value)->Act)(I:(Nat->Bool)->(Nat->Value)->World->Prop)(i:Nat):Prop:=
 ∀o,ops[i]? =some o->∀(L:Nat->Bool) (vs:Nat->Value) (w:World),L i=false->(∀m,eY md ops i m=true->L m=true)->(∀k m,eY md ops k m=true->L k=true->L m=true)->I L vs w->
  ∀K:Act->World->Prop,Shut (∀vs' w',I (ins L i) vs' w'->K (Fr vs') w')->if Region.wanted o (yielded ops (Fr vs).tmps)=true then Oper.wp P o (Fr vs) w K Q else K ((Fr vs).put o.dst undef) w
def GF(P:Program)(md:Region.Mode)(ops:Array Oper)(Q:Exit->Act->World->Prop)(Fr:(Nat->Value)->Act)(I:(Nat->Bool)->(Nat->Value)->World->Prop):Nat->Prop
 |0=>True
 |k+1=>GF P md ops Q Fr I k/\Lm P md ops Q Fr I k
theorem GF.get:∀{n:Nat},GF P md ops Q Fr I n->∀i,i<n->Lm P md ops Q Fr I i
 |n+1,h,i,hi=>by
  rcases cX i n with h1|h1
  ·exact h.1.get i h1
  ·obtain rfl:i=n:=an;exact h.2
theorem aaM(hac:Qz md ops=true)(hs:∀i,i<ops.size->Lm P md ops Q Fr I i)(he:∀L vs w,(∀i,i<ops.size->L i=true)->I L vs w->Q .normal (Fr vs) w):
 ∀(fuel:Nat) (listed:Array Bool) (vs:Nat->Value) (w:World),listed.size=ops.size->(∀k m,eY md ops k m=true->listed.getD k false=true->listed.getD m false=true)->(List.range ops.size).countP (λ k=> !listed.getD k false)<=fuel->I (λ k=>listed.getD k false) vs w->wpAny P md ops Q fuel listed (Fr vs) w:=by
 have jB:∀listed:Array Bool,listed.size=ops.size->Region.ready md ops listed=[]->∀n,∀i,i<n->i<ops.size->listed.getD i false=true:=by
  intro listed kA h0 n
  induction n with
  |zero=>intro i h;omega
  |succ n ih=>
   intro i hi Uh;cases hc:listed.getD i false with
   |true=>rfl
   |false=>
    exfalso;have:i∈Region.ready md ops listed:=mem_ready.2 ⟨by rw[<-hc];simp[kA,Uh],ops[i],br Uh, λ e he hb=>by
     have h1:=fI.1 hac i (dw.2 Uh);rw[br Uh]at h1;have h2:=(Array.all_eq_true'.1 h1) e he;rw[hb]at h2;have h3:e.on<i:=by simpa using h2
     exact ih e.on an an⟩
    rw[h0]at this;cases this
 intro fuel
 induction fuel with
 |zero=>
  intro listed vs w kA fh afX hI;have h1:∀i,i<ops.size->listed.getD i false=true:= λ i hi=>by have:=jT.1 (Nat.le_zero.1 afX) i (dw.2 hi);simpa using this
  refine⟨?_,he _ _ _ h1 hI⟩;refine List.eq_nil_iff_forall_not_mem.2 λ i hi=>?_;obtain⟨h2,o,ho,_⟩:=mem_ready.1 hi;have Uh:=(cS ho).1;have:=h1 i Uh;simp[kA,Uh]at h2 this;rw[h2]at this;cases this
 |succ fuel ih=>
  intro listed vs w kA fh afX hI;refine⟨λ h0=>he _ _ _ (λ i hi=>jB listed kA h0 (i+1) i an hi) hI, λ i hi=>?_⟩;obtain⟨h2,o,ho,Eo⟩:=mem_ready.1 hi;have Uh:=(cS ho).1;have h3:listed.getD i false=false:=by simpa[kA,Uh]using h2
  have hwi:∀m,eY md ops i m=true->listed.getD m false=true:= λ m hm=>by unfold eY at hm;rw[ho]at hm;obtain⟨j,hj,hb⟩:=iI.1 hm;simp only[bQ,beq_iff_eq]at hb;have:=Eo _ (iJ hj) hb.1;rw[hb.2]at this;exact this
  refine wpOp_step ho λ K hK=>hs i Uh o ho _ vs w h3 hwi fh hI K λ vs' w' h'=>hK _ _ (ih _ vs' w' (by simp[kA]) (λ k m ZF hk=>?_) ?_ ?_)
  ·by_cases e:i=k
   ·subst e;exact getD_set_true (hwi m ZF)
   ·rw[getD_set_ne false e]at hk;exact getD_set_true (fh k m ZF hk)
  ·have:(List.range ops.size).countP (λ k=> !(listed.setIfInBounds i true).getD k false)<(List.range ops.size).countP (λ k=> !listed.getD k false):=XZ (x:=i) (λ k hk=>by
    by_cases e:i=k
    ·subst e;rw[h3];rfl
    ·rwa [getD_set_ne false e]at hk) (by rw[h3];rfl) (by simp[kA,Uh]) (dw.2 Uh)
   omega
  ·have:(λ k=>(listed.setIfInBounds i true).getD k false)=ins (λ k=>listed.getD k false) i:=by
    funext k;unfold ins;by_cases e:k=i
    ·subst e;simp[kA,Uh]
    ·rw[getD_set_ne false (dy e)];simp[e]
   rw[this];exact h'
theorem aaN(n:Nat)(Fr:(Nat->Value)->Act)(I:(Nat->Bool)->(Nat->Value)->World->Prop)(vs:Nat->Value)(hm:P.follows .mixedOrders=true)(hac:Qz .any ops=true)(hn:ops.size=n)(ha:a=Fr vs)(hI:I (λ _=>false) vs w.drew)
 (hs:GF P .any ops Q Fr I n)(he:∀vs w,I (λ k=>decide (k<n)) vs w->Q .normal (Fr vs) w):(Code.region id ops true).wp P Q a w:=by
 subst ha hn;refine wp_region_any hm (aaM (I:= λ L vs w=>I (λ k=>decide (k<ops.size)&&L k) vs w) hac (λ i hi o ho L vs w hL hw fh hI K hK=>?_) (λ L vs w hL hI=>?_) _ _ vs _ cP (λ k m _ hk=>?_) ?_ ?_)
 ·have cL:∀k m,k<ops.size->eY .any ops k m=true->m<ops.size:= λ k m hk hm=>by
   have h2:=fI.1 hac k (dw.2 hk);unfold eY at hm;rw[br hk]at hm h2;obtain⟨j,hj,hb⟩:=iI.1 hm;simp only[bQ,beq_iff_eq]at hb;have h3:=(Array.all_eq_true'.1 h2) _ (iJ hj);rw[hb.1]at h3;have h4:ops[k].after[j].on<k:=by simpa using h3
   omega
  refine hs.get i hi o ho _ vs w (by simp[hL]) (λ m hm=>?_) (λ k m ZF hk=>?_) hI K λ vs' w' h=>hK.out vs' w' ?_
  ·simp[cL i m hi hm,hw m hm]
  ·simp only[bQ,decide_eq_true_eq]at hk;simp[cL k m hk.1 ZF,fh k m ZF hk.2]
  ·have:(λ k=>decide (k<ops.size)&&ins L i k)=ins (λ k=>decide (k<ops.size)&&L k) i:=by
    funext k;unfold ins;by_cases e:k=i
    ·subst e;simp[hi]
    ·rw[show(k==i)=false from by simpa using e];rfl
   show I _ vs' w';rw[this];exact h
 ·have:(λ k=>decide (k<ops.size)&&L k)= λ k=>decide (k<ops.size):=by
   funext k;by_cases h:k<ops.size
   ·simp[h,hL k h]
   ·simp[h]
  rw[this]at hI;exact he vs w hI
 ·exfalso;rw[Array.getD_eq_getD_getElem?]at hk;by_cases h:k<ops.size<;>simp[h]at hk
 ·exact aj List.countP_le_length cP
 ·have:(λ k=>decide (k<ops.size)&&(Array.replicate ops.size false).getD k false)= λ _=>false:=by
   funext k;by_cases h:k<ops.size<;>simp[h]
  rw[this];exact hI
def Ln(a:Act):List (Option Tmp)->Nat->(Nat->Value)->Act
 |[],_,_=>a
 |d::l,i,vs=>Ln (a.put d (vs i)) l (i+1) vs
def afY(a:Act)(ds:List (Option Tmp))(i:Nat):Value:=match ds[i]? with
 |some (some d)=>a.tmps.getD d undef
 |_=>undef
theorem JU(a:Act):∀(ds:List (Option Tmp)) (i:Nat) (vs:Nat->Value),(∀j d,ds[j]? =some (some d)->vs (i+j)=a.tmps.getD d undef)->Ln a ds i vs=a
 |[],_,_,_=>rfl
 |d::l,i,vs,h=>by
  have h1:a.put d (vs i)=a:=by
   cases d with
   |none=>rfl
   |some d=>
    have:=h 0 d rfl;rw[bb]at this;unfold Act.put;rw[this];have e:a.tmps.setIfInBounds d (a.tmps.getD d undef)=a.tmps:=by
     apply Array.ext
     ·simp
     ·intro k h1 h2;rw[Array.getElem_setIfInBounds];split
      ·rename_i e;subst e;simp[h2]
      ·rfl
    show({a with tmps:=a.tmps.setIfInBounds d (a.tmps.getD d undef)}:Act)=a;rw[e]
  unfold Ln;rw[h1];exact JU a l (i+1) vs λ j d hj=>by have:=h (j+1) d hj;rw[<-this];congr 1;omega
theorem Lo(n:Nat)(ds:List (Option Tmp))(I:(Nat->Bool)->(Nat->Value)->World->Prop)(hm:P.follows .mixedOrders=true)(hac:Qz .any ops=true)(hn:ops.size=n)(hI:∀vs,I (λ _=>false) vs w.drew)
 (h:∀Fr,Shut (Fr=Ln a ds 0)->GF P .any ops Q Fr I n/\∀vs w,I (λ k=>decide (k<n)) vs w->Q .normal (Fr vs) w):(Code.region id ops true).wp P Q a w:=
 aaN n (Ln a ds 0) I (afY a ds) hm hac hn (JU a ds 0 _ λ j d hj=>by unfold afY;rw[aN,hj]).symm (hI _) (h _ rfl).1 (h _ rfl).2
end
end Go.Proofs.YtbiififbfefkjaaGreatDoor

/- The store, part 8. -/
import Derived.Test.YtkgapncajjafoaaGreatDoorMAa
import Derived.Test.YtkgapncajjafoaaGreatDoorMAg
import Derived.Shelf.Strings.Builder1
import Derived.Shelf.Strings.Builder2
import Derived.Test.YtkgapncajjafoaaGreatDoorChecked
import Derived.Test.YtkgapncajjafoaaGreatDoorMAf
import Derived.Test.YtkgapncajjafoaaGreatDoorMAb
set_option linter.unusedSimpArgs false
set_option linter.unusedVariables false
set_option maxRecDepth 100000
set_option maxHeartbeats 16000000
namespace Go.Proofs.YtkgapncajjafoaaGreatDoor
open Go.RowKit Go.Shelf
variable{a b:Option Addr}{s items:List KV}{w0 U V w W W':World}{D d B Bw n₀ cb at_ c n gf k R:Nat}{xs:List Nat}{l:jH}{ps:List Piece}{P:Program}{assign body:Code}{Q:Exit -> Act -> World -> Prop}{lb:Array Value}{E:World -> Prop}{t:TypeId}{v v0 v1 v2 v3:Value}
section
attribute [-go_sem] Builtin.append_
abbrev PW(l:List KV):Prop:=l.Pairwise λ a b=>fV a.1 b.1
theorem qa{l:List KV}:bb (l.map Prod.fst)↔PW l:=by
 unfold PW
 rw[List.pairwise_iff_getElem]
 constructor
 ·intro h i j hi hj hij
  exact h.lt hij (by simp[hi]) (by simp[hj])
 ·intro h j a b ha hb
  simp only[List.getElem?_map,Option.map_eq_some_iff]at ha hb
  obtain⟨x,hx,rfl⟩:=ha
  obtain⟨y,hy,rfl⟩:=hb
  obtain⟨h1,rfl⟩:=List.getElem?_eq_some_iff.1 hx
  obtain⟨h2,rfl⟩:=List.getElem?_eq_some_iff.1 hy
  exact h j (j+1) h1 h2 ag
theorem Ob:∀{a b:List KV},PW a->PW b->(∀x,x∈a↔x∈b)->a=b
 |[],[],_,_,_=>rfl
 |[],y::b,_,_,h=>by have:=(h y).2 aR;simp at this
 |x::a,[],_,_,h=>by have:=(h x).1 aR;simp at this
 |x::a,y::b,ha,hb,h=>by
  rw[PW,List.pairwise_cons]at ha hb
  have RJ:x=y:=by
   rcases List.mem_cons.1 ((h x).1 aR)with e|e
   ·exact e
   ·rcases List.mem_cons.1 ((h y).2 aR)with f|f
    ·exact f.symm
    ·exact absurd (ha.1 y f) (pV (hb.1 x e))
  subst RJ
  rw[Ob ha.2 hb.2 λ z=>?_]
  constructor
  ·intro hz
   rcases List.mem_cons.1 ((h z).1 (List.mem_cons_of_mem _ hz))with e|e
   ·subst e;exact absurd (ha.1 _ hz) (ep _)
   ·exact e
  ·intro hz
   rcases List.mem_cons.1 ((h z).2 (List.mem_cons_of_mem _ hz))with e|e
   ·subst e;exact absurd (hb.1 _ hz) (ep _)
   ·exact e
structure Ed where
 key:List Nat
 put:Bool
 val:List Nat
def rF(x:bN):Ed:=⟨x.key,x.put,x.val⟩
def wb(y:KV)(e:Ed):Bool:=decide (cmpL y.1 e.key<0)
theorem nK{y:KV}{e:Ed}:wb y e=true↔fV y.1 e.key:=by
 unfold wb fV
 rw[decide_eq_true_eq]
 rcases mO y.1 e.key with h|h|h<;>omega
theorem Cu{y:KV}{e:Ed}(h:fV e.key y.1):wb y e=false:=by
 rw[Bool.eq_false_iff];intro h2;exact pV h (nK.1 h2)
def mX(e:Ed):List KV->List KV
 |[]=>[]
 |y::r=>if y.1=e.key then r else y::r
def dK:List KV->List Ed->List KV
 |its,[]=>its
 |its,x::l=>its.takeWhile (wb · x)++((if x.put then[(x.key,x.val)]else[])++dK (mX x (its.dropWhile (wb · x))) l)
theorem KS(x:bN)(l:List an):mX (rF x) (l.map eC)=(mo x l).map eC:=by
 cases l with
 |nil=>rfl
 |cons y r=>
  by_cases h:y.key=x.key
  ·have h1:mo x (y::r)=r:=if_pos h
   have h2:mX (rF x) (eC y::r.map eC)=r.map eC:=if_pos h
   rw[List.map_cons,h1,h2]
  ·have h1:mo x (y::r)=y::r:=if_neg h
   have h2:mX (rF x) (eC y::r.map eC)=eC y::r.map eC:=if_neg h
   rw[List.map_cons,h1,h2,List.map_cons]
theorem wQ:∀(l:List bN) (its:List an),(bE its l).map eC=dK (its.map eC) (l.map rF)
 |[],its=>rfl
 |x::l,its=>by
  rw[bE,List.map_append,List.map_append,List.map_cons,dK,List.takeWhile_map,List.dropWhile_map]
  congr 1
  rw[KS,<-wQ l]
  congr 1
  show List.map eC (if x.put then[nH x]else[])=if x.put then[(x.key,x.val)]else[]
  cases x.put<;>rfl
theorem KT(e:Ed)(l:List KV)(x:KV)(h:x∈mX e l):x∈l:=by
 cases l with
 |nil=>exact h
 |cons y r=>
  by_cases hk:y.1=e.key
  ·have:mX e (y::r)=r:=if_pos hk
   rw[this]at h;exact List.mem_cons_of_mem _ h
  ·have:mX e (y::r)=y::r:=if_neg hk
   rw[this]at h;exact h
theorem Jo{e:Ed}{B:List KV}(h:∀b∈B,wb b e=false):∀A:List KV,(A++B).takeWhile (wb · e)=A.takeWhile (wb · e)/\(A++B).dropWhile (wb · e)=A.dropWhile (wb · e)++B
 |[]=>by
  cases B with
  |nil=>exact⟨rfl,rfl⟩
  |cons b B=>have:=h b aR;simp[this]
 |a::A=>by
  obtain⟨h1,h2⟩:=Jo h A
  simp only[List.cons_append,List.takeWhile_cons,List.dropWhile_cons]
  cases wb a e<;>simp[h1,h2]
theorem xW(B:List KV)(l2:List Ed):∀(l1:List Ed) (A:List KV),(∀e∈l1,∀b∈B,fV e.key b.1)->(∀e∈l2,∀a∈A,fV a.1 e.key)->dK (A++B) (l1++l2)=dK A l1++dK B l2
 |[],A,_,h2=>by
  cases l2 with
  |nil=>rfl
  |cons e l=>
   have h:∀a∈A,wb a e=true:= λ a ha=>nK.2 (h2 e aR a ha)
   rw[List.nil_append,dK,dK,dK,List.takeWhile_append_of_pos h,List.dropWhile_append_of_pos h,List.append_assoc]
 |e::l1,A,h1,h2=>by
  obtain⟨t1,t2⟩:=Jo (e:=e) (B:=B) (λ b hb=>Cu (h1 e aR b hb)) A
  rw[List.cons_append,dK,t1,t2,dK]
  have hd:mX e (A.dropWhile (wb · e)++B)=mX e (A.dropWhile (wb · e))++B:=by
   cases A.dropWhile (wb · e)with
   |nil=>
    cases B with
    |nil=>rfl
    |cons b B=>
     have:=h1 e aR b aR
     have bS:b.1≠e.key:= λ h=>by rw[h]at this;exact ep _ this
     simp[mX,bS]
   |cons a A'=>simp only[List.cons_append,mX];split<;>rfl
  rw[hd,xW B l2 l1 _ (λ e' he=>h1 e' (List.mem_cons_of_mem _ he)) λ e' he a ha=>h2 e' he a (List.dropWhile_subset _ (KT _ _ _ ha))]
  simp only[List.append_assoc]
theorem Jp{e:Ed}:∀{its:List KV},PW its->its.takeWhile (wb · e)=its.filter (wb · e)/\mX e (its.dropWhile (wb · e))=its.filter λ y=> !wb y e&& !decide (y.1=e.key)
 |[],_=>⟨rfl,rfl⟩
 |y::r,h=>by
  rw[PW,List.pairwise_cons]at h
  cases hy:wb y e with
  |true=>
   obtain⟨h1,h2⟩:=Jp (e:=e) h.2
   simp[List.takeWhile_cons,List.dropWhile_cons,hy,h1,h2]
  |false=>
   have hr:∀z∈r,fV e.key z.1:= λ z hz=>by
    have h1:=h.1 z hz
    rcases wN y.1 e.key with h3|h3|h3
    ·rw[nK.2 h3]at hy;cases hy
    ·rw[<-h3];exact h1
    ·exact gK _ _ _ h3 h1
   have hf:r.filter (wb · e)=[]:=List.filter_eq_nil_iff.2 λ z hz=>by simp[Cu (hr z hz)]
   have hg:r.filter (λ y=> !wb y e&& !decide (y.1=e.key))=r:=List.filter_eq_self.2 λ z hz=>by
    have h1:=hr z hz
    have:z.1≠e.key:= λ h=>by rw[h]at h1;exact ep _ h1
    simp[Cu h1,this]
   refine⟨by simp[List.takeWhile_cons,hy,hf],?_⟩
   simp only[List.dropWhile_cons,hy,List.filter_cons,hg,mX,Bool.not_false,Bool.true_and]
   by_cases hk:y.1=e.key<;>simp[hk]
theorem sL:∀{l:List Ed} {its:List KV},PW its->l.Pairwise (λ a b=>fV a.key b.key)->PW (dK its l)/\∀kv,kv∈dK its l↔(kv∈its/\∀e∈l,e.key≠kv.1)\/∃e∈l,e.put=true/\kv=(e.key,e.val)
 |[],its,h,_=>⟨h, λ kv=>by simp[dK]⟩
 |e::l,its,h,hl=>by
  rw[List.pairwise_cons]at hl
  obtain⟨t1,t2⟩:=Jp (e:=e) h
  rw[dK,t1,t2]
  have hG:PW (its.filter λ y=> !wb y e&& !decide (y.1=e.key)):=h.filter _
  obtain⟨p1,p2⟩:=sL hG hl.2
  have Qx:∀y,(!wb y e&& !decide (y.1=e.key))=true->fV e.key y.1:= λ y hy=>by
   simp only[Bool.and_eq_true,Bool.not_eq_true',decide_eq_false_iff_not]at hy
   rcases wN y.1 e.key with h3|h3|h3
   ·rw[nK.2 h3]at hy;cases hy.1
   ·exact absurd h3 hy.2
   ·exact h3
  have hm:∀kv∈dK (its.filter λ y=> !wb y e&& !decide (y.1=e.key)) l,fV e.key kv.1:= λ kv Ai=>by
   rcases(p2 kv).1 Ai with⟨h1,_⟩|⟨e',wc,_,rfl⟩
   ·exact Qx kv (List.mem_filter.1 h1).2
   ·exact hl.1 e' wc
  refine⟨?_, λ kv=>?_⟩
  ·refine List.pairwise_append.2 ⟨h.filter _,List.pairwise_append.2 ⟨by cases e.put<;>simp,p1, λ a ha b hb=>?_⟩, λ a ha b hb=>?_⟩
   ·split at ha
    ·rw[List.mem_singleton]at ha;subst ha;exact hm b hb
    ·cases ha
   ·have ha:=nK.1 (List.mem_filter.1 ha).2
    rcases List.mem_append.1 hb with hb|hb
    ·split at hb
     ·rw[List.mem_singleton]at hb;subst hb;exact ha
     ·cases hb
    ·exact gK _ _ _ ha (hm b hb)
  ·simp only[List.mem_append,p2,List.mem_filter,List.mem_cons]
   constructor
   ·rintro(⟨h1,h2⟩|h1|⟨⟨h1,h2⟩,h3⟩|⟨e',wc,h1,h2⟩)
    ·have h2:=nK.1 h2
     refine .inl ⟨h1, λ e' wc hk=>?_⟩
     rcases wc with rfl|wc
     ·rw[hk]at h2;exact ep _ h2
     ·rw[<-hk]at h2;exact pV h2 (hl.1 e' wc)
    ·split at h1
     ·rename_i hp
      rw[List.mem_singleton]at h1
      exact .inr ⟨e,.inl rfl,hp,h1⟩
     ·cases h1
    ·refine .inl ⟨h1, λ e' wc hk=>?_⟩
     rcases wc with rfl|wc
     ·have:=Qx kv h2;rw[hk]at this;exact ep _ this
     ·exact h3 e' wc hk
    ·exact .inr ⟨e',.inr wc,h1,h2⟩
   ·rintro(⟨h1,h2⟩|⟨e',rfl|wc,h1,h2⟩)
    ·rcases wN kv.1 e.key with h3|h3|h3
     ·exact .inl ⟨h1,nK.2 h3⟩
     ·exact absurd h3.symm (h2 e (.inl rfl))
     ·refine .inr (.inr (.inl ⟨⟨h1,?_⟩, λ e' wc=>h2 e' (.inr wc)⟩))
      have:kv.1≠e.key:= λ h=>h2 e (.inl rfl) h.symm
      simp[Cu h3,this]
    ·exact .inr (.inl (by simp[h1,h2]))
    ·exact .inr (.inr (.inr ⟨e',wc,h1,h2⟩))
section
variable {α : Type}
def nk(all:List Nat)(S:α->List KV->Prop)(lo:Nat):Pv α->List KV->Prop
 | .kept r,its=>cW all r its/\lo<=r.h
 | .loose ys,its=>aT S ys its
theorem nk.more{all:List Nat}{S T:α->List KV->Prop}{lo:Nat}(m:List Nat)(hS:∀x s,S x s->T x s){p:Pv α}{its:List KV}(h:nk all S lo p its):nk (all++m) T lo p its:=by
 cases p with
 |kept r=>exact⟨h.1.more m,h.2⟩
 |loose ys=>exact aT.mono (λ x _=>hS x) h
theorem aT.snoc{β:Type}{S:β->List KV->Prop}{xs:List β}{x:β}{a:List KV}(h:aT S xs a)(hx:S x s):aT S (xs++[x]) (a++s):=aT.app.2 ⟨a,s,h,aT.one.2 hx,rfl⟩
theorem KU{all:List Nat}{S:α->List KV->Prop}{lo:Nat}{out:List (Pv α)}{p:Pv α}{a:List KV}(h:aT (nk all S lo) out a)(hp:nk all S lo p s):aT (nk all S lo) (bk out p) (a++s):=by
 cases p with
 |kept r=>exact h.snoc hp
 |loose ys=>
  cases ys with
  |nil=>cases hp;rw[List.append_nil];exact h
  |cons y ys=>
   rcases List.eq_nil_or_concat out with rfl|⟨o,q,rfl⟩
   ·rw[cT aR (.inl rfl)];exact h.snoc hp
   ·rw[List.concat_eq_append]at h⊢
    cases q with
    |kept r=>rw[cT aR (.inr ⟨o,r,rfl⟩)];exact h.snoc hp
    |loose zs=>
     rw[dH aR]
     obtain⟨a1,b1,e1,e2,rfl⟩:=aT.app.1 h
     rw[List.append_assoc]
     exact e1.snoc (aT.app.2 ⟨b1,s,aT.one.1 e2,hp,rfl⟩)
theorem Eu{all:List Nat}{S:α->List KV->Prop}{lo:Nat}:∀{l out:List (Pv α)} {a s:List KV},aT (nk all S lo) out a->aT (nk all S lo) l s->aT (nk all S lo) (l.foldl bk out) (a++s)
 |[],_,_,_,h,hs=>by cases hs;rw[List.append_nil];exact h
 |p::l,_,_,_,h,⟨s1,r,h1,h2,h3⟩=>by
  rw[List.foldl_cons,h3,<-List.append_assoc]
  exact Eu (KU h h1) h2
def Tidy:List (Pv α)->Prop
 |[]=>True
 | .kept _::l=>Tidy l
 | .loose ys::l=>1<=ys.length/\(match l with| .loose _::_=>False|_=>True)/\Tidy l
theorem uu{r:aN}:∀{l:List (Pv α)},Tidy l->Tidy (l++[.kept r])
 |[],_=>trivial
 | .kept _::l,h=>uu (l:=l) h
 | .loose ys::l,h=>by
   refine⟨h.1,?_,uu h.2.2⟩
   cases l with
   |nil=>trivial
   |cons p l=>have:=h.2.1;cases p<;>first|trivial|exact this
theorem nL{zs:List α}(hz:1<=zs.length):∀{l:List (Pv α)},Tidy l->(l=[]\/∃o r,l=o++[.kept r])->Tidy (l++[.loose zs])
 |[],_,_=>⟨hz,trivial,trivial⟩
 |[.kept _],_,_=>⟨hz,trivial,trivial⟩
 |[.loose ys],_,hl=>by
  rcases hl with hl|⟨o,r,hl⟩
  ·cases hl
  ·have:=congrArg List.getLast? hl;simp at this
 |p::q::l,h,hl=>by
  have oD:q::l=[]\/∃o r,q::l=o++[.kept r]:=by
   rcases hl with hl|⟨o,r,hl⟩
   ·cases hl
   ·cases o with
    |nil=>simp at hl
    |cons x o=>exact .inr ⟨o,r,(List.cons.inj hl).2⟩
  cases p with
  |kept _=>exact nL hz (l:=q::l) h oD
  |loose ys=>
   refine⟨h.1,?_,nL hz (l:=q::l) h.2.2 oD⟩
   have:=h.2.1
   cases q<;>first|trivial|exact this
theorem uv{zs ws:List α}(hw:1<=ws.length):∀{l:List (Pv α)},Tidy (l++[.loose zs])->Tidy (l++[.loose ws])
 |[],_=>⟨hw,trivial,trivial⟩
 | .kept _::l,h=>uv hw (l:=l) h
 | .loose ys::l,h=>by
   refine⟨h.1,?_,uv hw h.2.2⟩
   have:=h.2.1
   cases l with
   |nil=>exact this
   |cons p l=>cases p<;>first|trivial|exact this
theorem KW{out:List (Pv α)}(h:Tidy out)(p:Pv α):Tidy (bk out p):=by
 cases p with
 |kept r=>exact uu h
 |loose ys=>
  cases ys with
  |nil=>exact h
  |cons y ys=>
   rcases List.eq_nil_or_concat out with rfl|⟨o,q,rfl⟩
   ·rw[cT aR (.inl rfl)];exact nL aR h (.inl rfl)
   ·rw[List.concat_eq_append]at h⊢
    cases q with
    |kept r=>rw[cT aR (.inr ⟨o,r,rfl⟩)];exact nL aR h (.inr ⟨o,r,rfl⟩)
    |loose zs=>rw[dH aR];exact uv bV h
theorem tidy_fold:∀{l out:List (Pv α)},Tidy out->Tidy (l.foldl bk out)
 |[],_,h=>h
 |p::l,_,h=>tidy_fold (l:=l) (KW h p)
theorem sM:∀{l:List (Pv α)} {i:Nat} {ys:List α},Tidy l->l[i]? =some (.loose ys)->1<=ys.length/\∀p,l[i+1]? =some p->∃r,p= .kept r
 |[],_,_,_,h=>by simp at h
 | .kept _::l,0,_,_,h=>by simp at h
 | .loose zs::l,0,ys,ht,h=>by
   have:zs=ys:=by simpa using h
   subst this
   refine⟨ht.1, λ p hp=>?_⟩
   cases l with
   |nil=>simp at hp
   |cons q l=>
    have:=ht.2.1
    have hq:q=p:=by simpa using hp
    subst hq
    cases q with
    |kept r=>exact⟨r,rfl⟩
    |loose _=>exact this.elim
 | .kept _::l,i+1,_,ht,h=>sM (l:=l) ht (by simpa using h)
 | .loose _::l,i+1,_,ht,h=>sM (l:=l) ht.2.2 (by simpa using h)
def isSmall:Pv α->Bool
 | .kept _=>false
 | .loose ys=>decide (ys.length<3)
def bC(l:List (Pv α)):Nat:=l.countP isSmall
theorem cl(a b:List (Pv α)):bC (a++b)=bC a+bC b:=List.countP_append
theorem gE(p:Pv α):bC [p]=if isSmall p then 1 else 0:=by unfold bC;simp[List.countP_cons]
theorem Ev(out:List (Pv α))(p:Pv α):bC (bk out p)<=bC out+bC [p]:=by
 cases p with
 |kept r=>simp[bk,cl]
 |loose ys=>
  cases ys with
  |nil=>simp[bk]
  |cons y ys=>
   rcases List.eq_nil_or_concat out with rfl|⟨o,q,rfl⟩
   ·rw[cT aR (.inl rfl),cl];omega
   ·rw[List.concat_eq_append]
    cases q with
    |kept r=>rw[cT aR (.inr ⟨o,r,rfl⟩),cl];omega
    |loose zs=>
     rw[dH aR,cl,cl]
     have:bC [Pv.loose (zs++y::ys)]<=bC [Pv.loose (y::ys)]:=by
      rw[gE,gE];unfold isSmall
      simp only[List.length_append,List.length_cons,decide_eq_true_eq]
      split<;>split<;>omega
     omega
theorem pj:∀(l out:List (Pv α)),bC (l.foldl bk out)<=bC out+bC l
 |[],out=>by simp[bC]
 |p::l,out=>by
  have h1:=pj l (bk out p)
  have h2:=Ev out p
  have h3:bC (p::l)=bC [p]+bC l:=cl [p] l
  rw[List.foldl_cons];omega
theorem nM(ws:List α)(h:3<=ws.length):bC [Pv.loose ws]=0:=by
 rw[gE];simp[isSmall];omega
theorem GX(out:List (Pv α))(ys zs:List α)(hy:1<=ys.length)(hz:1<=zs.length)(h:3<=ys.length+zs.length):bC (bk (bk out (.loose ys)) (.loose zs))<=bC out:=by
 have hb:3<=(ys++zs).length:=by rw[List.length_append];exact h
 rcases List.eq_nil_or_concat out with rfl|⟨o,q,rfl⟩
 ·rw[cT hy (.inl rfl),dH hz,cl,nM _ hb];exact aW
 ·rw[List.concat_eq_append]
  cases q with
  |kept r=>rw[cT hy (.inr ⟨o,r,rfl⟩),dH hz,cl,nM _ hb];exact aW
  |loose ws=>rw[dH hy,dH hz,cl,cl,nM _ bV];omega
theorem vy{A M B:List (Pv α)}{ys zs:List α}(hy:1<=ys.length)(hz:1<=zs.length)(h:3<=ys.length+zs.length)(hM:bC M=0):bC (lP (A++(.loose ys::.loose zs::(M++B))))<=bC A+bC B:=by
 unfold lP
 rw[List.foldl_append,List.foldl_cons,List.foldl_cons]
 have h1:=pj (M++B) (bk (bk (A.foldl bk []) (.loose ys)) (.loose zs))
 have h2:=GX (A.foldl bk []) ys zs hy hz h
 have h3:=pj A []
 rw[cl]at h1
 have:bC ([]:List (Pv α))=0:=rfl
 omega
def bW(l:List (Pv α)):Nat:=l.countP λ p=>match p with| .kept _=>true| .loose _=>false
theorem cF(a b:List (Pv α)):bW (a++b)=bW a+bW b:=List.countP_append
theorem GY(out:List (Pv α))(p:Pv α):bW (bk out p)=bW out+bW [p]:=by
 cases p with
 |kept r=>simp[bk,cF]
 |loose ys=>
  cases ys with
  |nil=>simp[bk,bW]
  |cons y ys=>
   rcases List.eq_nil_or_concat out with rfl|⟨o,q,rfl⟩
   ·rw[cT aR (.inl rfl),cF]
   ·rw[List.concat_eq_append]
    cases q with
    |kept r=>rw[cT aR (.inr ⟨o,r,rfl⟩),cF]
    |loose zs=>rw[dH aR,cF,cF];simp[bW]
theorem xX:∀(l out:List (Pv α)),bW (l.foldl bk out)=bW out+bW l
 |[],out=>by simp[bW]
 |p::l,out=>by
  have h3:bW (p::l)=bW [p]+bW l:=cF [p] l
  rw[List.foldl_cons,xX l,GY];omega
end
def ab2:Go.Shelf.Ren:=⟨λ |165=>65|166=>122|169=>67|240=>83|241=>84|276=>120|277=>121|n=>n, λ |70=>156|72=>158|9=>9|37=>34|127=>205|3=>3|5=>5|4=>4|20=>20|164=>239|75=>243|80=>163|0=>0|n=>n, λ n=>n⟩
theorem VW:Builder.Extra Tryz.prog ab2:={
 sizeBuilder:=aO
 liesBuilder:=aO
 t5:=Tryz.underlying5
 a5:=Tryz.isAgg5
 z5:=Tryz.sizeOf5
 v5:=Tryz.zeroValue5
 infoByte:=aO
 cellsByte:=aO
 sizeByte:=aO
 neB5:=by decide}
theorem rG{α β γ:Type}{f:α->γ}{g:β->γ}{xs:List α}{ys:List β}(h:ys.map g=xs.map f){j:Nat}{y:β}(hy:ys[j]? =some y):∃x,xs[j]? =some x/\f x=g y:=by
 have:=congrArg (·[j]?) h
 simp only[List.getElem?_map,hy,Option.map_some]at this
 cases hx:xs[j]? with
 |none=>rw[hx]at this;cases this
 |some x=>rw[hx]at this;exact⟨x,rfl,(Option.some.inj this).symm⟩
theorem GZ{t:vZ}{N:Nat}{J Jx:List an->World->Prop}{full:List KV}(qN:Cp t w0 D N J Jx full)(h8:d<8)(ih:El t w0 J Jx full d):El t w0 J Jx full (d+1):=by
 intro at_ n m items V ez k a la last lc told pre fP cS hR kK VO Ns vr mM gM
 cases n with
 |leaf xs=>exact fP.elim
 |inner xs=>
 obtain⟨j8,gW,cq,su,oP,TM⟩:=fP
 obtain⟨ys,rfl,RM,G0,VX⟩:=KK cS
 have Jg:ys.length<=6:=(dt.same gW ⟨RM,G0,VX⟩).1.kT
 have r6:ys.length=xs.length:=by have:=congrArg List.length RM;simpa using this
 have ot:at_<524288:=Nat.lt_of_lt_of_le j8.lt qN.hF.small
 subst oP
 have HK0:∀(i:Nat) (y:aw) (s:List KV),ys[i]? =some y->cq[i]? =some s->y.at_<at_/\∃n:Nd,3<=n.tL/\y.count=n.red/\n.keys[0]? =some y.key/\er (al t.ps) d n y.at_ s:= λ i y s hy hs=>by
  obtain⟨x,hx,e1⟩:=rG RM hy
  obtain⟨x2,ek,e2⟩:=rG G0 hy
  obtain⟨x3,jS,e3⟩:=rG VX hy
  rw[hx]at ek jS
  cases ek;cases jS
  rw[<-e1,<-e2,<-e3]
  exact TM i x s hx hs
 have ZR:∀(j:Nat) (s:List KV),cq[j]? =some s->∃kv r,s=kv::r/\(ys.map aw.key)[j]? =some kv.1:= λ j s hs=>by
  obtain⟨y,hy⟩:∃y,ys[j]? =some y:=⟨ys[j]'(by have:=(List.getElem?_eq_some_iff.1 hs).1;omega),by simp⟩
  obtain⟨_,n,_,_,hk,VY⟩:=HK0 j y s hy hs
  obtain⟨kv,r,e1,e2⟩:=VY.first
  rw[e2]at hk
  exact⟨kv,r,e1,by rw[List.getElem?_map,hy];exact hk.symm⟩
 obtain⟨V1,lO⟩:=aK (V.alloc (.cells (mB a ys.length k) 169))
 have aQ:Below V V V1:=by rw[lO];go_grown
 have Ah:V1.heap[V.heap.size]? =some (.cells (mB a ys.length k) 169):=jJ lO
 obtain⟨N0,sj⟩:=VO.below aQ
 have N1:Safe t.Y t.B V1 V.heap.size:=VO.fresh aQ _ (aW) (aX Ah).1
 have mQ:Hid (∀W,Lets w0 t.Y t.B V1 W->W.heap[V.heap.size]? =some (.cells (mB a ys.length k) 169)):=af λ W h=>h.ft N1 Ah
 have HR:Hid (∀W,Lets w0 t.Y t.B V1 W->fm W ez a k ys):=af λ W h=>Nd.R.lets (sj.T h) kK (n:=.inner ys) hR
 have RF:Hid (Told t w0 V1 J pre last told [] V1):=af ⟨Lets.refl _ _ _ _,la,last,lc,told,N0,⟨[],rfl,by rw[List.append_nil];exact qN.hJ _ _ _ Ns (dz.aA aQ)⟩, λ key h _=>h⟩
 have TB:Hid (∀l W W',Told t w0 V1 J pre last told l W->Below W W W'->Told t w0 V1 J pre last told l W'):=af λ l W W' h hb=>h.below qN.hJ hb
 have HIN:Hid (∀(i:Nat) (l:List KV) (W:World),i<ys.length->Told t w0 V1 J pre last told l W->Calls Tryz.prog 71 (QV (zp t.Bw) (.agg (mB a ys.length k)) i) W λ e w'=>e= .returned (.bool (F9 t.l (ys.map aw.key) i))/\Below W W w'):=af λ i l W hi h=>by
  obtain⟨hl,qM,fO,tM,gm,fo, -⟩:=h
  exact VH fo.walk ⟨qN.hl.1.below fo.base,qN.hl.2.below fo.base⟩ (HR.O W hl).at ag i hi none 0 0
 have HSK:Hid (∀(i:Nat) (s:List KV) (W:World),cq[i]? =some s->F9 t.l (ys.map aw.key) i=false->Told t w0 V1 J pre last told (cq.take i).flatten W->Told t w0 V1 J pre last told (cq.take (i+1)).flatten W):=af λ i s W hs hk h=>by
  rw[AZ cq i s hs]
  exact h.skip (KH hs gM ZR (by rw[List.length_map,r6];exact su) hk)
 have HKD:Hid (∀(i:Nat) (y:aw) (s l:List KV) (W:World),ys[i]? =some y->cq[i]? =some s->Told t w0 V1 J pre last told l W->Calls Tryz.prog 72 #[.pointer (zp t.Bw),y.v,.int .i64 (d:Int),.int .i64 (at_:Int)] W λ e w'=>∃(n m:Nd) (a:Option Addr) (k:Nat),er (al t.ps) d n y.at_ s/\m.pd n/\e= .returned (.tuple #[m.v a k,.bool true])/\m.R w' W.heap.size a k/\Below W W w'):=af λ i y s l W hy hs h=>by
  obtain⟨hl,qM,fO,tM,gm,fo, -⟩:=h
  obtain⟨h1,n,h2,h3,h4,h5⟩:=HK0 i y s hy hs
  obtain⟨q1,q2,q3⟩:=h5.node
  refine(RA fo.walk (qN.hF.below fo.base) qN.hm y ((HR.O W hl).2 y (List.mem_of_getElem? hy)).1 at_ d q3 q1 q2 h1 h2 h3 h4).mono ?_
  rintro e w' ⟨m,a,k,h6,h7,h8,h9⟩
  exact⟨n,m,a,k,h5,h6,h7,h8,h9⟩
 have Qy:Hid (∀(i:Nat) (s:List KV) (W W3:World),cq[i]? =some s->Told t w0 V1 J pre last told (cq.take i).flatten W->Below W W W3->∀(y:aw) (n m:Nd) (a:Option Addr) (k:Nat),er (al t.ps) d n y.at_ s->m.pd n->m.R W3 W.heap.size a k->
  Calls Tryz.prog 69 #[m.v a k,.int .i64 (y.at_:Int),.int .i64 (d:Int),.pointer (zp t.B1),.pointer (zp t.B2),.pointer (zp t.B3)] W3 λ e W'=>
  ∃r,e= .returned (.bool r)/\Hid ((r=true->Told t w0 V1 J pre last told (cq.take (i+1)).flatten W')/\(r=false->Cut t w0 V1 Jx full W'))):=af λ i s W W3 hs h hb y n m a k h1 h2 h3=>by
  rw[AZ cq i s hs]
  rw[xK cq i s hs]at gM vr mM
  exact Told.next qN.hJ ih h hb h1 h2 h3 gM vr mM
 have eJ:Hid (∀W,Told t w0 V1 J pre last told cq.flatten W->Told t w0 V J pre last told cq.flatten W):=af λ W h=>⟨sj.T h.1,h.2⟩
 have ry:Hid (∀W,Cut t w0 V1 Jx full W->Cut t w0 V Jx full W):=af λ W h=>⟨sj.T h.1,h.2⟩
 have mU:Hid (cq.length=ys.length):=af ag
 unfold Nd.v Nd.is Nd.a1 Nd.n1 Nd.k1 Nd.a2 Nd.n2 Nd.k2
 dsimp only
 have Re:(ys.length:Int)<=6:=ag
 have hdz:(((d+1:Nat):Int)==0)=false:=bV
 have adn:((d:Int)+1==0)=false:=bV
 have RH:IntKind.i64.wrap ((d:Int)+1 - 1)=(d:Int):=by rw[IntKind.wrap_i64];omega
 have hd8:(d:Int)<8:=ag
 have Cb:IntKind.i64.wrap (d:Int)=(d:Int):=by rw[IntKind.wrap_i64];omega
 have TN:((d+1:Nat):Int)=(d:Int)+1:=ag
 rw[TN]
 clear cS hR kK VO Ns vr mM gM gW RM G0 VX N0 sj N1 aQ Ah qN Jg j8 su TM HK0 ZR r6 ih TN
 unfold aw.v Ks at HKD
 subst lO
 go_enter Tryz.func69,Tryz.ntmps69
 go_wp2_with fail
 go_step3
 go_wp2_with fail
 go_step3
 go_wp2_with fail
 go_loopw [22] (λ iv wr=>∃i:Nat,i<=ys.length/\iv= .int .i64 (i:Int)/\Hid (Told t w0 (V.alloc (.cells (mB a ys.length k) 169)) J pre last told (cq.take i).flatten wr)) (λ iv _=>ys.length - (intOf iv).toNat)
 case atStart=>exact⟨0,Nat.zero_le _,rfl,RF⟩
 case round=>
  obtain⟨i,hi,rfl,iZ⟩:=hrel
  by_cases bg:i<ys.length
  ·obtain⟨y,hy⟩:∃y,ys[i]? =some y:=⟨ys[i],by simp[bg]⟩
   obtain⟨s,hs⟩:∃s,cq[i]? =some s:=⟨cq[i]'(by rw[mU.O];exact bg),by simp⟩
   have DE:((i:Int)<(ys.length:Int)):=ag
   have hi6:(i:Int)<=6:=ag
   have HI:=af (HIN.O i _ wr bg iZ.O)
   obtain⟨C,o,rfl,hc⟩:∃C o,a=some ⟨C,o,none⟩/\∀(j:Nat) (v:Value),y.cells[j]? =some v->wr.cell? ⟨C,o+i*8+j,none⟩=some v:=by
    obtain⟨hl, -⟩:=iZ.O
    rcases(HR.O wr hl).at.1 with h0|⟨C,o,e,hc⟩
    ·rw[h0]at bg;simp at bg
    ·exact⟨C,o,e, λ j v hv=>hc i y hy j v hv⟩
   have HF:Hid (∀W,Below wr wr W->(W.cell? (za V 0)=some (.bool false)/\W.cell? (za V 1)=some (.slice none 0 0)/\W.cell? (za V 2)=some (.slice (some ⟨C,o,none⟩) ys.length k))/\W.cell? (za t.B1 0)=some (.pointer (zp t.Bw))/\W.cell? (za t.Bw 8)=some (.bool false)/\W.cell? (za t.B3 0)=some (vq t.B1 t.B2 t.B3)/\
    (W.cell? ⟨C,o+i*8,none⟩=some (.slice y.ka y.key.length y.kc)/\W.cell? ⟨C,o+i*8+1,none⟩=some (.int .i64 (y.at_:Int))/\W.cell? ⟨C,o+i*8+2,none⟩=some (.int .i64 (y.count:Int))/\W.cell? ⟨C,o+i*8+3,none⟩=some (.int .i64 0)/\W.cell? ⟨C,o+i*8+4,none⟩=some (.int .i64 0)/\W.cell? ⟨C,o+i*8+5,none⟩=some (.int .u64 0)/\W.cell? ⟨C,o+i*8+6,none⟩=some (.int .i64 0)/\W.cell? ⟨C,o+i*8+7,none⟩=some (.int .i64 0))):=af λ W hb=>by
    obtain⟨hl,qM,fO,tM,gm,fo, -⟩:=iZ.O
    have bx:=ga ((hb.block _ (aX (mQ.O wr hl)).1).T (mQ.O wr hl))
    exact⟨bx,carry hb (aJ fo.b1),carry hb ((aa fo.walk 8).T rfl),carry hb (aJ fo.b3),carry hb (hc 0 _ rfl),carry hb (hc 1 _ rfl),carry hb (hc 2 _ rfl),carry hb (hc 3 _ rfl),carry hb (hc 4 _ rfl),carry hb (hc 5 _ rfl),carry hb (hc 6 _ rfl),carry hb (hc 7 _ rfl)⟩
   unfold vq at HF
   clear hc
   obtain⟨⟨n0,n1,n2⟩,p1,tu,p3,c0,c1,c2,c3,c4,c5,c6,c7⟩:=HF.O wr (dp)
   cases hink:F9 t.l (ys.map aw.key) i with
   |false=>
    go_wp2_with first
     |((with_reducible refine HI.O.mono ?_);rintro e w2 ⟨rfl,aC⟩;rw[hink])
     |fail
    go_roundw
    case rel=>exact⟨i+1,ag,by simp,af (HSK.O i s _ hs hink (TB.O _ _ _ iZ.O aC))⟩
    case measure=>simp[intOf];omega
   |true=>
    go_wp2_with first
     |((with_reducible refine HI.O.mono ?_);rintro e w2 ⟨rfl,aC⟩;rw[hink]
       have bR:=af aC
       clear n0 n1 n2 p1 tu p3 c0 c1 c2 c3 c4 c5 c6 c7
       obtain⟨⟨n0,n1,n2⟩,p1,tu,p3,c0,c1,c2,c3,c4,c5,c6,c7⟩:=HF.O w2 aC
       have HT2:=af (TB.O _ _ _ iZ.O aC)
       clear aC)
     |fail
    refine bP 16 ?_
    refine tP [0,1,2,3,4,5,6,7,8] ?_
    iterate 9 refine tO ?_
    refine ah 7 rfl ?_
    refine Gr 9 13 [0,1,2,3,4,5,6,7,8] [] (λ K hK=>?_) λ K hK=>?_
    go_simp
    (with_reducible refine(HKD.O i y s _ _ hy hs (TB.O _ _ _ iZ.O bR.O.drew)).mono ?_);rintro e w3 ⟨n,m,a2,k2,VY,cS,rfl,oP,aL⟩
    have bA:=af (bR.O.drew.T (aL.mono bR.O.size))
    have gD:=af (oP.rn (ez:=wr.heap.size) bR.O.size)
    have NP:=af aL
    have rr:=af cS
    have HSB:=af VY
    unfold Nd.v
    clear oP aL cS VY
    clear n0 n1 n2 p1 tu p3 c0 c1 c2 c3 c4 c5 c6 c7
    obtain⟨⟨n0,n1,n2⟩,p1,tu,p3,c0,c1,c2,c3,c4,c5,c6,c7⟩:=HF.O _ bA.O
    refine nP hK ?_
    clear hK K
    refine tP [10,11,12] ?_
    iterate 3 refine tO ?_
    refine ah 3 rfl ?_
    refine sP 13 [0,1,2,3,4,5,6,7,8] λ K hK=>?_
    go_simp
    have Ej:=af (bA.O.alloc bA.O.size (.cells eD 169))
    clear n0 n1 n2 p1 tu p3 c0 c1 c2 c3 c4 c5 c6 c7
    obtain⟨⟨n0,n1,n2⟩,p1,tu,p3,c0,c1,c2,c3,c4,c5,c6,c7⟩:=HF.O _ Ej.O
    refine nP hK ?_
    clear hK K
    refine sP 14 [0,1,2,3,4,5,6,7,8,9,10,11,13] λ K hK=>?_
    go_simp
    refine nP hK ?_
    clear hK K
    refine tP [15] ?_
    refine tO ?_
    refine ah 0 rfl ?_
    refine dP ?_
    go_simp
    obtain⟨W,hW⟩:=aK (w3.alloc (.cells (tN m.is (m.a1 a2) m.n1 (m.k1 k2) (m.a2 a2) m.n2 (m.k2 k2)) 169))
    obtain⟨A,hA⟩:=aK w3.heap.size
    have HA:Hid (W.heap[A]? =some (.cells (tN m.is (m.a1 a2) m.n1 (m.k1 k2) (m.a2 a2) m.n2 (m.k2 k2)) 169)):=af (by rw[hW,hA];exact World.alloc_heap_new w3 _)
    have lJ:Hid (Below wr wr W):=af (by rw[hW];exact bA.O.alloc bA.O.size _)
    have KB:Hid (m.R W wr.heap.size a2 k2):=af (by rw[hW];exact gD.O.below ((Below.refl _ w3).alloc (aW) _))
    rw[<-hW,<-hA]
    clear Ej hW hA gD NP bA
    rotate_left
    go_simp
    have nF:=af (bR.O.alloc bR.O.size (.cells eD 169))
    clear n0 n1 n2 p1 tu p3 c0 c1 c2 c3 c4 c5 c6 c7
    obtain⟨⟨n0,n1,n2⟩,p1,tu,p3,c0,c1,c2,c3,c4,c5,c6,c7⟩:=HF.O _ nF.O
    refine nP hK ?_
    clear hK K
    refine sP 9 [0,1,2,3,4,5,6,7,8] λ K hK=>?_
    go_simp
    (with_reducible refine(HKD.O i y s _ _ hy hs (TB.O _ _ _ iZ.O nF.O.drew)).mono ?_);rintro e w3 ⟨n,m,a2,k2,VY,cS,rfl,oP,aL⟩
    have bA:=af (nF.O.drew.T (aL.mono nF.O.size))
    have gD:=af (oP.rn (ez:=wr.heap.size) nF.O.size)
    have NP:=af aL
    have rr:=af cS
    have HSB:=af VY
    unfold Nd.v
    have hn:=(aL.block w2 aR).T (World.alloc_heap_new w2 (.cells eD 169))
    have m0:=(aa hn 0).T rfl
    have m1:=(aa hn 1).T rfl
    have m2:=(aa hn 2).T rfl
    have nf:=ak hn
    have HN:=af hn
    simp only[aD]at m0 m1 m2
    clear hn
    clear oP aL cS VY
    clear n0 n1 n2 p1 tu p3 c0 c1 c2 c3 c4 c5 c6 c7
    obtain⟨⟨n0,n1,n2⟩,p1,tu,p3,c0,c1,c2,c3,c4,c5,c6,c7⟩:=HF.O _ bA.O
    refine nP hK ?_
    clear hK K
    refine tP [10,11,12] ?_
    iterate 3 refine tO ?_
    refine ah 2 rfl ?_
    refine sP 14 [0,1,2,3,4,5,6,7,8,9,10,11,13] λ K hK=>?_
    go_simp
    refine nP hK ?_
    clear hK K
    refine tP [15] ?_
    refine tO ?_
    refine ah 0 rfl ?_
    refine dP ?_
    go_simp
    obtain⟨A,hA⟩:=aK w2.heap.size
    rw[<-hA]at HN
    have NQ:=bR.O.size
    rw[<-hA]at NQ
    have HA:=af (rq (v0:=.bool m.is) (v1:=.slice (m.a1 a2) m.n1 (m.k1 k2)) (v2:=.slice (m.a2 a2) m.n2 (m.k2 k2)) HN.O)
    have lJ:=af (bA.O.T (fN (v0:=.bool m.is) (v1:=.slice (m.a1 a2) m.n1 (m.k1 k2)) (v2:=.slice (m.a2 a2) m.n2 (m.k2 k2)) NQ))
    have KB:=af (gD.O.AR (λ j hj=>gC (v0:=.bool m.is) (v1:=.slice (m.a1 a2) m.n1 (m.k1 k2)) (v2:=.slice (m.a2 a2) m.n2 (m.k2 k2)) j hj) HN.O bd bd (by intro j x;rcases j with _|_|_|j<;>simp))
    rw[<-hA]
    obtain⟨W,hW⟩:=aK (((w3.setCell (za A 0) (.bool m.is)).setCell (za A 1) (.slice (m.a1 a2) m.n1 (m.k1 k2))).setCell (za A 2) (.slice (m.a2 a2) m.n2 (m.k2 k2)))
    rw[<-hW]at HA lJ KB
    rw[<-hW]
    clear nF HN m0 m1 m2 nf hA NQ hW gD NP bA
    rotate_left
    all_goals
     obtain⟨q0,q1,q2⟩:=ga HA.O
     clear n0 n1 n2 p1 tu p3 c0 c1 c2 c3 c4 c5 c6 c7
     obtain⟨⟨n0,n1,n2⟩,p1,tu,p3,c0,c1,c2,c3,c4,c5,c6,c7⟩:=HF.O _ lJ.O
     have Eg:=af (Qy.O i s wr W.drew hs iZ.O lJ.O.drew y n m a2 k2 HSB.O rr.O (KB.O.below (Below.refl _ W).drew))
     unfold Nd.v at Eg
     go_wp2_with fail
     refine bP 16 ?_
     refine tP [0,1,2,3,4,5,6,7,8,9,10,11,12] ?_
     iterate 13 refine tO ?_
     refine ah 3 rfl ?_
     refine sP 13 [0,1,2,3,4,5,6,7,8,9,10,11,12] λ K hK=>?_
     go_simp
     (with_reducible refine Eg.O.mono ?_);rintro e w5 ⟨r,rfl,jK⟩
     refine nP hK ?_
     clear hK K
     refine tP [14,15] ?_
     iterate 2 refine tO ?_
     refine ah 0 rfl ?_
     refine dP ?_
     go_simp
     cases r with
     |false=>
      go_wp2_with fail
      go_ret
      exact⟨false,rfl, λ e=>(by cases e), λ _=>ry.O _ (jK.O.2 (by first|trivial|rfl))⟩
     |true=>
      go_wp2_with fail
      go_roundw
      case rel=>exact⟨i+1,ag,by simp,af (jK.O.1 (by first|trivial|rfl))⟩
      case measure=>simp[intOf];omega
  ·obtain rfl:i=ys.length:=ag
   have F6:¬ ((ys.length:Int)<(ys.length:Int)):=ag
   go_wp2_with fail
   go_ret
   refine⟨true,rfl, λ _=>eJ.O _ ?_, λ e=>by cases e⟩
   have:=iZ.O
   rwa [List.take_of_length_le (Nat.le_of_eq mU.O)]at this
theorem Ew{t:vZ}{w0:World}{D N:Nat}{J Jx:List an->World->Prop}{full:List KV}(qN:Cp t w0 D N J Jx full):∀d,d<=8->El t w0 J Jx full d
 |0,_=>KG qN
 |d+1,h=>GZ qN ag (Ew qN d ag)
def jd(Y:Nat->Prop)(B:Nat)(x:an)(W:World):Prop:=B<W.heap.size/\ml Y B W x.ka x.key/\ml Y B W x.va x.val/\x.vc=x.val.length
theorem ml.Oc{Y:Nat->Prop}(h:ml Y B U a xs)(hk:dz D (·=Bw) U V)(hw:Y Bw)(hB:B<D)(hBU:B<U.heap.size)(bS:B≠Bw):ml Y B V a xs:=by
 have hr:rowOf B V=rowOf B U:=dT ((hk.bT B _ (Array.getElem?_eq_getElem hBU) (.inl hB) bS).T (Array.getElem?_eq_getElem hBU).symm)
 refine⟨?_, λ hx p e=>⟨(h.2 hx p e).1,(h.2 hx p e).2.1,by rw[hr];exact(h.2 hx p e).2.2⟩⟩
 by_cases hx:xs=[]
 ·subst hx;exact ai.nil _ _
 ·exact kr h.1 hk λ p e hb=>(h.2 hx p e).1 (hb▸hw)
theorem jd.Oc{Y:Nat->Prop}{B D Bw:Nat}{x:an}{U V:World}(h:jd Y B x U)(hk:dz D (·=Bw) U V)(hw:Y Bw)(hB:B<D)(bS:B≠Bw):jd Y B x V:=⟨Nat.lt_of_lt_of_le h.1 hk.size,h.2.1.Oc hk hw hB h.1 bS,h.2.2.1.Oc hk hw hB h.1 bS,h.2.2.2⟩
theorem ml.lets{Y Z:Nat->Prop}(h:ml Y B U a xs)(hl:Lets n₀ Z B U V)(hz:∀k,Z k->Y k):ml Y B V a xs:=by
 refine⟨?_, λ hx p e=>(hl.more hz).safe (h.2 hx p e) (gl h.1 hx p e)⟩
 exact xI (hl.more hz) h.1 h.2
theorem jd.lets{Y Z:Nat->Prop}{B n₀:Nat}{x:an}{U V:World}(h:jd Y B x U)(hl:Lets n₀ Z B U V)(hz:∀k,Z k->Y k):jd Y B x V:=⟨Nat.lt_of_lt_of_le h.1 hl.size,h.2.1.lets hl hz,h.2.2.1.lets hl hz,h.2.2.2⟩
def iO(l:jH)(items:List KV):List KV:=items.filter λ kv=>l.holds kv.1
abbrev ow(at_ d n:Nat):Array Value:=(ju at_ d n)
theorem xY{Ba Bt:Nat}{X:Nat->Prop}(hF:au w0 b cb ps)(hm:Marks (al ps))(hl:o9 w0 l)(ht:dh (al ps) at_ d c items)(nh:Below w0 w0 w)
 (hw:w.heap[Bw]? =some (.cells (bn l b ps.length cb false none 0 0 false 0) 139))(ha:w.heap[Ba]? =some (.cells (dW (zp Bw)) 136))(my:w.heap[Bt]? =some (.cells (ow at_ d c) 41))
 (hsw:Safe X B w Bw)(hsa:Safe X B w Ba)(hB:B<w.heap.size)(hX:∀k,X k->k<w.heap.size)(hr:∀k,rowOf B w=some k->k<w.heap.size)(Cj:w0.heap.size<=Bw):
 Dx Tryz.prog 68 (iS (zp Ba) (zp Bt)) (λ x=>#[x.v]) (Lets w0 X B) (·=Bw) (Co Bw l b ps.length cb) (λ pre=>pre.map eC<+:iO l items) (jd (λ k=>X k\/k=Bw) B) (λ s=>s.map eC=iO l items) w:=by
 intro n ll J Jx W hn kN hJ Nf hY h0
 refine callsIn_wide.2 ?_
 have qv:=(aX hw).1
 have hBa:=(aX ha).1
 have Z1:=(kN.block Bw qv).T hw
 have VZ:=(kN.block Ba hBa).T ha
 have V0:=(kN.block Bt (aX my).1).T my
 have Rk:w0.heap.size<=w.heap.size:=nh.size
 have Od:Below w0 w0 W:=nh.T (kN.mono Rk)
 have bS:Ba≠Bw:=by rintro rfl;rw[hw]at ha;simp[bn]at ha
 obtain⟨V1,lO⟩:=aK ((W.alloc (.cells #[.func (.yield ll) #[] #[]] 165)).alloc (.cells #[vq Ba W.heap.size (W.heap.size+1)] 166))
 have aQ:Below W W V1:=by rw[lO];go_grown
 have bB:=aS (w2:=V1) (by rw[lO];exact dp)
 have HF1:=af (hF.below (Od.T (aQ.mono Od.size)))
 have hrW:rowOf B W=rowOf B w:=dT (kN.block B hB)
 have HTW:Hid (∀V,Below V1 V1 V->Tw ⟨Bw,Ba,W.heap.size,W.heap.size+1,B,ll,X,l,b,cb,ps⟩ w0 V none [] 0 false):=af λ V hb=>by
  have Dv:Below W W V:=aQ.T (hb.mono aQ.size)
  have gu:Below w w V:=kN.T (Dv.mono kN.size)
  have hrV:rowOf B V=rowOf B w:=dT (gu.block B hB)
  have iN:∀k,W.heap.size<=k->Safe (λ k=>X k\/k=Bw) B V k:= λ k hk=>⟨λ e=>by rcases e with e|e;(have:=hX k e;have:=kN.size;omega);(have:=kN.size;omega),by have:=kN.size;omega,by rw[hrV];intro e;have:=hr k e;have:=kN.size;omega⟩
  exact{base:=Od.T (Dv.mono Od.size),walk:=(Dv.block Bw (aM kN.size)).T Z1,b1:=(Dv.block Ba (aM kN.size)).T VZ,
        b2:=(hb.block _ (aX bB.1).1).T bB.1,b3:=(hb.block _ (aX bB.2).1).T bB.2,
        sw:=⟨hsw.1,hsw.2.1,by rw[hrV];exact hsw.2.2⟩,s1:=⟨λ e=>e.elim hsa.1 bS,hsa.2.1,by rw[hrV];exact hsa.2.2⟩,s2:=iN _ (aW),s3:=iN _ (Nat.le_succ _),
        hB:=Nat.lt_of_lt_of_le hB gu.size,nw:=Cj,hX:= λ k e=>by rcases e with e|e;exact Nat.lt_of_lt_of_le (hX k e) gu.size;(rw[e];exact Nat.lt_of_lt_of_le qv gu.size),
        hr:= λ k e=>by rw[hrV]at e;exact Nat.lt_of_lt_of_le (hr k e) gu.size,xH:=ai.nil _ _,NY:= λ e=>absurd rfl e}
 have HIN:Hid (Cp ⟨Bw,Ba,W.heap.size,W.heap.size+1,B,ll,X,l,b,cb,ps⟩ w0 W.heap.size n J Jx (iO l items)):=af ⟨hF,hm,hl,hJ, λ pre x W1 h1 h2 _ hb h3 h4 h5=>(hY pre x W1 h1 h2 ⟨hb,h3,h4,h5⟩)⟩
 have HJ:=af hJ
 have HWW:=af Z1
 have HT:=af ht
 have c0:=carry aQ (aJ VZ)
 have ct:= λ j=>aa ((aQ.block Bt (aX V0).1).T V0) j
 have t0:=(ct 0).T rfl
 have t1:=(ct 1).T rfl
 have t2:=(ct 2).T rfl
 have t3:=(ct 3).T rfl
 have t4:=(ct 4).T rfl
 have t5:=(ct 5).T rfl
 have t6:=(ct 6).T rfl
 have t7:=(ct 7).T rfl
 simp only[aD]at t0 t1 t2 t3 t4 t5 t6 t7
 have cZ:=af aQ
 have AM:=af bB
 have TB:=af t0
 have ab3:=af t1
 have HR0:=af (λ h:items=[]=>KD ((aQ.block Bw (aM kN.size)).T Z1) HF1.O)
 have HR1:=af (λ (nd:Nd) (h1:1<=at_) (h8:d<=8) (h3:nd.is=decide (d=0)) (h4:dO (al ps) at_ nd.enc) (h5:nd.Ok)=>NU ((aQ.block Bw (aM kN.size)).T Z1) HF1.O hm at_ d h1 h8 h3 h4 h5)
 unfold cM at HR0 HR1
 have V4:=lO
 unfold vq at V4
 rw[V4]at c0 t0 t1 t2 t3 t4 t5 t6 t7
 clear V4
 have HH0:=af h0
 clear hF hm hl ht nh hw ha my hsw hsa hB hX hr Cj hJ Nf hY qv hBa Z1 VZ V0 Rk Od bS aQ bB HF1 hrW kN ct h0 hn
 by_cases he:items=[]
 ·have hz:=HT.O.none_ he
  have hc:c=0:=by rw[HT.O.count,he];rfl
  obtain⟨rfl,rfl⟩:=hz
  subst hc
  have I2:=af (HR0.O he)
  unfold vq at lO
  rw[lO]at I2
  clear HR0 HR1 HTW HIN
  simp only[Int.natCast_zero]at t0 t1 t2 I2
  go_enter Tryz.func68,Tryz.ntmps68
  go_wp2_with first
   |((with_reducible refine I2.O.mono ?_);rintro e w2 ⟨rfl,aC⟩;rw[<-lO]at aC;have bR:=af (cZ.O.T (aC.mono cZ.O.size));clear aC)
   |fail
  go_end0
  have aL:Below W W (w2.alloc (.cells eD 169)):=bR.O.alloc bR.O.size _
  exact⟨⟨_,rfl⟩,.inl ⟨[],by rw[he];rfl,HJ.O _ _ _ HH0.O (dz.aA aL)⟩,none,0,0,false,(aL.block _ (aX HWW.O).1).T HWW.O⟩
 ·obtain⟨h1,h8,nd,fP⟩:=HT.O.some_ he
  obtain⟨q1,q2,q3⟩:=fP.node
  have Mh:c=nd.red:=by rw[HT.O.count,fP.count]
  subst Mh
  have I2:=af (HR1.O nd h1 h8 q3 q1 q2)
  have HDA:=af (Ew HIN.O d h8)
  have RN:=af fP
  unfold vq at lO
  rw[lO]at I2
  clear HR0 HR1 fP q1 q2 q3 h1
  go_enter Tryz.func68,Tryz.ntmps68
  go_wp2_with first
   |((with_reducible refine I2.O.mono ?_);rintro e w2 ⟨m,a,k,cS,rfl,hR,aC⟩;rw[<-lO]at aC hR
     have rr:=af cS
     have bR:=af aC
     have aL:Below V1 V1 (w2.alloc (.cells (tN m.is (m.a1 a) m.n1 (m.k1 k) (m.a2 a) m.n2 (m.k2 k)) 169)):=aC.alloc aC.size _
     have Qz:=af (hR.below ((Below.refl _ w2).alloc (aW) (.cells (tN m.is (m.a1 a) m.n1 (m.k1 k) (m.a2 a) m.n2 (m.k2 k)) 169)))
     have bA:=af aL
     have y0:=carry aL (aJ AM.O.2)
     unfold vq at y0
     have y1:=carry aL TB.O
     have y2:=carry aL ab3.O
     have HFR:=af ((HTW.O V1 (dp)).fresh aL)
     have Eg:=af (HDA.O at_ nd m items _ V1.heap.size k a none [] 0 false [] RN.O cS Qz.O HFR.O (HTW.O _ aL) (HJ.O _ _ _ HH0.O (dz.aA (cZ.O.T (aL.mono cZ.O.size)))) (by simp[vZ.bT,iO]) (λ e=>by cases e) HT.O.oW)
     unfold Nd.v at Eg⊢
     clear cS hR aC aL t0 t1 t2 t3 t4 t5 t6 t7 c0)
   |((with_reducible refine Eg.O.mono ?_);rintro e w4 ⟨r,rfl,h1,h2⟩)
   |fail
  go_end0
  cases r with
  |true=>
   obtain⟨-,qM,fO,tM,gm,fo,⟨q9,wa,hj⟩, -⟩:=h1 rfl
   exact⟨⟨_,rfl⟩,.inl ⟨q9,wa,by simpa using hj⟩,_,_,_,_,fo.walk⟩
  |false=>
   obtain⟨-,⟨qM,fO,tM,gm,fo⟩,hp⟩:=h2 rfl
   exact⟨⟨_,rfl⟩,.inr hp,_,_,_,_,fo.walk⟩
end
theorem G1{α:Type}{g:Operand}{ps:Array Tmp}{a:Act}
 (h1:5<=n)(hg:a.eval g= .func (.func gf) #[] lb)(eg:∀args w,(callFunc gf args).run P w= .ok (.enter gf args) w)
 {mH:α->Array Value}{Kp:World->World->Prop}{dw:Nat->Prop}{zw:List α->Prop}{At:α->World->Prop}{Full:List α->Prop}(mf:Dx P gf lb mH Kp dw E zw At Full w0)(Qf:∀x A B,At x A->dz w.heap.size dw A B->At x B)
 (rY:∀{A B C:World},Kp A B->Kp B C->Kp A C)(xe:∀(W:World) (l:Nat) (o o':Obj),w.heap.size<=l->W.heap[l]? =some o->o.isCells=false->Kp W (W.putObj l o'))(iL:Below w0.heap.size w0 w)(zx:∀x,(mH x).size=ps.size)
 (mI:∀k,dw k->k<w.heap.size)
 (I:List α->World->Prop)(Ix:Code->List α->World->Prop)(hI:∀s A B,I s A->dz w.heap.size dw A B->I s B)(hIx:∀c s A B,Ix c s A->dz w.heap.size dw A B->Ix c s B)(hE:∀(W:World) (l:Nat) (o o':Obj),w.heap.size<=l->W.heap[l]? =some o->o.isCells=false->E W->E (W.putObj l o'))(h0:I [] w)(B4:α->World->Act)(Ex:α->World->World)(Oe:∀x W,Below W.heap.size W (Ex x W))(Z2:∀x W,w.heap.size<=W.heap.size->Kp W (Ex x W))
 (fb:∀(l:Nat) (x:α) (W:World) (K:Act->World->Prop),K (B4 x W) (Ex x W)->
   assign.wpIn (Fence.wide.inRound l) (n - 1 - 1) P (Exit.then K (λ _ _ _=>False)) {tmps:=(ps.zip (mH x)).foldl (λ t (p,v)=>t.setIfInBounds p v) a.tmps,defers:=[]} W)
 (kF:∀(l:Nat) (pre:List α) (x:α) (U W:World),w.heap.size<=U.heap.size->(∀(k:Nat) (o:Obj),(Ex x U).heap[k]? =some o->o.isCells=true->W.heap[k]? =some o)->I pre W->zw (pre++[x])->At x W->body.wpIn (Fence.wide.inRound l) (n - 1 - 1) P (xt w.heap.size Kp I Ix (pre++[x]) W) (B4 x U) W)
 (kG:∀(D:Nat) (s:List α) (W:World),w.heap.size<=D->Full s->I s W->E W->W.heap[D]? =some (.deferred (some []))->Q .normal {a with defers:={target:=.collected D,args:=#[]}::a.defers} W)
 (kH:∀(D:Nat) (c:Code) (pre:List α) (W:World),w.heap.size<=D->zw pre->Ix c pre W->E W->W.heap[D]? =some (.deferred (some []))->c.wpIn Fence.wide n P Q {a with defers:={target:=.collected D,args:=#[]}::a.defers} W):
 (Code.rangeFunc g ps assign body).wpIn Fence.wide n P Q a w:=by
 refine wpIn_rangeFunc ?_
 intro fn Za
 rw[show Fence.wide.round=none from rfl]
 obtain⟨rec,j8⟩:∃rec:LoopState->Option Code->Loop,rec= λ st pe=>{state:=st,pending:=pe,fn,tmps:=a.tmps,params:=ps,assign,body,defers:=w.heap.size}:=⟨_,rfl⟩
 obtain⟨W1,qF⟩:∃W1,(w.alloc (.deferred (some []))).alloc (.loop (rec .ready none))=W1:=⟨_,rfl⟩
 have sk:W1.heap[w.heap.size+1]? =some (.loop (rec .ready none)):=by
  rw[<-qF];have:=World.alloc_heap_new (w.alloc (.deferred (some []))) (.loop (rec .ready none));rwa [World.size_alloc]at this
 have hK1:W1.heap[w.heap.size]? =some (.deferred (some [])):=by
  rw[<-qF];exact(Below.heap_alloc _ _ _ aR).T (World.alloc_heap_new w _)
 have dm:W1.heap.size=w.heap.size+1+1:=by rw[<-qF];simp
 have hI1:I [] W1:=by rw[<-qF];exact hI _ _ _ (hI _ _ _ h0 (dz.alloc _ _)) (dz.alloc _ _)
 have aQ:Below w0.heap.size w0 W1:=by
  rw[<-qF];exact iL.T ((((Below.refl _ w).alloc (aW) _).alloc aR _).mono iL.size)
 refine⟨w.heap.size+1,[{target:=.collected w.heap.size,args:=#[]}],W1,{target:=.fn (.func gf) lb,args:=#[.func (.yield (w.heap.size+1)) #[] #[]]},W1,gf,
  #[.func (.yield (w.heap.size+1)) #[] #[]]++lb,W1,?_,?_,?_,?_, λ _=>ag,?_⟩
 ·rw[<-qF,j8];exact run_enterLoop_outer _ _ _ _ _
 ·simp only[resolve,hg]
  simp[go_sem]
 ·intro f' hf';trivial
 ·simp[invoke,go_sem,eg]
 ·have zy:∀{A B:World},dz W1.heap.size dw A B->dz w.heap.size dw A B:= λ h=>⟨h.size,h.os,h.tape,h.output, λ k o hk hd hm=>h.bT k o hk (hd.elim (λ h=>.inl ag) .inr) hm⟩
  have Dy:∀{A B:World} {k:Nat} {o:Obj},dz W1.heap.size dw A B->A.heap[k]? =some o->w.heap.size<=k->k<W1.heap.size->B.heap[k]? =some o:= λ h hk h1 h2=>h.bT _ _ hk (.inl h2) (λ m=>aM (mI _ m))
  refine(mf (n - 1) (w.heap.size+1)
   (λ pre W=>I pre W/\W.heap[w.heap.size+1]? =some (.loop (rec .ready none))/\W.heap[w.heap.size]? =some (.deferred (some [])))
   (λ pre W=>∃c,Ix c pre W/\W.heap[w.heap.size+1]? =some (.loop (rec .done (some c)))/\W.heap[w.heap.size]? =some (.deferred (some [])))
   W1 ag aQ
   (λ s A B hs hk=>⟨hI s A B hs.1 (zy hk),Dy hk hs.2.1 ag ag,Dy hk hs.2.2 ag ag⟩)
   (λ s A B hs hk=>by
     obtain⟨c,hc,hl,oN⟩:=hs
     exact⟨c,hIx c s A B hc (zy hk),Dy hk hl ag ag,Dy hk oN ag ag⟩)
   ?_ ⟨hI1,sk,hK1⟩).mono ?_
  ·rintro pre x U ⟨hiU,hlU,hkU⟩ gj ab4
   have ab5:w.heap.size+1<U.heap.size:=(aX hlU).1
   have hy:=run_yield (P:=P) (args:=mH x) hlU (by rw[j8];exact zx x)
   rw[j8]at hy
   have hbU:=Oe x U
   obtain⟨W,RO⟩:=aK (Ex x U)
   have hKU:Kp U W:=RO▸Z2 x U ag
   have hi:I pre W:=hI _ _ _ hiU (RO▸dz.aA hbU)
   have ot:At x W:=Qf _ _ _ ab4 (RO▸dz.aA hbU)
   have hl:W.heap[w.heap.size+1]? =some (.loop (rec .ready none)):=by rw[RO];exact(hbU.block _ ab5).T hlU
   have hk:W.heap[w.heap.size]? =some (.deferred (some [])):=by rw[RO];exact(hbU.block _ ag).T hkU
   have bg:w.heap.size+1<W.heap.size:=(aX hl).1
   refine⟨fn,_,assign,body,hy,roundIn_of_wpIn Za (fb _ x U _ ⟨_,run_beginRound (RO▸hl) (by rw[j8]),?_⟩)⟩
   rw[<-RO]
   have oD:(W.putObj (w.heap.size+1) (.loop {rec .ready none with state:=.busy})).heap[w.heap.size+1]? =some (.loop {rec .ready none with state:=.busy}):=World.putObj_heap_same bg
   have oN:(W.putObj (w.heap.size+1) (.loop {rec .ready none with state:=.busy})).heap[w.heap.size]? =some (.deferred (some [])):=(World.putObj_heap_other ag).T hk
   have da:Kp U (W.putObj (w.heap.size+1) (.loop {rec .ready none with state:=.busy})):=rY hKU (xe _ _ _ _ ag hl rfl)
   refine wpIn_mono (kF _ pre x U _ ag (λ k o ho hc=>(World.putObj_heap_other (λ e=>by subst e;rw[<-RO,hl]at ho;cases ho;cases hc)).T (RO▸ho)) (hI _ _ _ hi (dz.putObj _ _ _ _ ag hl rfl)) gj (Qf _ _ _ ot (dz.putObj _ _ _ _ ag hl rfl))) ?_
   have fin:∀(jump:Option Code) (W3:World),KeepsFrom w.heap.size (W.putObj (w.heap.size+1) (.loop {rec .ready none with state:=.busy})) W3->
    (Instr.endRound (w.heap.size+1) jump).run P W3= .ok (.bool jump.isNone) (W3.putObj (w.heap.size+1) (.loop (rec (if jump.isNone then .ready else .done) jump)))/\
    W3.heap[w.heap.size+1]? =some (.loop {rec .ready none with state:=.busy})/\
    (W3.putObj (w.heap.size+1) (.loop (rec (if jump.isNone then .ready else .done) jump))).heap[w.heap.size+1]? =some (.loop (rec (if jump.isNone then .ready else .done) jump))/\
    (W3.putObj (w.heap.size+1) (.loop (rec (if jump.isNone then .ready else .done) jump))).heap[w.heap.size]? =some (.deferred (some [])):= λ jump W3 fY=>by
    have jx:=fY.same _ _ ag oD rfl
    have:=run_endRound (P:=P) jump jx
    rw[j8]at this⊢
    exact⟨this,by rw[j8]at jx;exact jx,World.putObj_heap_same (aX jx).1,(World.putObj_heap_other ag).T (fY.same _ _ (aW) oN rfl)⟩
   rintro e a3 W3 hp
   cases e with
   |normal=>
    obtain⟨fY,ra,AE⟩:=hp
    obtain⟨hr,jx,Dz,DA⟩:=fin none W3 fY
    exact⟨_,_,hr,.inl ⟨rfl,⟨hI _ _ _ AE (dz.putObj _ _ _ _ ag jx rfl),Dz,DA⟩,rY (rY da ra) (xe _ _ _ _ ag jx rfl)⟩⟩
   |ret=>
    obtain⟨fY,ra,AE⟩:=hp
    obtain⟨hr,jx,Dz,DA⟩:=fin (some .ret) W3 fY
    exact⟨_,_,hr,.inr ⟨rfl,⟨.ret,hIx _ _ _ _ AE (dz.putObj _ _ _ _ ag jx rfl),Dz,DA⟩,rY (rY da ra) (xe _ _ _ _ ag jx rfl)⟩⟩
   |exit id=>
    obtain⟨fY,ra,AE⟩:=hp
    obtain⟨hr,jx,Dz,DA⟩:=fin (some (.exit id)) W3 fY
    exact⟨_,_,hr,.inr ⟨rfl,⟨.exit id,hIx _ _ _ _ AE (dz.putObj _ _ _ _ ag jx rfl),Dz,DA⟩,rY (rY da ra) (xe _ _ _ _ ag jx rfl)⟩⟩
   |goto t=>
    obtain⟨fY,ra,AE⟩:=hp
    obtain⟨hr,jx,Dz,DA⟩:=fin (some (.goto t)) W3 fY
    exact⟨_,_,hr,.inr ⟨rfl,⟨.goto t,hIx _ _ _ _ AE (dz.putObj _ _ _ _ ag jx rfl),Dz,DA⟩,rY (rY da ra) (xe _ _ _ _ ag jx rfl)⟩⟩
   |panic ch=>exact hp.elim
   |outgrown=>exact hp.elim
  ·rintro e W2 ⟨⟨v,rfl⟩,(⟨s,hs,hi,hl,hk⟩|⟨pre,hSp,c,hi,hl,hk⟩),Rf⟩
   ·exact⟨none,_,by have:=run_endLoop (P:=P) hl (by rw[j8];simp);rw[j8]at this;exact this,kG _ s _ (aW) hs (hI _ _ _ hi (dz.putObj _ _ _ _ ag hl rfl)) (hE _ _ _ _ ag hl rfl Rf) ((World.putObj_heap_other ag).T hk)⟩
   ·exact⟨some c,_,by have:=run_endLoop (P:=P) hl (by rw[j8];simp);rw[j8]at this;exact this,kH _ c pre _ (aW) hSp (hIx c _ _ _ hi (dz.putObj _ _ _ _ ag hl rfl)) (hE _ _ _ _ ag hl rfl Rf) ((World.putObj_heap_other ag).T hk)⟩
theorem RP{α:Type}{g:Operand}{p1:Tmp}(d1:Tmp){a:Act}
 (h1:5<=n)(hg:a.eval g= .func (.func gf) #[] lb)(eg:∀args w,(callFunc gf args).run P w= .ok (.enter gf args) w)
 {e1:α->Value}{Kp:World->World->Prop}{dw:Nat->Prop}{zw:List α->Prop}{At:α->World->Prop}{Full:List α->Prop}(mf:Dx P gf lb (λ x=>#[e1 x]) Kp dw E zw At Full w)(Qf:∀x A B,At x A->dz w.heap.size dw A B->At x B)
 (rY:∀{A B C:World},Kp A B->Kp B C->Kp A C)(xe:∀(W:World) (l:Nat) (o o':Obj),w.heap.size<=l->W.heap[l]? =some o->o.isCells=false->Kp W (W.putObj l o'))
 (mI:∀k,dw k->k<w.heap.size)
 (I:List α->World->Prop)(Ix:Code->List α->World->Prop)(hI:∀s A B,I s A->dz w.heap.size dw A B->I s B)(hIx:∀c s A B,Ix c s A->dz w.heap.size dw A B->Ix c s B)(hE:∀(W:World) (l:Nat) (o o':Obj),w.heap.size<=l->W.heap[l]? =some o->o.isCells=false->E W->E (W.putObj l o'))(h0:I [] w)(Ex:α->World->World)(Oe:∀x W,Below W.heap.size W (Ex x W))(Z2:∀x W,w.heap.size<=W.heap.size->Kp W (Ex x W))
 (fb:∀(l:Nat) (x:α) (W:World) (K:Act->World->Prop),K ({tmps:=(a.tmps.setIfInBounds p1 (e1 x)).setIfInBounds d1 (.pointer (zp W.heap.size)),defers:=[]}:Act) (Ex x W)->
   assign.wpIn (Fence.wide.inRound l) (n - 1 - 1) P (Exit.then K (λ _ _ _=>False)) {tmps:=a.tmps.setIfInBounds p1 (e1 x),defers:=[]} W)
 (kF:∀(l:Nat) (pre:List α) (x:α) (U W:World),w.heap.size<=U.heap.size->(∀(k:Nat) (o:Obj),(Ex x U).heap[k]? =some o->o.isCells=true->W.heap[k]? =some o)->I pre W->zw (pre++[x])->At x W->body.wpIn (Fence.wide.inRound l) (n - 1 - 1) P (xt w.heap.size Kp I Ix (pre++[x]) W) ({tmps:=(a.tmps.setIfInBounds p1 (e1 x)).setIfInBounds d1 (.pointer (zp U.heap.size)),defers:=[]}:Act) W)
 (kG:∀(D:Nat) (s:List α) (W:World),w.heap.size<=D->Full s->I s W->E W->W.heap[D]? =some (.deferred (some []))->Q .normal {a with defers:={target:=.collected D,args:=#[]}::a.defers} W)
 (kH:∀(D:Nat) (c:Code) (pre:List α) (W:World),w.heap.size<=D->zw pre->Ix c pre W->E W->W.heap[D]? =some (.deferred (some []))->c.wpIn Fence.wide n P Q {a with defers:={target:=.collected D,args:=#[]}::a.defers} W):
 (Code.rangeFunc g #[p1] assign body).wpIn Fence.wide n P Q a w:=
 G1 h1 hg eg mf Qf rY xe (dp) (λ _=>rfl) mI I Ix hI hIx hE h0 (λ x U=>({tmps:=(a.tmps.setIfInBounds p1 (e1 x)).setIfInBounds d1 (.pointer (zp U.heap.size)),defers:=[]}:Act)) Ex Oe Z2 (λ l x W K hK=>by simpa using fb l x W K hK) kF kG kH
theorem RQ{α:Type}{g:Operand}{p1:Tmp}{a:Act}
 (h1:5<=n)(hg:a.eval g= .func (.func gf) #[] lb)(eg:∀args w,(callFunc gf args).run P w= .ok (.enter gf args) w)
 {e1:α->Value}{Kp:World->World->Prop}{dw:Nat->Prop}{zw:List α->Prop}{At:α->World->Prop}{Full:List α->Prop}(mf:Dx P gf lb (λ x=>#[e1 x]) Kp dw E zw At Full w)(Qf:∀x A B,At x A->dz w.heap.size dw A B->At x B)
 (rY:∀{A B C:World},Kp A B->Kp B C->Kp A C)(xe:∀(W:World) (l:Nat) (o o':Obj),w.heap.size<=l->W.heap[l]? =some o->o.isCells=false->Kp W (W.putObj l o'))
 (mI:∀k,dw k->k<w.heap.size)
 (I:List α->World->Prop)(Ix:Code->List α->World->Prop)(hI:∀s A B,I s A->dz w.heap.size dw A B->I s B)(hIx:∀c s A B,Ix c s A->dz w.heap.size dw A B->Ix c s B)(hE:∀(W:World) (l:Nat) (o o':Obj),w.heap.size<=l->W.heap[l]? =some o->o.isCells=false->E W->E (W.putObj l o'))(h0:I [] w)
 (fb:∀(l:Nat) (x:α) (W:World) (K:Act->World->Prop),K (({tmps:=a.tmps.setIfInBounds p1 (e1 x),defers:=[]}:Act)) W->
   assign.wpIn (Fence.wide.inRound l) (n - 1 - 1) P (Exit.then K (λ _ _ _=>False)) {tmps:=a.tmps.setIfInBounds p1 (e1 x),defers:=[]} W)
 (kF:∀(l:Nat) (pre:List α) (x:α) (W:World),I pre W->zw (pre++[x])->At x W->body.wpIn (Fence.wide.inRound l) (n - 1 - 1) P (xt w.heap.size Kp I Ix (pre++[x]) W) (({tmps:=a.tmps.setIfInBounds p1 (e1 x),defers:=[]}:Act)) W)
 (kG:∀(D:Nat) (s:List α) (W:World),w.heap.size<=D->Full s->I s W->E W->W.heap[D]? =some (.deferred (some []))->Q .normal {a with defers:={target:=.collected D,args:=#[]}::a.defers} W)
 (kH:∀(D:Nat) (c:Code) (pre:List α) (W:World),w.heap.size<=D->zw pre->Ix c pre W->E W->W.heap[D]? =some (.deferred (some []))->c.wpIn Fence.wide n P Q {a with defers:={target:=.collected D,args:=#[]}::a.defers} W):
 (Code.rangeFunc g #[p1] assign body).wpIn Fence.wide n P Q a w:=
 Ng h1 hg eg mf Qf rY xe (dp) (λ _=>rfl) mI I Ix hI hIx hE h0 (λ x=>({tmps:=a.tmps.setIfInBounds p1 (e1 x),defers:=[]}:Act)) (λ l x W K hK=>by simpa using fb l x W K hK) kF kG kH
section
attribute [local go_sem] Oper.semAt_some
attribute [-go_sem] Builtin.append_
theorem A3(Bw at_ d n:Nat)(w:World):Calls Tryz.prog 52 (tQ (zp Bw) (.agg (ow at_ d n))) w λ e w'=>
 e= .returned (.func (.func 68) #[] (iS (zp w) (zp (w.heap.size+1))))/\w'=(w.alloc (.cells (dW (zp Bw)) 136)).alloc (.cells (ow at_ d n) 41):=by
 go_enter Tryz.func52,Tryz.ntmps52
 go_wp2_with fail
 go_ret
 exact⟨rfl,rfl⟩
def we:jH:=⟨none,[],0,false,none,[],0⟩
theorem rH(hF:au w b cb ps)(hm:Marks (al ps))(ht:dh (al ps) at_ d c items):
 Calls Tryz.prog 36 #[aE b ps.length cb,cM at_ d c] w λ e w'=>e= .returned (.int .i64 0)/\Below w w w':=by
 obtain⟨w1,aH⟩:=aK (((w.alloc (.cells (cK b ps.length cb) 37)).alloc (.cells (ow at_ d c) 41)).alloc (.cells (bn we b ps.length cb false none 0 0 false 0) 139))
 have aQ:Below w w w1:=by rw[aH];go_grown
 obtain⟨w2,da⟩:=aK ((w1.alloc (.cells (dW (zp (w.heap.size+1+1))) 136)).alloc (.cells (ow at_ d c) 41))
 have aC:Below w1 w1 w2:=by rw[da];exact((Below.refl _ w1).alloc (aW) _).alloc aR _
 have s1:w1.heap.size=w.heap.size+1+1+1:=by rw[aH];simp
 have gu:=(aC.block (w.heap.size+1+1) ag).T (show w1.heap[w.heap.size+1+1]? =some (.cells (bn we b ps.length cb false none 0 0 false 0) 139)by
  rw[aH];have:=World.alloc_heap_new ((w.alloc (.cells (cK b ps.length cb) 37)).alloc (.cells (ow at_ d c) 41)) (.cells (bn we b ps.length cb false none 0 0 false 0) 139);simpa using this)
 have hbf:=(aC.block w ag).T (show w1.heap[w.heap.size]? =some (.cells (cK b ps.length cb) 37)by
  rw[aH];exact(Below.heap_alloc _ _ _ bV).T ((Below.heap_alloc _ _ _ aR).T (World.alloc_heap_new w _)))
 have ek:=aS (w2:=w2) (by rw[da];exact dp)
 have sN:Below w w w2:=aQ.T (aC.mono aQ.size)
 have hr:rowOf w.heap.size w2=none:=by unfold rowOf;rw[hbf];rfl
 have s2:w2.heap.size=w.heap.size+1+1+1+1+1:=by rw[da];simp[s1]
 have Cv:=af (xY (w0:=w) (w:=w2) (Bw:=w.heap.size+1+1) (Ba:=w1.heap.size) (Bt:=w1.heap.size+1) (B:=w.heap.size) (X:= λ _=>False) (l:=we) hF hm ⟨ai.nil _ _,ai.nil _ _⟩ ht sN gu ek.1 ek.2
  ⟨id,ag,by rw[hr];simp⟩ ⟨id,ag,by rw[hr];simp⟩ ag (λ _ h=>h.elim) (λ k h=>by rw[hr]at h;cases h) ag)
 have NW:=af da
 have C4:=af s2
 have V5:=af sN
 have HBF:=af hbf
 have lJ:=af gu
 have HI:Hid (Calls Tryz.prog 52 (tQ (zp (w.heap.size+1+1)) (.agg (ow at_ d c))) w1 λ e w'=>e= .returned (.func (.func 68) #[] (iS (zp w1) (zp (w1.heap.size+1))))/\w'=w2):=af (by rw[da];exact A3 _ _ _ _ _)
 have dm:=s1
 obtain⟨M,hM⟩:=aK w1.heap.size
 rw[<-hM]at HI Cv s1
 rw[aH]at HI
 unfold bn we at aH HI
 dsimp only[List.length_nil]at aH HI
 unfold aE cM
 clear hF hm ht aQ aC gu hbf ek sN hr s2 da
 refine(callsIn_wide (n:=5)).1 ?_
 refine callsIn_of_wp_marks Tryz.func36 rfl trivial ?_ rfl
 simp only[Tryz.ntmps36,zEn,Nat.reduceAdd,Nat.reduceSub]
 refine wpIn_wide.2 ?_
 go_wp2_with first
  |((with_reducible refine HI.O.mono ?_);rintro e w3 ⟨rfl,cL⟩;rw[cL];clear cL w3)
  |fail
 rw[s1]at Cv
 have s2:=C4.O
 clear HI
 refine(wpIn_wide (n:=5)).1 ?_
 refine RQ (n:=5) ag rfl (enters_of Tryz.func68 aO rfl) Cv.O (λ x A B h hk=>jd.Oc h hk (.inr rfl) ag ag) Lets.T (lK ag ag) (λ k h=>by subst h;omega)
  (λ _ W=>Below w w W) (λ _ _ _=>False) (λ s A B h hk=>gJ h hk ag (λ k h1 h2=>ag) (aW)) (λ _ _ _ _ h _=>h) ?hE V5.O ?assign ?body ?done (λ _ _ _ _ _ _ h=>h.elim)
 case hE=>
  rintro W l o o' hl ho hc ⟨la,ln,lc,told,h⟩
  exact⟨la,ln,lc,told,(World.putObj_heap_other ag).T h⟩
 case assign=>
  intro l x W K hK
  gi_wp2
  exact hK
 case body=>
  intro l pre x W h _ _
  gi_wp2_with fail
  exact⟨KeepsFrom.refl _ _,Lets.refl _ _ _ _,h⟩
 case done=>
  rintro D s W hD hs hI ⟨la,ln,lc,told,hw⟩ hK
  have y:=(aa hw 11).T rfl
  simp only[bn,aD]at y
  have HI:=af hI
  have HK:=af hK
  have HD:=af hD
  clear hI hw hs hK hD
  go_wp2_with fail
  trace_state
  refine⟨by simp,.inl ⟨_,_,rfl,run_takeDeferred HK.O,?_⟩⟩
  exact⟨_,results_tmp rfl _ _ _,rfl,eG HI.O _ HK.O (aM HD.O)⟩
def Cw(W:World)(n₀:Nat)(a:Option Addr)(k:Nat)(ys:List an):Prop:=W.ownsRow n₀ 114 4 (.slice a ys.length k) ys.length (ys.flatMap an.cells)/\∀y∈ys,(ai W y.ka y.key/\ai W y.va y.val)/\y.vc=y.val.length
theorem Cw.below{W W':World}{n₀ k:Nat}{a:Option Addr}{ys:List an}(h:Cw W n₀ a k ys)(hb:Below W W W'):Cw W' n₀ a k ys:=⟨bO.row hb h.1, λ y hy=>⟨⟨(h.2 y hy).1.1.below hb,(h.2 y hy).1.2.below hb⟩,(h.2 y hy).2⟩⟩
theorem Cw.at{ys:List an}(h:Cw W n₀ a k ys):dQ W a ys:=ke h.1 λ y hy=>(h.2 y hy).1
theorem Ey{e sz:Nat}{xs:List Value}(h:W.ownsRow n₀ e sz (.slice a k c) k xs)(hb:Boxed W B t (.slice a k c))(hk:dz D (·=Bw) W W')(hr:rowOf B W≠some Bw):W'.ownsRow n₀ e sz (.slice a k c) k xs:=dx h λ g hg=>by
 rcases ay h with⟨h1,_⟩|⟨g2,cur,h1,_,eU⟩
 ·rw[hg]at h1;cases h1
 ·rw[hg]at h1;cases h1
  subst hg
  exact(hk.bT g _ eU (.inr rfl) (λ e=>hr (by rw[gH hb];exact congrArg some e))).T eU.symm
theorem A4(hb:Boxed W B t v)(hk:dz D (·=Bw) W W')(bS:B≠Bw):rowOf B W'=rowOf B W:=dT ((hk.bT B _ hb (.inr rfl) bS).T hb.symm)
def lQ(bX:Int)(xs:List KV):List KV:=if bX<0 then xs else xs.take bX.toNat
theorem nN(hF:au w b cb ps)(hm:Marks (al ps))(ht:dh (al ps) at_ d c items)(hl:o9 w l)(bX:Int)(mY:bX= -1\/1<=bX)(hlen:items.length<=1000):
 Calls Tryz.prog 38 #[aE b ps.length cb,cM at_ d c,l.v,.bool false,.int .i64 bX] w λ e w'=>∃(ys:List an) (a:Option Addr) (k:Nat),e= .returned (.tuple (BH a ys.length k))/\ys.map eC=lQ bX (iO l items)/\Cw w' w.heap.size a k ys/\Below w w w':=by
 obtain⟨n,hn⟩:=aK w.heap.size
 obtain⟨w1,aH⟩:=aK ((((((w.alloc (.cells (cK b ps.length cb) 37)).alloc (.cells (ow at_ d c) 41)).alloc (.cells (MB l.fa l.from_.length l.fc l.en l.ta l.to.length l.tc) 112)).alloc (.cells (qV bX) 3)).alloc (.cells (bn l b ps.length cb false none 0 0 false 0) 139)).alloc (.cells oS 108))
 have aQ:Below w w w1:=by rw[aH];go_grown
 obtain⟨w2,da⟩:=aK ((w1.alloc (.cells (dW (zp (n+1+1+1+1))) 136)).alloc (.cells (ow at_ d c) 41))
 have aC:Below w1 w1 w2:=by rw[da];exact((Below.refl _ w1).alloc (aW) _).alloc aR _
 have s1:w1.heap.size=n+1+1+1+1+1+1:=by rw[aH,hn];simp
 have key:∀(w1:World) (n:Nat) (x:Obj),n=w1.heap.size->(w1.alloc x).heap[n]? =some x:= λ w1 n x e=>e▸World.alloc_heap_new w1 x
 have gu:=(aC.block (n+1+1+1+1) ag).T (show w1.heap[n+1+1+1+1]? =some (.cells (bn l b ps.length cb false none 0 0 false 0) 139)by
  rw[aH];exact(Below.heap_alloc _ _ _ (by simp[<-hn])).T (key _ _ _ (by simp[<-hn])))
 have vz:=(aC.block (n+1+1+1+1+1) ag).T (show w1.heap[n+1+1+1+1+1]? =some (.cells oS 108)by
  rw[aH];exact key _ _ _ (by simp[<-hn]))
 have hbm:=(aC.block (n+1+1+1) ag).T (show w1.heap[n+1+1+1]? =some (.cells (qV bX) 3)by
  rw[aH];exact(Below.heap_alloc _ _ _ (by simp[<-hn]<;>omega)).T ((Below.heap_alloc _ _ _ (by simp[<-hn])).T (key _ _ _ (by simp[<-hn]))))
 have ek:=aS (w2:=w2) (by rw[da];exact dp)
 have sN:Below w w w2:=aQ.T (aC.mono aQ.size)
 have hr:rowOf (n+1+1+1+1+1) w2=none:=mF vz
 have s2:w2.heap.size=n+1+1+1+1+1+1+1+1:=by rw[da];simp[s1]
 have Cv:=af (xY (w0:=w) (w:=w2) (Bw:=n+1+1+1+1) (Ba:=w1.heap.size) (Bt:=w1.heap.size+1) (B:=n+1+1+1+1+1) (X:= λ _=>False) (l:=l) hF hm hl ht sN gu ek.1 ek.2
  ⟨id,ag,by rw[hr];simp⟩ ⟨id,ag,by rw[hr];simp⟩ ag (λ _ h=>h.elim) (λ k h=>by rw[hr]at h;cases h) ag)
 have C4:=af s2
 have V5:=af sN
 have HBO:=af vz
 have HBM:=af hbm
 have HI:Hid (Calls Tryz.prog 52 (tQ (zp (n+1+1+1+1)) (.agg (ow at_ d c))) w1 λ e w'=>e= .returned (.func (.func 68) #[] (iS (zp w1) (zp (w1.heap.size+1))))/\w'=w2):=af (by rw[da];exact A3 _ _ _ _ _)
 have tJ:(bX==0)=false:=bV
 obtain⟨M,hM⟩:=aK w1.heap.size
 rw[<-hM]at HI Cv s1
 have HMK:=af (show∀(pre:List an),pre.map eC<+:iO l items->pre.length<=1000 from λ pre hp=>by
  have h1:=hp.length_le
  have h2:(iO l items).length<=items.length:=List.length_filter_le _ _
  simp at h1;omega)
 rw[aH]at HI
 unfold bn at aH HI
 have Z3:=af mY
 unfold aE cM jH.v
 clear hF hm ht aQ aC gu vz hbm ek sN hr s2 da hl hlen mY key
 subst hn
 refine(callsIn_wide (n:=5)).1 ?_
 refine callsIn_of_wp_marks Tryz.func38 rfl trivial ?_ rfl
 simp only[Tryz.ntmps38,zEn,Nat.reduceAdd,Nat.reduceSub]
 refine wpIn_wide.2 ?_
 go_wp2_with fail
 go_step3
 go_wp2_with fail
 go_step3
 go_wp2_with first
  |((with_reducible refine HI.O.mono ?_);rintro e w3 ⟨rfl,cL⟩;rw[cL];clear cL w3)
  |fail
 rw[s1]at Cv
 have s2:=C4.O
 clear HI aH s1 hM
 refine(wpIn_wide (n:=5)).1 ?_
 refine RP (n:=5) 14 ag rfl (enters_of Tryz.func68 aO rfl) Cv.O (λ x A B h hk=>jd.Oc h hk (.inr rfl) ag ag) Lets.T (lK ag ag) (λ k h=>by subst h;omega)
  (λ pre W=>(∃a k,Boxed W (w.heap.size+1+1+1+1+1) 108 (.slice a pre.length k)/\W.ownsRow w 114 4 (.slice a pre.length k) pre.length (pre.flatMap an.cells))/\Boxed W (w.heap.size+1+1+1) 3 (.int .i64 bX)/\(∀x∈pre,jd (λ k=>False\/k=w.heap.size+1+1+1+1) (w.heap.size+1+1+1+1+1) x W)/\Below w w W/\(0<=bX->(pre.length:Int)<bX)/\rowOf (w.heap.size+1+1+1+1+1) W≠some (w.heap.size+1+1+1+1))
  (λ cd pre W=>cd= .exit 0/\0<=bX/\(pre.length:Int)=bX/\(∃a k,Boxed W (w.heap.size+1+1+1+1+1) 108 (.slice a pre.length k)/\W.ownsRow w 114 4 (.slice a pre.length k) pre.length (pre.flatMap an.cells))/\(∀x∈pre,jd (λ k=>False\/k=w.heap.size+1+1+1+1) (w.heap.size+1+1+1+1+1) x W)/\Below w w W/\rowOf (w.heap.size+1+1+1+1+1) W≠some (w.heap.size+1+1+1+1))
  ?hI ?hIx ?hE ?h0 (λ x U=>U.alloc (.cells x.cells.toArray 114)) (λ x U=>(Below.refl _ U).alloc (aW) _) (λ x U h=>Lets.aA ((Below.refl _ U).alloc (aW) _) ag ag) ?assign ?body ?done ?stop
 case hI=>
  rintro pre U V ⟨⟨a,k,h1,h2⟩,h3,h4,h5,h6,h8⟩ hk
  exact⟨⟨a,k,fW h1 hk ag,Ey h2 h1 hk h8⟩,fW h3 hk ag, λ x hx=>(h4 x hx).Oc hk (.inr rfl) ag ag,gJ h5 hk ag (λ k h1 h2=>ag) (aW),h6,by rw[A4 h1 hk ag];exact h8⟩
 case hIx=>
  rintro cd pre U V ⟨h0,h6,h7,⟨a,k,h1,h2⟩,h4,h5,h8⟩ hk
  exact⟨h0,h6,h7,⟨a,k,fW h1 hk ag,Ey h2 h1 hk h8⟩, λ x hx=>(h4 x hx).Oc hk (.inr rfl) ag ag,gJ h5 hk ag (λ k h1 h2=>ag) (aW),by rw[A4 h1 hk ag];exact h8⟩
 case hE=>
  rintro W l o o' hl ho hc ⟨la,ln,lc,told,h⟩
  exact⟨la,ln,lc,told,(World.putObj_heap_other ag).T h⟩
 case h0=>exact⟨⟨none,0,HBO.O,by simp,.inl ⟨rfl,rfl⟩⟩,HBM.O, λ x hx=>(by cases hx),V5.O, λ h=>by rcases Z3.O with h'|h'<;>simp<;>omega,by rw[mF HBO.O];simp⟩
 case assign=>
  intro l x W K hK
  unfold an.v qH at hK⊢
  unfold an.cells at hK
  gi_wp2
  simpa[an.cells]using hK
 case body=>
  rintro ll pre x U W hU dF ⟨⟨a,k,h1,h2⟩,h3,h4,h5,h6,h8⟩ gj ot
  obtain⟨q,hq⟩:=aK pre.length
  have j7:q+1<=1000:=by have:=HMK.O _ gj;simp at this;omega
  have hx:=dF U.heap.size _ (World.alloc_heap_new U _) rfl
  obtain⟨g',c',w1,bt,f1,f2,ey,ax,gk,Mj,Oa⟩:=rb (P:=Tryz.prog) 108 114 (.agg iT) 4 64 aO Tryz.mS rfl bd bd x.cells.toArray rfl (by simp[an.cells,Value.oneCell']) h1 h2 ag ag h5.size ag (λ _=>False)
  have kO:=gI h1 h2 h3 bd
  obtain⟨-,k3⟩:=Oa (w.heap.size+1+1+1) h3.lt ag kO
  have m0:=h1.cell
  have i0:=(aa hx 0).T rfl
  have i1:=(aa hx 1).T rfl
  have i2:=(aa hx 2).T rfl
  have i3:=(aa hx 3).T rfl
  have n0:=ey.cell
  have n1:(w1.setCell (za (w.heap.size+1+1+1+1+1) 0) (.slice (zp g') (pre.length+1) c')).cell? (za (w.heap.size+1+1+1) 0)=some (.int .i64 bX):=Boxed.cell (show Boxed _ (w.heap.size+1+1+1) 3 _ from k3.T h3)
  have dM:=af (show gk.below.size=gk.below.size from rfl)
  obtain⟨w3,cL⟩:=aK (w1.setCell (za (w.heap.size+1+1+1+1+1) 0) (.slice (zp g') (pre.length+1) c'))
  rw[<-cL]at ey ax gk Mj k3
  have hlen:(pre++[x]).length=pre.length+1:=by simp
  have bq:pre.flatMap an.cells++x.cells.toArray.toList=(pre++[x]).flatMap an.cells:=by simp
  have fK:∀y∈pre++[x],jd (λ k=>False\/k=w.heap.size+1+1+1+1) (w.heap.size+1+1+1+1+1) y w3:= λ y hy=>by
   rcases List.mem_append.1 hy with h|h
   ·exact(h4 y h).lets gk (λ _ h=>h.elim)
   ·rw[List.mem_singleton]at h;subst h;exact ot.lets gk (λ _ h=>h.elim)
  have eJ:=af (show KeepsFrom w2 W w3/\Lets w (λ _=>False) (w.heap.size+1+1+1+1+1) W w3/\(∃a k,Boxed w3 (w.heap.size+1+1+1+1+1) 108 (.slice a (pre++[x]).length k)/\w3.ownsRow w 114 4 (.slice a (pre++[x]).length k) (pre++[x]).length ((pre++[x]).flatMap an.cells))/\Boxed w3 (w.heap.size+1+1+1) 3 (.int .i64 bX)/\(∀y∈pre++[x],jd (λ k=>False\/k=w.heap.size+1+1+1+1) (w.heap.size+1+1+1+1+1) y w3)/\Below w w w3/\rowOf (w.heap.size+1+1+1+1+1) w3≠some (w.heap.size+1+1+1+1)from
   ⟨Mj.from _,gk,⟨_,_,by rw[hlen];exact ey,by rw[hlen,<-bq];exact ax⟩,k3.T h3,fK,h5.T gk.below, λ e=>(gk.row _ e).elim h8 (λ h=>aM h1.lt)⟩)
  have mL:=af cL
  unfold an.cells at bt i0 i1 i2 i3 hx
  simp only[aD]at i0 i1 i2 i3
  rw[<-hq]at bt m0 n0 n1 h6 cL
  have XL:(q:Int)<=1000:=ag
  have HQ:=af hq
  by_cases X3:((q:Int)+1)=bX
  ·have hmb:((q:Int)+1==bX)=true:=by simpa using X3
   have HMQ:=af X3
   clear X3 h1 h2 h3 h4 h5 h6 h8 dF gj ot hx ey ax gk Mj Oa kO k3 hlen bq fK dM cL hq hU
   unfold an.v qH
   gi_wp2_with fail
   have hz:=mL.O
   rw[<-HQ.O]at hz
   rw[<-hz]
   obtain⟨e1,e2,e3,e4,e5,e6,e7⟩:=eJ.O
   have hm9:=HMQ.O
   have hq9:=HQ.O
   exact⟨e1,e2,rfl,ag,by simp;omega,e3,e5,e6,e7⟩
  ·have hmb:((q:Int)+1==bX)=false:=by simpa using X3
   have HMQ:=cj X3 h6
   clear X3 h1 h2 h3 h4 h5 h6 h8 dF gj ot hx ey ax gk Mj Oa kO k3 hlen bq fK dM cL hq hU
   unfold an.v qH
   gi_wp2_with fail
   have hz:=mL.O
   rw[<-HQ.O]at hz
   rw[<-hz]
   obtain⟨e1,e2,e3,e4,e5,e6,e7⟩:=eJ.O
   have hm9:=HMQ.O
   have hq9:=HQ.O
   exact⟨e1,e2,e3,e4,e5,e6, λ h=>by have:=hm9.2 h;have:=hm9.1;simp;omega,e7⟩
 case done=>
  rintro D s W hD hs ⟨⟨a,k,h1,h2⟩,h3,h4,h5,h6,h8⟩ ⟨la,ln,lc,told,hw⟩ hK
  have y:=(aa hw 11).T rfl
  simp only[bn,aD]at y
  have m0:=h1.cell
  have jK:s.map eC=lQ bX (iO l items):=by
   unfold lQ
   by_cases Ad:bX<0
   ·rw[if_pos Ad];exact hs
   ·rw[if_neg Ad,<-hs,List.take_of_length_le]
    have:=h6 ag
    simp;omega
  have HK:=af hK
  have eJ:=af (show s.map eC=lQ bX (iO l items)/\Cw (W.putObj D (.deferred none)) w.heap.size a k s/\Below w w (W.putObj D (.deferred none))from
   ⟨jK,⟨sl h2 (dz.putObj (D:=D) (M:= λ _=>False) W D _ _ (aW) hK rfl) (λ _ _ h=>h), λ x hx=>⟨⟨kr (h4 x hx).2.1.1 (dz.putObj (D:=D) (M:= λ _=>False) W D _ _ (aW) hK rfl) (λ _ _ h=>h),kr (h4 x hx).2.2.1.1 (dz.putObj (D:=D) (M:= λ _=>False) W D _ _ (aW) hK rfl) (λ _ _ h=>h)⟩,(h4 x hx).2.2.2⟩⟩,eG h5 _ hK ag⟩)
  clear h1 h2 h3 h4 h5 h6 h8 hw hs jK hK
  go_wp2_with fail
  refine⟨by simp,.inl ⟨_,_,rfl,run_takeDeferred HK.O,?_⟩⟩
  exact⟨_,results_tmp2 rfl _ _ _,s,a,k,rfl,eJ.O⟩
 case stop=>
  rintro D cd s W hD hs ⟨rfl,h0,h7,⟨a,k,h1,h2⟩,h4,h5,h8⟩ ⟨la,ln,lc,told,hw⟩ hK
  have y:=(aa hw 11).T rfl
  simp only[bn,aD]at y
  have m0:=h1.cell
  have jK:s.map eC=lQ bX (iO l items):=by
   unfold lQ
   rw[if_neg ag]
   obtain⟨r,hr⟩:=hs
   rw[<-hr,List.take_append_of_le_length bV,List.take_of_length_le bV]
  have HK:=af hK
  have eJ:=af (show s.map eC=lQ bX (iO l items)/\Cw (W.putObj D (.deferred none)) w.heap.size a k s/\Below w w (W.putObj D (.deferred none))from
   ⟨jK,⟨sl h2 (dz.putObj (D:=D) (M:= λ _=>False) W D _ _ (aW) hK rfl) (λ _ _ h=>h), λ x hx=>⟨⟨kr (h4 x hx).2.1.1 (dz.putObj (D:=D) (M:= λ _=>False) W D _ _ (aW) hK rfl) (λ _ _ h=>h),kr (h4 x hx).2.2.1.1 (dz.putObj (D:=D) (M:= λ _=>False) W D _ _ (aW) hK rfl) (λ _ _ h=>h)⟩,(h4 x hx).2.2.2⟩⟩,eG h5 _ hK ag⟩)
  clear h1 h2 h4 h5 h7 h8 hw hs jK hK
  refine wpIn_wide.2 ?_
  go_wp2_with fail
  refine⟨by simp,.inl ⟨_,_,rfl,run_takeDeferred HK.O,?_⟩⟩
  exact⟨_,results_tmp2 rfl _ _ _,s,a,k,rfl,eJ.O⟩
end
section
attribute [-go_sem] Builtin.append_
theorem Ez:∀(a b:List Nat),0<=cmpL a b->(0<=cmpL a (b++[0])↔a≠b)
 |[],[],_=>by simp[cmpL]
 |[],_::_,h=>by simp[cmpL]at h
 |x::xs,[],_=>by
  simp only[List.nil_append,cmpL,ne_eq,reduceCtorEq,not_false_eq_true,iff_true]
  split
  ·omega
  ·split
   ·omega
   ·cases xs<;>simp[cmpL]
 |x::xs,y::ys,h=>by
  simp only[List.cons_append,cmpL]at h⊢
  by_cases h1:x<y
  ·rw[if_pos h1]at h;omega
  ·rw[if_neg h1]at h⊢
   by_cases h2:y<x
   ·rw[if_pos h2]
    simp only[ne_eq,List.cons.injEq,not_and]
    exact⟨λ _ e=>ag, λ _=>ag⟩
   ·rw[if_neg h2]at h⊢
    rw[Ez xs ys h]
    have:x=y:=ag
    simp[this]
def Of(ka:Option Addr)(key:List Nat)(kc:Nat)(ta:Option Addr)(tc:Nat):jH:=⟨ka,key,kc,true,ta,key++[0],tc⟩
theorem KX(ka:Option Addr)(key:List Nat)(kc:Nat)(ta:Option Addr)(tc:Nat)(k:List Nat):(Of ka key kc ta tc).holds k=decide (k=key):=by
 unfold jH.holds jH.ends Of
 by_cases h:0<=cmpL k key
 ·have:=Ez k key h
  by_cases hk:k=key
  ·have h2:¬ 0<=cmpL k (key++[0]):= λ e=>this.1 e hk
   rw[hk]at h h2⊢
   simp[h,h2]
  ·have h2:=this.2 hk
   simp[h,hk,h2]
 ·have hk:k≠key:= λ e=>h (by rw[e,uf];omega)
  simp[h,hk]
theorem Og(key:List Nat)(items:List KV)(ys:List an)(h:ys.map eC=lQ 1 (items.filter λ kv=>decide (kv.1=key))):(∃y,ys=[y]/\y.key=key/\eC y∈items)\/(ys=[]/\∀kv∈items,kv.1≠key):=by
 unfold lQ at h
 rw[if_neg bd]at h
 cases hf:items.filter λ kv=>decide (kv.1=key)with
 |nil=>
  rw[hf]at h
  refine .inr ⟨by simpa using h, λ kv Ai e=>?_⟩
  have:kv∈items.filter λ kv=>decide (kv.1=key):=List.mem_filter.2 ⟨Ai,by simpa using e⟩
  rw[hf]at this;cases this
 |cons kv r=>
  rw[hf]at h
  have hm:kv∈items.filter λ kv=>decide (kv.1=key):=by rw[hf];simp
  rw[List.mem_filter]at hm
  cases ys with
  |nil=>simp at h
  |cons y ys=>
   simp at h
   refine .inl ⟨y,by rw[h.2],?_,by rw[h.1];exact hm.1⟩
   have:=hm.2
   rw[<-h.1]at this
   exact of_decide_eq_true this
theorem RR:(Tryz.prog.info? 5).map (λ i=>(i.zero,i.size,i.bytes))=some (some (.int .u8 0),1,1):=aO
def Oh:Value:=.agg iT
theorem uw{u x y:Value}{fz:Nat×Nat}(h:W.heap[B]? =some (.cells #[u,v,x,y] t fz)):W.cell? (za B 0)=some u/\W.cell? (za B 1)=some v/\W.cell? (za B 2)=some x/\W.cell? (za B 3)=some y:=⟨(aa h 0).T rfl,(aa h 1).T rfl,(aa h 2).T rfl,(aa h 3).T rfl⟩
theorem Z4{a0 a1 a2 a3:Value}{fz:Nat×Nat}(h:W.heap[R]? =some (.cells #[a0,a1,a2,a3] t fz)):((((W.setCell (za R 0) v0).setCell (za R 1) v1).setCell (za R 2) v2).setCell (za R 3) v3).heap[R]? =some (.cells #[v0,v1,v2,v3] t fz):=by
 simpa using aq (j:=3) v3 (aq (j:=2) v2 (aq (j:=1) v1 (aq (j:=0) v0 h)))
theorem xZ(j:Nat)(hj:j≠R):((((W.setCell (za R 0) v0).setCell (za R 1) v1).setCell (za R 2) v2).setCell (za R 3) v3).heap[j]? =W.heap[j]? :=
 (Below.heap_setCell _ ⟨R,3,none⟩ v3 j hj).T ((Below.heap_setCell _ ⟨R,2,none⟩ v2 j hj).T ((Below.heap_setCell _ ⟨R,1,none⟩ v1 j hj).T (Below.heap_setCell W ⟨R,0,none⟩ v0 j hj)))
theorem yb(h:n₀<=R):Below n₀ W ((((W.setCell (za R 0) v0).setCell (za R 1) v1).setCell (za R 2) v2).setCell (za R 3) v3):=
 ((((Below.refl n₀ W).setCell (p:=(za R 0)) h _).setCell (p:=(za R 1)) h _).setCell (p:=(za R 2)) h _).setCell (p:=(za R 3)) h _
theorem Oi(hF:au w b cb ps)(hm:Marks (al ps))(ht:dh (al ps) at_ d c items)(hlen:items.length<=1000){ka:Option Addr}{key:List Nat}(kc:Nat)(hk:ai w ka key)(zq:1<=key.length)(oN:key.length<=1000)(zt:key.length<=kc):
 Calls Tryz.prog 42 #[aE b ps.length cb,cM at_ d c,.slice ka key.length kc] w λ e w'=>Below w w w'/\
  ((∃y:an,y.key=key/\eC y∈items/\e= .returned (.tuple #[y.v,.int .i64 0])/\ai w' y.ka y.key/\ai w' y.va y.val/\y.vc=y.val.length)\/((∀kv∈items,kv.1≠key)/\e= .returned (.tuple #[Oh,.int .i64 4]))):=by
 obtain⟨B,o,rfl⟩:=rp hk zq
 obtain⟨w1,aH⟩:=aK (((w.alloc (.cells (cK b ps.length cb) 37)).alloc (.cells (ow at_ d c) 41)).alloc (.cells iT 114))
 have aQ:Below w w w1:=by rw[aH];go_grown
 have hx:=eH (w2:=w1) (by rw[aH];exact dp)
 have HF:Hid (∀W,Below w1 w1 W->(W.cell? (za w 0)=some (.slice none 0 0)/\W.cell? (za w 1)=some (.slice b ps.length cb)/\W.cell? (za w 2)=some (.int .i64 (-1))/\W.cell? (za w 3)=some (.int .i64 (-1))/\W.cell? (za w 4)=some (.bool false))/\(W.cell? (za (w.heap.size+1) 0)=some (.int .i64 (at_:Int))/\W.cell? (za (w.heap.size+1) 1)=some (.int .i64 (d:Int))/\W.cell? (za (w.heap.size+1) 2)=some (.int .i64 (c:Int))/\W.cell? (za (w.heap.size+1) 3)=some (.int .i64 0)/\W.cell? (za (w.heap.size+1) 4)=some (.int .i64 0)/\W.cell? (za (w.heap.size+1) 5)=some (.int .u64 0)/\W.cell? (za (w.heap.size+1) 6)=some (.int .i64 0)/\W.cell? (za (w.heap.size+1) 7)=some (.int .i64 0))/\W.heap[w.heap.size+1+1]? =some (.cells iT 114)):=af λ W hb=>by
  obtain⟨h1,h2,h3⟩:=hx
  have g1:=(hb.block _ (aX h1).1).T h1
  have g2:=(hb.block _ (aX h2).1).T h2
  exact⟨df g1,⟨(aa g2 0).T rfl,(aa g2 1).T rfl,(aa g2 2).T rfl,(aa g2 3).T rfl,(aa g2 4).T rfl,(aa g2 5).T rfl,(aa g2 6).T rfl,(aa g2 7).T rfl⟩,(hb.block _ (aX h3).1).T h3⟩
 obtain⟨w2,da⟩:=aK ((w1.alloc (.cells #[.int .u8 0] 5)).drew)
 have aC:Below w1 w1 w2:=by rw[da];exact((Below.refl _ w1).alloc (aW) _).drew
 have Z5:=hk.below (aQ.T (aC.mono aQ.size))
 obtain⟨tc,w3,bt,htc,ax,aL⟩:=lL (P:=Tryz.prog) 34 5 (.int .u8 0) 1 1 aO RR rfl (W:=w2) (some ⟨B,o,none⟩) key.length (aB key) (by simp[aB]) (.inr ⟨_,rfl, λ j v hj=>by
  rcases Z5.2 with h0|⟨B',o',e,hc⟩
  ·rw[h0]at zq;simp at zq
  ·cases e
   simp only[aB,List.getElem?_map]at hj
   cases XF:key[j]? with
   |none=>rw[XF]at hj;cases hj
   |some x=>rw[XF]at hj;cases hj;rw[kP];exact hc j x XF⟩) ⟨w1.heap.size,0,none⟩ 1 1 [.int .u8 0] rfl (λ j v hj=>by
  rcases j with _|j
  ·cases hj
   rw[kP]
   show w2.cell? (za w1 0)=_
   rw[da]
   show(w1.alloc _).cell? _=_
   rw[World.cell?_alloc_new];rfl
  ·simp at hj) bd ag bd
 have rI:ai w3 (zp w2) (key++[0]):=by
  have:aB key++[.int .u8 0]=aB (key++[0]):=by simp[aB]
  rw[this,show key.length+1=(key++[0]).length by simp]at ax
  exact(cm ax λ y hy=>by rcases List.mem_append.1 hy with h|h;exact hk.1 y h;(simp at h;omega)).1
 have Cx:Below w1 w1 w3:=aC.T (aL.mono aC.size)
 have V6:=aQ.T (Cx.mono aQ.size)
 have HRG:=af (nN (l:=Of (some ⟨B,o,none⟩) key kc (zp w2) tc) (hF.below V6) hm ht ⟨hk.below V6,rI⟩ 1 (.inr bd) hlen)
 have acW:(1:Int)<=(key.length:Int):=ag
 have acX:((key.length:Nat)<=kc)=True:=by simpa using zt
 have TI:(key.length:Int)<=1000:=ag
 have ab6:Hid (∀ys:List an,ys.map eC=lQ 1 (iO (Of (some ⟨B,o,none⟩) key kc (zp w2) tc) items)->(∃y,ys=[y]/\y.key=key/\eC y∈items)\/(ys=[]/\∀kv∈items,kv.1≠key)):=af λ ys h=>Og key items ys (by rw[h];unfold iO;simp only[KX])
 have cZ:=af aQ
 have VM:=af (Below.refl w1 w1)
 have bR:=af aC
 have V7:=af Cx
 have NW:=af da
 have dm:w1.heap.size=w.heap.size+1+1+1:=by rw[aH];simp
 have fZ:w2.heap.size=w.heap.size+1+1+1+1:=by rw[da];show(w1.alloc _).heap.size=_;rw[World.size_alloc,dm]
 rw[dm]at bt
 rw[fZ]at HRG
 unfold jH.v Of at HRG
 simp only[List.length_append,List.length_cons,List.length_nil]at HRG
 unfold aE cM at*
 clear hF hm ht hlen hk zq oN zt aQ hx aC Z5 ax rI Cx V6 htc aL
 go_enter Tryz.func42,Tryz.ntmps42
 go_wp2_with fail
 rw[<-aH]
 clear aH
 obtain⟨⟨f0,f1,f2,f3,f4⟩,⟨t0,t1,t2,t3,t4,t5,t6,t7⟩, -⟩:=HF.O _ VM.O
 refine bP 18 ?_
 refine tP [0,1,2,3,4,5,6,7,8] ?_
 iterate 9 refine tO ?_
 refine ah 9 rfl ?_
 refine sP 9 [] λ K hK=>?_
 go_simp
 have Mp:=af ((Below.refl _ w1).alloc (Nat.le_refl w1.heap.size) (.cells #[.int .u8 0] 5))
 clear f0 f1 f2 f3 f4 t0 t1 t2 t3 t4 t5 t6 t7
 obtain⟨⟨f0,f1,f2,f3,f4⟩,⟨t0,t1,t2,t3,t4,t5,t6,t7⟩, -⟩:=HF.O _ Mp.O
 refine nP hK ?_
 clear hK K
 refine sP 10 [3,4,5,6,7,8,9] λ K hK=>?_
 go_simp
 rw[<-NW.O,bt]
 go_simp
 clear f0 f1 f2 f3 f4 t0 t1 t2 t3 t4 t5 t6 t7
 obtain⟨⟨f0,f1,f2,f3,f4⟩,⟨t0,t1,t2,t3,t4,t5,t6,t7⟩, -⟩:=HF.O _ V7.O
 refine nP hK ?_
 clear hK K
 refine tP [11] ?_
 refine tO ?_
 refine ah 6 rfl ?_
 refine sP 12 [0,1,2,3,4,5,6,7,8,9,10,11] λ K hK=>?_
 go_simp
 (with_reducible refine HRG.O.mono ?_);rintro e w4 ⟨ys,a,k,rfl,xF,ax,bH⟩;have iJ:=af (V7.O.T (bH.mono V7.O.size));have qJ:=af xF;have yc:=af ax;clear bH xF ax
 refine nP hK ?_
 clear hK K
 refine tP [13,14,15,16,17] ?_
 iterate 5 refine tO ?_
 refine ah 0 rfl ?_
 refine dP ?_
 go_simp
 have hx:=(HF.O _ iJ.O).2.2
 obtain⟨z0,z1,z2,z3⟩:=uw hx
 have zf:=ak hx
 have HX:=af hx
 clear f0 f1 f2 f3 f4 t0 t1 t2 t3 t4 t5 t6 t7 hx
 have Z6:=af (cZ.O.T (iJ.O.mono cZ.O.size))
 rcases ab6.O ys qJ.O with⟨y,rfl,lA,Gm⟩|⟨rfl,km⟩
 ·have HY:=cj lA Gm
  obtain⟨C,o2,rfl,c0,c1,c2,c3⟩:∃C o,a=some ⟨C,o,none⟩/\w4.cell? ⟨C,o,none⟩=some (.slice y.ka y.key.length y.kc)/\w4.cell? (za C (o+1))=some (.slice y.va y.val.length y.vc)/\w4.cell? (za C (o+2))=some (.bool false)/\w4.cell? (za C (o+3))=some (.int .i64 0):=by
   rcases yc.O.at.1 with h0|⟨C,o,e,hc⟩
   ·cases h0
   ·have:=hc 0 y rfl
    simp only[Nat.zero_mul,Nat.add_zero]at this
    exact⟨C,o,e,this⟩
  clear lA Gm
  go_wp2_with fail
  refine bodyPost_ret (v:=.tuple #[y.v,.int .i64 0]) ?_ (by rfl) ⟨Z6.O.T (yb ag),.inl ⟨y,HY.O.1,HY.O.2,rfl,?_,?_,(yc.O.2 y aR).2⟩⟩
  ·obtain⟨s0,s1,s2,s3⟩:=uw (Z4 (v0:=.slice y.ka y.key.length y.kc) (v1:=.slice y.va y.val.length y.vc) (v2:=.bool false) (v3:=.int .i64 0) HX.O)
   rw[results_cell_tmp rfl]
   unfold an.v qH
   go_simp
  ·exact dR (λ j hj=>xZ j hj) HX.O (by intro j x;rcases j with _|_|_|_|j<;>simp) (yc.O.2 y aR).1.1
  ·exact dR (λ j hj=>xZ j hj) HX.O (by intro j x;rcases j with _|_|_|_|j<;>simp) (yc.O.2 y aR).1.2
 ·have HNO:=af km
  clear km
  simp only[List.length_nil]
  go_wp2_with fail
  refine bodyPost_ret (v:=.tuple #[Oh,.int .i64 4]) ?_ (by rfl) ⟨Z6.O.T (yb ag),.inr ⟨HNO.O,rfl⟩⟩
  obtain⟨s0,s1,s2,s3⟩:=uw (Z4 (v0:=.slice none 0 0) (v1:=.slice none 0 0) (v2:=.bool false) (v3:=.int .i64 0) HX.O)
  rw[results_cell_tmp rfl]
  unfold Oh
  go_simp
def sO:Nat->Nat->List Nat
 |0,_=>[]
 |k+1,m=>sO k (m/10)++[48+m%10]
theorem gY:∀(k m:Nat),(sO k m).length=k
 |0,_=>rfl
 |k+1,m=>by simp[sO,gY k]
theorem ye:∀(k m j:Nat),j<k->(sO k m)[k - 1 - j]? =some (48+m/10^j%10)
 |0,_,_,h=>ag
 |k+1,m,0,_=>by
  rw[sO,List.getElem?_append_right (by rw[gY];omega),gY]
  simp
 |k+1,m,j+1,h=>by
  rw[sO,List.getElem?_append_left (by rw[gY];omega),show k+1 - 1 - (j+1)=k - 1 - j by omega,ye k (m/10) j ag,Nat.div_div_eq_div_mul,Nat.pow_succ,Nat.mul_comm]
theorem Cy:∀(k m:Nat),∀y∈sO k m,y<256
 |0,_,_,h=>by simp[sO]at h
 |k+1,m,y,h=>by
  rw[sO]at h
  rcases List.mem_append.1 h with h|h
  ·exact Cy k _ y h
  ·simp at h;omega
def lR:Nat->Nat->Nat
 |0,_=>1
 |f+1,m=>if m<10 then 1 else lR f (m/10)+1
def qx(m:Nat):List Nat:=sO (lR 20 m) m
def cR(n:Int):List Nat:=if n<0 then 45::qx n.natAbs else qx n.natAbs
theorem nO:∀(f m:Nat),m<10^(f+1)->m/10^lR f m=0/\∀j,1<=j->j<lR f m->m/10^j≠0
 |0,m,h=>⟨by simp[lR];omega, λ j h1 h2=>by simp[lR]at h2;omega⟩
 |f+1,m,h=>by
  unfold lR
  by_cases hm:m<10
  ·rw[if_pos hm];exact⟨by simp;omega, λ j h1 h2=>ag⟩
  ·rw[if_neg hm]
   obtain⟨h1,h2⟩:=nO f (m/10) (by rw[Nat.div_lt_iff_lt_mul bd];rw[Nat.pow_succ]at h;exact h)
   refine⟨by rw[Nat.pow_succ,Nat.mul_comm,<-Nat.div_div_eq_div_mul];exact h1, λ j j1 j2=>?_⟩
   obtain⟨i,rfl⟩:∃i,j=i+1:=⟨j - 1,ag⟩
   rw[Nat.pow_succ,Nat.mul_comm,<-Nat.div_div_eq_div_mul]
   by_cases hi:i=0
   ·subst hi;simp;omega
   ·exact h2 i ag ag
theorem ux:∀(f m:Nat),1<=lR f m
 |0,_=>aW
 |f+1,m=>by unfold lR;split<;>omega
theorem yh(m:Nat)(h:m<10^19):lR 20 m<=19:=by
 obtain⟨h1,h2⟩:=nO 20 m (Nat.lt_trans h bd)
 refine Nat.le_of_not_lt λ hc=>h2 19 bd hc ?_
 exact Nat.div_eq_of_lt h
theorem EA(d:Nat)(hd:d<10)(W:World):(Instr.index 9 (.string ⟨#[48,49,50,51,52,53,54,55,56,57]⟩) (.int .u64 (d:Int))).run Tryz.prog W= .ok (.int .u8 ((48+d:Nat):Int)) W:=by
 rcases d with _|_|_|_|_|_|_|_|_|_|d
 all_goals first|(rfl)|omega
structure G2(W:World)(R:Nat)(m k:Nat):Prop where
 arr:∃M:Array Value,W.heap[R]? =some (.cells M 246)/\M.size=20/\∀j,j<k->M[19 - j]? =some (.int .u8 ((48+m/10^j%10:Nat):Int))
theorem A5(R b:Nat)(hb:b<20)(W:World):(Instr.sliceAt 246 (.pointer (zp R)) (some (.int .i64 (b:Int))) none none).run Tryz.prog W= .ok (.slice (some ⟨R,b,none⟩) (20 - b) (20 - b)) W:=by
 have h:Tryz.prog.arrayLen 246=20:=aO
 have h2:(b:Int)<=(Tryz.prog.arrayLen 246:Nat):=by rw[h];omega
 have h3:(sizeOf (Tryz.prog.elem 246)).run Tryz.prog W= .ok 1 W:=aO
 rw[run_sliceAt_array_l (P:=Tryz.prog) W 246 ⟨R,0,none⟩ aO .i64 (b:Int) ag h2,h3]
 simp only[Result.andThen,slicedAt,h,Int.toNat_natCast,Nat.mul_one,kP,Nat.zero_add]
 rw[if_neg ag]
theorem yj(n:Int)(dD: -9223372036854775808<=n)(fu:n<9223372036854775808)(w:World):
 Calls Tryz.prog 89 (qV n) w λ e w'=>e= .returned (.string (aU (cR n)))/\Below w w w':=by
 obtain⟨m,hm⟩:=aK n.natAbs
 have V8:m<=9223372036854775808:=ag
 have Gy:Hid (∀M:Array Value,M.size=20->G2 (w.alloc (.cells M 246)) w.heap.size m 0):=af λ M hM=>⟨M,World.alloc_heap_new _ _,hM, λ j hj=>ag⟩
 have HM:=cj hm V8
 have Z7:=af (nO 20 m ag)
 have h19:lR 20 m<=19:=yh m ag
 obtain⟨D,hD⟩:=aK (lR 20 m)
 have HD:=af hD
 rw[<-hD]at Z7 h19
 have hD1:1<=D:=by rw[hD];exact ux _ _
 clear hD
 have Al:Hid (∀(k a:Nat) (W:World),a+1+k=20->G2 W w.heap.size m k->Below w w W->(∃v,W.cell? ⟨w.heap.size,a,none⟩=some v)/\W.frozen? ⟨w.heap.size,a,none⟩=false/\Hid (G2 (W.setCell ⟨w.heap.size,a,none⟩ (.int .u8 ((48+m/10^k%10:Nat):Int))) w.heap.size m (k+1)/\Below w w (W.setCell ⟨w.heap.size,a,none⟩ (.int .u8 ((48+m/10^k%10:Nat):Int))))):=af λ k a W Mq hd hb=>by
  obtain⟨M,h1,h2,h3⟩:=hd.arr
  refine⟨⟨M[a]'ag,by rw[aa h1];exact Array.getElem?_eq_getElem ag⟩,ak h1 a,af ⟨⟨M.setIfInBounds a (.int .u8 ((48+m/10^k%10:Nat):Int)),aq _ h1,by rw[Array.size_setIfInBounds];exact h2, λ j hj=>?_⟩,hb.setCell (p:=⟨w.heap.size,a,none⟩) (aW) _⟩⟩
  by_cases Q9:j=k
  ·subst Q9
   rw[show 19 - j=a by omega,Array.getElem?_setIfInBounds_self_of_lt ag]
  ·rw[Array.getElem?_setIfInBounds_ne ag]
   exact h3 j ag
 have V9:Hid (∀(k b:Nat) (W:World),b+1+k=20->k=D->G2 W w.heap.size m k->Below w w W->(convert 34 9 (.slice (some ⟨w.heap.size,b,none⟩) (k+1) (k+1))).run Tryz.prog (W.setCell ⟨w.heap.size,b,none⟩ (.int .u8 45))= .ok (.string (aU (45::qx m))) (W.setCell ⟨w.heap.size,b,none⟩ (.int .u8 45))/\Below w w (W.setCell ⟨w.heap.size,b,none⟩ (.int .u8 45))):=af λ k b W pk Wa hd hb=>by
  obtain⟨M,h1,h2,h3⟩:=hd.arr
  have hx:=aq (j:=b) (.int .u8 45) h1
  have vT:qx m=sO k m:=by unfold qx;rw[Wa,HD.O]
  have eZ:ai (W.setCell ⟨w.heap.size,b,none⟩ (.int .u8 45)) (some ⟨w.heap.size,b,none⟩) (45::qx m):=by
   refine⟨λ x hx=>?_,.inr ⟨_,_,rfl, λ j x hj=>?_⟩⟩
   ·rcases List.mem_cons.1 hx with rfl|hx
    ·decide
    ·rw[vT]at hx;exact Cy k m x hx
   ·rw[aa hx]
    rcases j with _|j
    ·cases hj
     rw[Nat.add_zero,Array.getElem?_setIfInBounds_self_of_lt ag];rfl
    ·rw[Array.getElem?_setIfInBounds_ne ag]
     rw[List.getElem?_cons_succ,vT]at hj
     have Q9:j<k:=by have:=(List.getElem?_eq_some_iff.1 hj).1;rwa [gY]at this
     have h4:=ye k m (k - 1 - j) ag
     rw[show k - 1 - (k - 1 - j)=j by omega,hj]at h4
     cases h4
     rw[show b+(j+1)=19 - (k - 1 - j)by omega]
     exact h3 _ ag
  exact⟨cy eZ (by simp[vT,gY]),hb.setCell (p:=⟨w.heap.size,b,none⟩) (aW) _⟩
 have HFP:Hid (∀(k a:Nat) (W:World),a+k=20->k=D->G2 W w.heap.size m k->(convert 34 9 (.slice (some ⟨w.heap.size,a,none⟩) k k)).run Tryz.prog W= .ok (.string (aU (qx m))) W):=af λ k a W pk Wa hd=>by
  obtain⟨M,h1,h2,h3⟩:=hd.arr
  have vT:qx m=sO k m:=by unfold qx;rw[Wa,HD.O]
  have eZ:ai W (some ⟨w.heap.size,a,none⟩) (qx m):=by
   refine⟨λ x hx=>by rw[vT]at hx;exact Cy k m x hx,.inr ⟨_,_,rfl, λ j x hj=>?_⟩⟩
   rw[aa h1]
   rw[vT]at hj
   have Q9:j<k:=by have:=(List.getElem?_eq_some_iff.1 hj).1;rwa [gY]at this
   have h4:=ye k m (k - 1 - j) ag
   rw[show k - 1 - (k - 1 - j)=j by omega,hj]at h4
   cases h4
   rw[show a+j=19 - (k - 1 - j)by omega]
   exact h3 _ ag
  exact cy eZ (by simp[vT,gY])
 have HDV:Hid (n<0->cR n=45::qx m):=af λ h=>by unfold cR;rw[if_pos h,<-hm]
 have HDP:Hid (¬ n<0->cR n=qx m):=af λ h=>by unfold cR;rw[if_neg h,<-hm]
 clear hm V8
 by_cases Ad:n<0
 ·have d1:decide (n<0)=true:=by simpa using Ad
  have w1:IntKind.u64.wrap n=18446744073709551616 - (m:Int):=by rw[IntKind.wrap_u64];have:=HM.O.1;omega
  have w2:IntKind.u64.wrap (-(18446744073709551616 - (m:Int)))=(m:Int):=by rw[IntKind.wrap_u64];have:=HM.O.1;omega
  have Wb:=af Ad
  clear dD fu Ad
  go_enter Tryz.func89,Tryz.ntmps89
  go_wp2_with fail
  go_loopw [3,5,6] (λ sv av fv wr=>∃k a s:Nat,k<=D/\a+k=20/\Hid (s=m/10^k)/\sv= .int .u64 (s:Int)/\av= .int .i64 (a:Int)/\fv= .bool (decide (k=0))/\Hid (G2 wr w.heap.size m k)/\Hid (Below w w wr)) (λ _ av _ _=>(intOf av).toNat)
  case atStart=>exact⟨0,20,m,Nat.zero_le _,rfl,af aR,rfl,rfl,rfl,Gy.O _ rfl,af ((Below.refl _ w).alloc (aW) _)⟩
  case round=>
   obtain⟨k,a,s,hk,Mq,hs,rfl,rfl,rfl,hd,hb⟩:=hrel
   by_cases bg:k<D
   ·obtain⟨b,rfl⟩:∃b,a=b+1:=⟨a - 1,ag⟩
    obtain⟨⟨v0,hv0⟩,hf0,fR⟩:=Al.O k b wr ag hd.O hb.O
    rw[<-hs.O]at fR
    obtain⟨dg,Oj⟩:=aK (s%10)
    obtain⟨c,hc⟩:=aK (48+dg)
    obtain⟨q,hq⟩:=aK (s/10)
    rw[<-Oj,<-hc]at fR
    have hdg:=EA dg ag
    rw[<-hc]at hdg
    have Ki:(s:Int)%10=(dg:Int):=ag
    have hcd:(s:Int)/10=(q:Int):=ag
    have wq:IntKind.u64.wrap (q:Int)=(q:Int):=by
     have h1:=HM.O.2
     have h2:s<=m:=by rw[hs.O];exact Nat.div_le_self _ _
     rw[IntKind.wrap_u64];omega
    have Z8:Hid (q=m/10^(k+1)):=af (by rw[hq,hs.O,Nat.pow_succ,Nat.div_div_eq_div_mul])
    clear Oj hc hq
    have G3:k≠0->decide ((0:Int)<(s:Int))=true:= λ zP=>by
     have:=Z7.O.2 k ag bg
     rw[<-hs.O]at this
     simp;omega
    have Z9:(b:Int)<20:=ag
    by_cases zP:k=0
    ·subst zP
     clear G3
     obtain rfl:b=19:=ag
     go_wp2_with fail
     exact⟨⟨1,19,q,ag,ag,Z8,by simp,by simp,by simp,af fR.O.1,af fR.O.2⟩,by simp[intOf]⟩
    ·have hp:=G3 zP
     have ar:decide (0<s)=true:=by simpa using hp
     have ab7:0<s:=by simpa using hp
     have VT:decide (k=0)=false:=by simp[zP]
     have aI:=af Mq
     clear G3 Mq
     go_wp2_with fail
     have Mq:=aI.O
     exact⟨⟨k+1,b,q,ag,ag,Z8,by simp,by simp,by simp,af fR.O.1,af fR.O.2⟩,by simp[intOf]⟩
   ·have Wa:k=D:=ag
    subst Wa
    have RS:s=0:=by rw[hs.O];exact Z7.O.1
    subst RS
    have zP:decide (k=0)=false:=bV
    have ab8:¬ k=0:=ag
    obtain⟨b,rfl⟩:∃b,a=b+1:=⟨a - 1,ag⟩
    have Z9:(b:Int)<20:=ag
    have aac:b<20:=ag
    obtain⟨⟨v0,hv0⟩,hf0, -⟩:=Al.O k b wr ag hd.O hb.O
    have su:=A5 w.heap.size b ag
    have Wc:=V9.O k b wr ag rfl hd.O hb.O
    have Ml:=Wc.1
    have aY:=af Wc.2
    have aI:=af Mq
    have pk:20 - b=k+1:=ag
    rw[pk]at su
    clear Mq bg Wc pk
    go_wp2_with fail
    go_ret
    exact⟨by rw[HDV.O Wb.O];rfl,aY.O⟩
 ·have d1:decide (n<0)=false:=by simpa using Ad
  have w1:IntKind.u64.wrap n=(m:Int):=by rw[IntKind.wrap_u64];have:=HM.O.1;omega
  have Wb:=af Ad
  clear dD fu Ad
  go_enter Tryz.func89,Tryz.ntmps89
  go_wp2_with fail
  go_loopw [3,5,6] (λ sv av fv wr=>∃k a s:Nat,k<=D/\a+k=20/\Hid (s=m/10^k)/\sv= .int .u64 (s:Int)/\av= .int .i64 (a:Int)/\fv= .bool (decide (k=0))/\Hid (G2 wr w.heap.size m k)/\Hid (Below w w wr)) (λ _ av _ _=>(intOf av).toNat)
  case atStart=>exact⟨0,20,m,Nat.zero_le _,rfl,af aR,rfl,rfl,rfl,Gy.O _ rfl,af ((Below.refl _ w).alloc (aW) _)⟩
  case round=>
   obtain⟨k,a,s,hk,Mq,hs,rfl,rfl,rfl,hd,hb⟩:=hrel
   by_cases bg:k<D
   ·obtain⟨b,rfl⟩:∃b,a=b+1:=⟨a - 1,ag⟩
    obtain⟨⟨v0,hv0⟩,hf0,fR⟩:=Al.O k b wr ag hd.O hb.O
    rw[<-hs.O]at fR
    obtain⟨dg,Oj⟩:=aK (s%10)
    obtain⟨c,hc⟩:=aK (48+dg)
    obtain⟨q,hq⟩:=aK (s/10)
    rw[<-Oj,<-hc]at fR
    have hdg:=EA dg ag
    rw[<-hc]at hdg
    have Ki:(s:Int)%10=(dg:Int):=ag
    have hcd:(s:Int)/10=(q:Int):=ag
    have wq:IntKind.u64.wrap (q:Int)=(q:Int):=by
     have h1:=HM.O.2
     have h2:s<=m:=by rw[hs.O];exact Nat.div_le_self _ _
     rw[IntKind.wrap_u64];omega
    have Z8:Hid (q=m/10^(k+1)):=af (by rw[hq,hs.O,Nat.pow_succ,Nat.div_div_eq_div_mul])
    clear Oj hc hq
    have G3:k≠0->decide ((0:Int)<(s:Int))=true:= λ zP=>by
     have:=Z7.O.2 k ag bg
     rw[<-hs.O]at this
     simp;omega
    have Z9:(b:Int)<20:=ag
    by_cases zP:k=0
    ·subst zP
     clear G3
     obtain rfl:b=19:=ag
     go_wp2_with fail
     exact⟨⟨1,19,q,ag,ag,Z8,by simp,by simp,by simp,af fR.O.1,af fR.O.2⟩,by simp[intOf]⟩
    ·have hp:=G3 zP
     have ar:decide (0<s)=true:=by simpa using hp
     have ab7:0<s:=by simpa using hp
     have VT:decide (k=0)=false:=by simp[zP]
     have aI:=af Mq
     clear G3 Mq
     go_wp2_with fail
     have Mq:=aI.O
     exact⟨⟨k+1,b,q,ag,ag,Z8,by simp,by simp,by simp,af fR.O.1,af fR.O.2⟩,by simp[intOf]⟩
   ·have Wa:k=D:=ag
    subst Wa
    have RS:s=0:=by rw[hs.O];exact Z7.O.1
    subst RS
    have zP:decide (k=0)=false:=bV
    have ab8:¬ k=0:=ag
    have aac:a<20:=ag
    have su:=A5 w.heap.size a ag
    have Ml:=HFP.O k a wr ag rfl hd.O
    have aY:=hb
    have aI:=af Mq
    have pk:20 - a=k:=ag
    have ado:(a:Int)<=20:=ag
    rw[pk]at su
    clear Mq bg pk
    go_wp2_with fail
    go_ret
    exact⟨by rw[HDP.O Wb.O];rfl,aY.O⟩
end
end Go.Proofs.YtkgapncajjafoaaGreatDoor

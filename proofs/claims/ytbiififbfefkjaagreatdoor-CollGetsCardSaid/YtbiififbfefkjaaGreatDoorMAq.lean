/- The store, part 17. -/
import Derived.Test.YtbiififbfefkjaaGreatDoorMAl
set_option linter.unusedSimpArgs false
set_option linter.unusedVariables false
set_option maxRecDepth 100000
set_option maxHeartbeats 16000000
namespace Go.Proofs.YtbiififbfefkjaaGreatDoor
open Go.RowKit Go.Shelf
variable{w W W':World}{xs ys:List aH}{p:Prop}{all:List Nat}{d n c k':Nat}{l0 lr:List Ed}{its:List KV}{ks:List a8}{l:List eH}{P:World -> Prop}{TP:TypeId}
section
attribute [local go_sem] Oper.semAt_some
attribute [-go_sem] Builtin.append_
theorem T8(x y:aH)(hx:ay w x.ka x.key/\ay w x.va x.val)(hy:ay w y.ka y.key/\ay w y.va y.val)(hs:x.key.length<=1000/\x.val.length<=1000):
 Calls Tryz.prog 213 (Ii (.agg (il x.ka x.key.length x.kc x.va x.val.length x.vc)) (.agg (il y.ka y.key.length y.kc y.va y.val.length y.vc))) w λ e w'=>∃r,e= .returned (.bool r)/\(r=true->fF x=fF y)/\Below w w w':=by
 obtain⟨w1,bY⟩:=bL ((w.alloc (.cells (il x.ka x.key.length x.kc x.va x.val.length x.vc) 101)).alloc (.cells (il y.ka y.key.length y.kc y.va y.val.length y.vc) 101));have cN:Below w w w1:=by rw[bY];go_grown
 have eb:=bu (w2:=w1) fq;have HE:=ag (Aa x.kc y.kc (hx.1.below cN) (hy.1.below cN) an);have HV:=ag (λ (V:World) (hV:Below w1 w1 V)=>Aa x.vc y.vc ((hx.2.below cN).below hV) ((hy.2.below cN).below hV) an);have p0:=(af eb.1 0).T rfl;have p1:=(af eb.1 1).T rfl;have p2:=(af eb.1 2).T rfl;have p3:=(af eb.1 3).T rfl;simp only[cW]at p0 p1 p2 p3;have q0:=(af eb.2 0).T rfl;have q1:=(af eb.2 1).T rfl;have q2:=(af eb.2 2).T rfl;have q3:=(af eb.2 3).T rfl;simp only[cW]at q0 q1 q2 q3;have H1:=eS cN eb bY;rw[bY]at HE p0 p1 p2 p3 q0 q1 q2 q3;clear hx hy hs cN eb bY;by_cases hk:x.key=y.key
 ·have e1:decide (x.key=y.key)=true:=by simp[hk]
  rw[e1]at HE;have HK:=ag hk;clear hk e1;by_cases hv:x.val=y.val
  ·have e2:decide (x.val=y.val)=true:=by simp[hv]
   rw[e2]at HV;have HR:=ag (show fF x=fF y by unfold fF;rw[HK.O,hv]);clear hv e2;go_enter Tryz.func213,Tryz.ntmps213
   go_wp2_with first
    |((with_reducible refine HE.O.mono ?_);rintro e w2 ⟨rfl,bG⟩;rw[<-H1.O.2.2]at bG;have g1:=(bG.block _ (cS H1.O.2.1.1).1).T H1.O.2.1.1;have g2:=(bG.block _ (cS H1.O.2.1.2).1).T H1.O.2.1.2;have s0:=(af g1 0).T rfl;have s1:=(af g1 1).T rfl;have s2:=(af g1 2).T rfl;have s3:=(af g1 3).T rfl;simp only[cW]at s0 s1 s2 s3;have u0:=(af g2 0).T rfl;have u1:=(af g2 1).T rfl;have u2:=(af g2 2).T rfl;have u3:=(af g2 3).T rfl;simp only[cW]at u0 u1 u2 u3;have Ng:=ag (HV.O _ bG);have eJ:=eS bG g1 g2;clear bG g1 g2)
    |((with_reducible refine Ng.O.mono ?_);rintro e w3 ⟨rfl,cu⟩;have g1:=(cu.block _ (cS eJ.O.2.1).1).T eJ.O.2.1;have g2:=(cu.block _ (cS eJ.O.2.2).1).T eJ.O.2.2;have m0:=(af g1 0).T rfl;have m1:=(af g1 1).T rfl;have m2:=(af g1 2).T rfl;have m3:=(af g1 3).T rfl;simp only[cW]at m0 m1 m2 m3;have n0:=(af g2 0).T rfl;have n1:=(af g2 1).T rfl;have n2:=(af g2 2).T rfl;have n3:=(af g2 3).T rfl;simp only[cW]at n0 n1 n2 n3;have ek:=ag cu;clear cu g1 g2)
    |fail
   go_ret;exact⟨true,rfl, λ _=>HR.O,H1.O.1.T ((eJ.O.1.T (ek.O.mono eJ.O.1.size)).mono H1.O.1.size)⟩
  ·have e2:decide (x.val=y.val)=false:=by simp[hv]
   rw[e2]at HV;clear hv e2;go_enter Tryz.func213,Tryz.ntmps213
   go_wp2_with first
    |((with_reducible refine HE.O.mono ?_);rintro e w2 ⟨rfl,bG⟩;rw[<-H1.O.2.2]at bG;have g1:=(bG.block _ (cS H1.O.2.1.1).1).T H1.O.2.1.1;have g2:=(bG.block _ (cS H1.O.2.1.2).1).T H1.O.2.1.2;have s0:=(af g1 0).T rfl;have s1:=(af g1 1).T rfl;have s2:=(af g1 2).T rfl;have s3:=(af g1 3).T rfl;simp only[cW]at s0 s1 s2 s3;have u0:=(af g2 0).T rfl;have u1:=(af g2 1).T rfl;have u2:=(af g2 2).T rfl;have u3:=(af g2 3).T rfl;simp only[cW]at u0 u1 u2 u3;have Ng:=ag (HV.O _ bG);have eJ:=ag bG;clear bG g1 g2)
    |((with_reducible refine Ng.O.mono ?_);rintro e w3 ⟨rfl,cu⟩;have ek:=ag cu;clear cu)
    |fail
   go_ret;exact⟨false,rfl, λ h=>mQ,H1.O.1.T ((eJ.O.T (ek.O.mono eJ.O.size)).mono H1.O.1.size)⟩
 ·have e1:decide (x.key=y.key)=false:=by simp[hk]
  rw[e1]at HE;clear hk e1;go_enter Tryz.func213,Tryz.ntmps213
  go_wp2_with first
   |((with_reducible refine HE.O.mono ?_);rintro e w2 ⟨rfl,bG⟩;rw[<-H1.O.2.2]at bG;have eJ:=ag bG;clear bG)
   |fail
  go_ret;exact⟨false,rfl, λ h=>mQ,H1.O.1.T (eJ.O.mono H1.O.1.size)⟩
theorem Qm{a b:az}(c d:Nat)(hx:ec w a xs)(hy:ec w b ys)(hs:xs.length<=1000/\∀x∈xs,x.key.length<=1000/\x.val.length<=1000):
 Calls Tryz.prog 212 #[.slice a xs.length c,.slice b ys.length d,.func (.func 213) #[] #[]] w λ e w'=>∃r,e= .returned (.bool r)/\(r=true->xs.map fF=ys.map fF)/\Below w w w':=by
 have HA:=ag (kN.1 hx);have HB:=ag (kN.1 hy);have HS:=ag hs.2;have acn:(xs.length:Int)<=1000:=an;clear hx hy hs;by_cases hl:xs.length=ys.length
 ·have dN:((xs.length:Int)==(ys.length:Int))=true:=by simp[hl]
  have WL:((xs.length:Int)=(ys.length:Int)):=an;have HL:=ag hl;clear hl;go_enter Tryz.func212,Tryz.ntmps212
  go_wp2_with fail
  go_loopw [17] (λ iv wr=>∃i:Nat,i<=xs.length/\iv= .int .i64 (i:Int)/\Hid (Below w w wr)/\Hid ((xs.map fF).take i=(ys.map fF).take i)) (λ iv _=>xs.length - (intOf iv).toNat)
  case atStart=>exact⟨0,an,rfl,ag (gb),ag rfl⟩
  case round=>
   obtain⟨i,hi,rfl,hw,hc⟩:=hrel;by_cases cL:i<xs.length
   ·obtain⟨x,hx⟩:∃x,xs[i]? =some x:=⟨xs[i],by simp[cL]⟩;obtain⟨y,hy⟩:∃y,ys[i]? =some y:=⟨ys[i]'(cm HL.O),by have:=HL.O;simp⟩;obtain⟨B,o,rfl⟩:=HA.O.1.some_ an;obtain⟨B',o',rfl⟩:=HB.O.1.some_ (cm HL.O);have hgx:wr.rangeAt B (o+i*4) (il x.ka x.key.length x.kc x.va x.val.length x.vc):=(HA.O.1.below hw.O).get hx;obtain⟨V1,so⟩:=bL (wr.alloc (.cells (il x.ka x.key.length x.kc x.va x.val.length x.vc) 101));have cN:Below wr wr V1:=by rw[so];go_grown
    have hgy:V1.rangeAt B' (o'+i*4) (il y.ka y.key.length y.kc y.va y.val.length y.vc):=((HB.O.1.below hw.O).below cN).get hy;obtain⟨V2,Gq⟩:=bL (V1.alloc (.cells (il y.ka y.key.length y.kc y.va y.val.length y.vc) 101));have bG:Below V1 V1 V2:=by rw[Gq];go_grown
    have n1:=ai wr (.cells (il x.ka x.key.length x.kc x.va x.val.length x.vc) 101);rw[<-so]at n1;have n1':=(bG.block _ (cS n1).1).T n1;have adH:=aF n1';have n2:=ai V1 (.cells (il y.ka y.key.length y.kc y.va y.val.length y.vc) 101);rw[<-Gq]at n2;have afN:=aF n2;have s1:V1.heap.size=wr.heap.size+1:=by rw[so];simp
    have A4:Below w w V2:=(hw.O.T (cN.mono hw.O.size)).T (bG.mono (aj hw.O.size cN.size));have mM:=HA.O.2 x (ak hx);have iL:=HB.O.2 y (ak hy);have HE:=ag (T8 x y ⟨mM.1.below A4,mM.2.below A4⟩ ⟨iL.1.below A4,iL.2.below A4⟩ (HS.O x (ak hx)));have H2:=dO A4 Gq;rw[s1]at afN;rw[Gq,so]at adH afN HE;rw[so]at hgy;have mn:(i:Int)<(xs.length:Int):=an;have hjb:(i:Int)<(ys.length:Int):=an;have zP:(i:Int)<=1000:=an;have HX:=dO hx hy;have HV1:=ag so;clear hx hy cN bG n1 n1' n2 A4 mM iL so Gq s1
    go_wp2_with first
     |(refine dG 101 ?_)
     |(refine lU 101 ?_)
     |((with_reducible refine HE.O.mono ?_);rintro e w3 ⟨r,rfl,hr,cu⟩;rw[<-HV1.O,<-H2.O.2]at cu;have ek:=dO hr (H2.O.1.T (cu.mono H2.O.1.size));clear hr cu;cases r)
     |fail
    ·go_ret;exact⟨false,rfl, λ h=>mQ,ek.O.2⟩
    ·exact⟨⟨i+1,an,by simp,ag ek.O.2,ag (by rw[aL,aL,hc.O,aW,aW,HX.O.1,HX.O.2,eM,eM,ek.O.1 trivial])⟩,by simp[intOf];omega⟩
   ·have hT:xs.map fF=ys.map fF:=by
     have h:=hc.O;have hl:=HL.O;rw[aY dU,aY dU]at h;exact h
    have mn:¬ (i:Int)<(xs.length:Int):=an;have HT:=ag hT;clear hT
    go_wp2_with fail
    go_ret;exact .inr ⟨rfl,HT.O,hw.O⟩
 ·have dN:((xs.length:Int)==(ys.length:Int))=false:=dU;go_enter Tryz.func212,Tryz.ntmps212
  go_wp2_with fail
  go_ret;exact⟨false,rfl, λ h=>mQ,gb⟩
theorem XG{a b:az}(c d:Nat)(hx:ec w a xs)(hy:ec w b ys)(hs:xs.length<=1000/\∀x∈xs,x.key.length<=1000/\x.val.length<=1000):
 Calls Tryz.prog 194 (fP a xs.length c b ys.length d) w λ e w'=>∃r,e= .returned (.bool r)/\(r=true->xs.map fF=ys.map fF)/\Below w w w':=by
 have HE:=ag (Qm c d hx hy hs);clear hx hy hs;go_enter Tryz.func194,Tryz.ntmps194
 go_wp2_with first
  |((with_reducible refine HE.O.mono ?_);rintro e w3 ⟨r,rfl,hr,cu⟩;have HR:=dO hr cu;clear hr cu)
  |fail
 go_ret;exact⟨r,rfl,HR.O.1,HR.O.2⟩
def Pc.Lc{α:Type}:Pc α->Bool| .kept _=>true| .loose _ _ _=>false
theorem xA(h:p:=by
 simp only[Pc.cells,List.toArray]at n0 HB⊢;have x0:=(af n0 0).T rfl;simp only[cW]at x0;clear n0 hb;go_enter Tryz.func197,Tryz.ntmps197
 go_wp2_with fail
 go_ret;exact⟨rfl,HB.O⟩
 ):p:=h
theorem Ld(p:Pc aH)(w:World):Calls Tryz.prog 197 #[.agg p.cells.toArray] w λ e w'=>e= .returned (.bool (!p.Lc))/\Below w w w':=by
 have n0:=ai w (.cells p.cells.toArray 275);have hb:Below w w (w.alloc (.cells p.cells.toArray 275)):=by go_grown
 have HB:=ag hb;cases p with
 |kept r=>
  exact xA
 |loose a c ys=>
  exact xA
theorem T9{a:az}{ps:List (Pc aH)}(c:Nat)(hP:eU r9 w a c ps)(hl:ps.length<=1000):
 Calls Tryz.prog 214 (ZX a ps.length c (.func (.func 197) #[] #[])) w λ e w'=>∃i:Int,e= .returned (.int .i64 i)/\decide (0<=i)=ps.any (λ p=> !p.Lc)/\Below w w w':=by
 have HP:=ag hP;have acn:(ps.length:Int)<=1000:=an;clear hP;go_enter Tryz.func214,Tryz.ntmps214
 go_wp2_with fail
 go_loopw [8] (λ iv wr=>∃i:Nat,i<=ps.length/\iv= .int .i64 (i:Int)/\Hid (Below w w wr)/\Hid ((ps.take i).any (λ p=> !p.Lc)=false)) (λ iv _=>ps.length - (intOf iv).toNat)
 case atStart=>exact⟨0,an,rfl,ag (gb),ag rfl⟩
 case round=>
  obtain⟨i,hi,rfl,hw,hc⟩:=hrel;by_cases cL:i<ps.length
  ·obtain⟨p,hp⟩:∃p,ps[i]? =some p:=⟨ps[i],by simp[cL]⟩;obtain⟨B,o,rfl⟩:=HP.O.row.some_ an;have hg:=(HP.O.row.below hw.O).get hp;have mn:(i:Int)<(ps.length:Int):=an;have zP:(i:Int)<=1000:=an;have HE:=ag (Ld p wr);obtain⟨pc,vY⟩:=bL p.cells;have BP:pc.length=11:=by rw[vY];exact p.len
   rw[<-vY]at hg HE;obtain⟨v0,v1,v2,v3,v4,v5,v6,v7,v8,v9,v10,hv⟩:∃v0 v1 v2 v3 v4 v5 v6 v7 v8 v9 v10,pc=[v0,v1,v2,v3,v4,v5,v6,v7,v8,v9,v10]:=by
    match pc,BP with
    |[v0,v1,v2,v3,v4,v5,v6,v7,v8,v9,v10],_=>exact⟨_,_,_,_,_,_,_,_,_,_,_,rfl⟩
   rw[hv]at hg HE;simp only[List.toArray]at HE;have HPI:=ag hp;clear hp vY BP hv;cases hk:p.Lc
   ·rw[hk]at HE;have HT:Hid (ps.any (λ p=> !p.Lc)=true):=ag (List.any_eq_true.2 ⟨p,ak HPI.O,by rw[hk];rfl⟩);clear hk
    go_wp2_with first
     |(refine dG 275 ?_)
     |((with_reducible refine HE.O.mono ?_);rintro e w3 ⟨rfl,cu⟩;have ek:=ag (hw.O.T (cu.mono hw.O.size));clear cu)
     |fail
    go_ret;exact⟨(i:Int),rfl,by rw[HT.O];simp,ek.O⟩
   ·rw[hk]at HE;have HT:Hid ((ps.take (i+1)).any (λ p=> !p.Lc)=false):=ag (by rw[aL,HPI.O,List.any_append,hc.O];simp[hk]);clear hk
    go_wp2_with first
     |(refine dG 275 ?_)
     |((with_reducible refine HE.O.mono ?_);rintro e w3 ⟨rfl,cu⟩;have ek:=ag (hw.O.T (cu.mono hw.O.size));clear cu)
     |fail
    exact⟨⟨i+1,an,by simp,ek,HT⟩,by simp[intOf];omega⟩
  ·have HT:Hid (ps.any (λ p=> !p.Lc)=false):=ag (by have h:=hc.O;rw[aY an]at h;exact h);have mn:¬ (i:Int)<(ps.length:Int):=an
   go_wp2_with fail
   go_ret;exact⟨-1,rfl,by rw[HT.O];rfl,hw.O⟩
theorem Le{a:az}{ps:List (Pc aH)}(c:Nat)(hP:eU r9 w a c ps)(hl:ps.length<=1000):
 Calls Tryz.prog 196 (ZX a ps.length c (.func (.func 197) #[] #[])) w λ e w'=>e= .returned (.bool (ps.any (λ p=> !p.Lc)))/\Below w w w':=by
 have HE:=ag (T9 c hP hl);clear hP hl;obtain⟨q,hq⟩:=bL (ps.any (λ p=> !p.Lc));rw[<-hq]at HE⊢;clear hq;go_enter Tryz.func196,Tryz.ntmps196
 go_wp2_with first
  |((with_reducible refine HE.O.mono ?_);rintro e w3 ⟨i,rfl,hi,cu⟩;have HR:=dO hi cu;clear hi cu)
  |fail
 go_ret;exact⟨by rw[<-HR.O.1];rfl,HR.O.2⟩
def Pv.Lc{α:Type}:Pv α->Bool| .kept _=>true| .loose _=>false
theorem aaG{α:Type}(p:Pc α):p.Lc=p.val.Lc:=by cases p<;>rfl
theorem aaH{α:Type}(ps:List (Pc α)):ps.any (λ p=> !p.Lc)=(ps.map Pc.val).any λ p=> !p.Lc:=by rw[List.any_map];congr 1;funext p;rw[Function.comp_apply,aaG]
def Ua(all:List Nat)(r:cF)(its:List KV)(l:List Ed)(V:List (Pv aH)):Prop:=
 (V=[.kept r]/\iH its l=its)\/(cq (uf all Ho 0) V (iH its l)/\V.length<=its.length/\V.any (λ p=> !p.Lc)=true)
theorem abY{a b c:List Nat}(h:lj a b)(h2:¬ lj c b):lj a c:=by
 rcases Es b c with h3|h3|h3
 ·exact lE _ _ _ h h3
 ·rw[<-h3];exact h
 ·exact absurd h3 h2
def Ei(all:List Nat)(d:Nat)(l0:List Ed)(its:List KV)(ks:List a8)(V:List (Pv aH))(lr:List Ed):Prop:=
 ∃A B l1,its=A++B/\l0=l1++lr/\cq (wQ all d) ks B/\cq (uf all Ho 0) V (iH A l1)/\V.length<=A.length/\(∀e∈l1,∀b∈B,lj e.key b.1)/\(∀e∈lr,∀a∈A,lj a.1 e.key)/\(V.any (λ p=> !p.Lc)=false->iH A l1=A)/\(ks=[]->lr=[])
theorem Ei.start(h:cq (wQ all d) ks its)(hk:ks≠[]):Ei all d l0 its ks [] l0:=
 ⟨[],its,[],rfl,rfl,h,rfl,cH, λ e he=>(by cases he), λ e _ a ha=>(by cases ha), λ _=>rfl, λ e=>absurd e hk⟩
structure acv(ks:List a8)(lr ln lr':List Ed):Prop where
 eq:lr=ln++lr'
 next:∀z r,ks=z::r->(∀e∈ln,lj e.key z.key)/\∀e,lr'[0]? =some e->¬ lj e.key z.key
 last:ks=[]->lr'=[]
theorem Ei.adG{y:a8}{V:List (Pv aH)}(h:Ei all d l0 its (y::ks) V lr)(hr:cR (its.map Prod.fst)):∃s,fV all ⟨y,d⟩ s/\cR (s.map Prod.fst)/\s.length<=its.length/\
 ∀(ln lr':List Ed) (V':List (Pv aH)),l0.Pairwise (λ a b=>lj a.key b.key)->acv ks lr ln lr'->Ua all ⟨y,d⟩ s ln V'->Ei all d l0 its ks (V++V') lr':=by
 obtain⟨A,B,l1,h1,h2,⟨s,B',g1,g2,g3⟩,h4,h5,h6,h7,h8,h9⟩:=h;have oO:cR ((A++(s++B')).map Prod.fst):=by rw[h1,g3]at hr;exact hr
 refine⟨s,g1,(j6 (j6 oO).2).1,by rw[h1,g3];simp only[ar];omega, λ ln lr' V' hp hc hv=>?_⟩;have hz:∀z r,ks=z::r->(∀b∈B',z.key=b.1\/lj z.key b.1)/\∀a∈s,lj a.1 z.key:= λ z r e=>by
  subst e;obtain⟨t,r2,f1,f2,f3⟩:=g2;obtain⟨kv,l,e1,e2⟩:=fV.first f1
  dsimp only at e2;have hB:B'=kv::(l++r2):=by rw[f3,e1];rfl
  refine⟨λ b hb=>?_, λ a ha=>?_⟩
  ·rw[e2];rw[hB]at hb;rcases aO.1 hb with rfl|hb
   ·exact .inl rfl
   ·right;have h3:=uI.1 (j6 (j6 oO).2).2;rw[hB,PW,dH]at h3;exact h3.1 b hb
  ·rw[e2];exact FM (j6 oO).2 ha (by rw[hB];exact bD)
 have hd:iH (A++s) (l1++ln)=iH A l1++iH s ln:=F1 s ln l1 A (λ e he b hb=>h6 e he b (by rw[g3];exact cG _ hb)) λ e he a ha=>h7 e (by rw[hc.eq];exact cG _ he) a ha;obtain⟨kv,l,e1,_⟩:=fV.first g1
 refine⟨A++s,B',l1++ln,by rw[h1,g3,aS],by rw[h2,hc.eq,aS],g2,?_,?_,?_,?_,?_,hc.last⟩
 ·rw[hd];refine cq.app.2 ⟨_,_,h4,?_,rfl⟩;rcases hv with⟨rfl,e⟩|⟨e,_⟩
  ·rw[e];exact cq.one.2 ⟨g1,aD _⟩
  ·exact e
 ·rw[ar,ar];rcases hv with⟨rfl,e⟩|⟨_,e,_⟩
  ·rw[e1];simp only[aK,bK];omega
  ·omega
 ·intro e he b hb;rcases aG.1 he with he|he
  ·exact h6 e he b (by rw[g3];exact cM _ hb)
  ·cases ks with
   |nil=>cases g2;cases hb
   |cons z r=>
    have h3:=(hc.next z r rfl).1 e he;rcases(hz z r rfl).1 b hb with h4|h4
    ·rw[<-h4];exact h3
    ·exact lE _ _ _ h3 h4
 ·intro e he a ha;cases ks with
  |nil=>rw[hc.last rfl]at he;cases he
  |cons z r=>
   have hze:¬ lj e.key z.key:=by
    cases lr' with
    |nil=>cases he
    |cons e0 lr'=>
     have h3:=(hc.next z r rfl).2 e0 rfl;rcases aO.1 he with rfl|he
     ·exact h3
     ·rw[h2,hc.eq]at hp;have h4:=(dp.1 (dp.1 hp).2.1).2.1;rw[dH]at h4;exact λ h5=>h3 (lE _ _ _ (h4.1 e he) h5)
   rcases aG.1 ha with ha|ha
   ·exact h7 e (by rw[hc.eq];exact cM _ he) a ha
   ·exact abY ((hz z r rfl).2 a ha) hze
 ·intro Ub;rw[List.any_append,Bool.or_eq_false_iff]at Ub;rw[hd,h8 Ub.1];rcases hv with⟨_,e⟩|⟨_,_,e⟩
  ·rw[e]
  ·rw[e]at Ub;cases Ub.2
theorem Ei.fin{V:List (Pv aH)}(h:Ei all d l0 its [] V lr)(r:cF):(V.any (λ p=> !p.Lc)=false->Ua all r its l0 [.kept r])/\(V.any (λ p=> !p.Lc)=true->Ua all r its l0 V):=by obtain⟨A,B,l1,h1,h2,h3,h4,h5,_,_,h8,h9⟩:=h;cases h3;rw[h9 rfl,cj]at h2;rw[cj]at h1;subst h1 h2;exact⟨λ e=>.inl ⟨rfl,h8 e⟩, λ e=>.inr ⟨h4,h5,e⟩⟩
theorem Ei.LB{V:List (Pv aH)}(h:Ei all d l0 its ks V lr):V.length<=its.length/\lr.length<=l0.length:=by obtain⟨A,B,l1,h1,h2,_,_,h5,_⟩:=h;rw[h1,h2];simp only[ar];omega
theorem yD:∀{l:List eH} {its:List aH} {z:aH},z∈dW its l->z∈its\/∃x∈l,z=uH x
 |[],_,_,h=>.inl h
 |x::l,its,z,h=>by
  rw[dW]at h;rcases aG.1 h with h|h
  ·exact .inl (List.takeWhile_subset _ h)
  ·rcases aG.1 h with h|h
   ·split at h
    ·rw[aE]at h;exact .inr ⟨x,bD,h⟩
    ·cases h
   ·rcases yD h with h|⟨y,hy,h⟩
    ·left;have:∀(l:List aH),∀z∈uq x l,z∈l:= λ l z hz=>by
      cases l with
      |nil=>exact hz
      |cons y r=>
       by_cases hk:y.key=x.key
       ·rw[show uq x (y::r)=r from if_pos hk]at hz;exact bM _ hz
       ·rw[show uq x (y::r)=y::r from if_neg hk]at hz;exact hz
     exact List.dropWhile_subset _ (this _ _ h)
    ·exact .inr ⟨y,bM _ hy,h⟩
theorem Gz(h:cR (l.map eH.key)):(l.map Ac).Pairwise λ a b=>lj a.key b.key:=by rw[gU];intro i j hi hj hij;rw[List.getElem_map,List.getElem_map];rw[aR]at hi hj;exact h.lt hij (by rw[aW,aB hi];rfl) (by rw[aW,aB hj];rfl)
structure ns(G:Nat->Prop)(W W':World):Prop where
 os:W'.os=W.os
 tape:W'.tape=W.tape
 output:W'.output=W.output
 size:W.heap.size<=W'.heap.size
 block:∀k,k<W.heap.size->¬ G k->W'.heap[k]? =W.heap[k]?
theorem ns.refl(G:Nat->Prop)(W:World):ns G W W:=⟨rfl,rfl,rfl,cH, λ _ _ _=>rfl⟩
theorem ns.T{G:Nat->Prop}{U V W:World}(h:ns G U V)(k:ns G V W):ns G U W:=⟨k.os.T h.os,k.tape.T h.tape,k.output.T h.output,aj h.size k.size, λ i hi hr=>(k.block i (aA hi h.size) hr).T (h.block i hi hr)⟩
theorem ns.bH{G:Nat->Prop}(h:Below W W W'):ns G W W':=⟨h.os,h.tape,h.output,h.size, λ k hk _=>h.block k hk⟩
theorem ns.mono{G G':Nat->Prop}(h:ns G W W')(hg:∀j,G j->G' j):ns G' W W':=⟨h.os,h.tape,h.output,h.size, λ k hk hn=>h.block k hk λ hc=>hn (hg k hc)⟩
theorem ns.below{G:Nat->Prop}(h:ns G W W')(hg:∀j,G j->n<=j)(hn:n<=W.heap.size):Below n W W':=⟨h.os,h.tape,h.output,h.size, λ k hk=>h.block k an λ hc=>cm (hg k hc)⟩
theorem ns.pull{G G':Nat->Prop}(hb:Below w w W)(h:ns G' W W')(hg:∀j,G' j->G j\/w.heap.size<=j):ns G w W':=
 ⟨h.os.T hb.os,h.tape.T hb.tape,h.output.T hb.output,aj hb.size h.size, λ k hk hn=>(h.block k (aA hk hb.size) λ hc=>(hg k hc).elim hn an).T (hb.block k hk)⟩
def St(G:Nat->Prop)(W:World)(P:World->Prop):Prop:=∀W',ns G W W'->P W'
theorem St.here{G:Nat->Prop}(h:St G W P):P W:=h W (ns.refl _ _)
theorem St.go{G:Nat->Prop}(h:St G W P)(ho:ns G W W'):St G W' P:= λ V hV=>h V (ho.T hV)
theorem St.pull{G G':Nat->Prop}{w W:World}{P:World->Prop}(h:St G w P)(hb:Below w w W)(hg:∀j,G' j->G j\/w.heap.size<=j):St G' W P:= λ V hV=>h V (ns.pull hb hV hg)
theorem St.imp{G:Nat->Prop}{Q:World->Prop}(h:St G W P)(hi:∀V,P V->Q V):St G W Q:= λ V hV=>hi V (h V hV)
theorem St.free(hP:∀V,Below W W V->P V):St (λ _=>False) W P:= λ V hV=>hP V (hV.below (λ _ h=>h.elim) (cH))
theorem xM{G:Nat->Prop}{a:az}{xs:List Nat}(h:ay w a xs)(hf:eZ n a)(hb:Below w w W)(hg:∀j,G j->j<n\/w.heap.size<=j):St G W λ V=>ay V a xs:= λ V hV=>by
 refine⟨h.1,?_⟩;rcases h.2 with h0|⟨C,o,e,hc⟩
 ·exact .inl h0
 ·refine .inr ⟨C,o,e, λ j x hx=>?_⟩;have h1:=hc j x hx;have cL:C<w.heap.size:=aZ w _ h1;have hn:n<=C:=hf _ e;refine(bq (w:=w) ((hV.block C (aA cL hb.size) λ hc=>?_).T (hb.block C cL))).T h1;have:=hg C hc;omega
theorem ab4{β:Type}{f:β->List Value}{sz:Nat}{G:Nat->Prop}{n₀ e k:Nat}{a:az}{xs:List β}(h:w.ownsRow n₀ e sz (.slice a k c) k (xs.flatMap f))(hf:∀x,(f x).length=sz)(kA:0<sz)(hb:Below w w W)(hg:∀j,G j->j<n₀\/w.heap.size<=j):St G W λ V=>cV f sz V a xs:= λ V hV=>by
 refine cV.kM (iF h λ g jk=>?_) hf kA;rcases bg h with⟨h1,_⟩|⟨g2,cur,h1,h2,h3⟩
 ·rw[jk]at h1;cases h1
 ·rw[jk]at h1;cases h1;have cL:=(cS h3).1;exact(hV.block g (aA cL hb.size) λ hc=>cm (hg g hc)).T (hb.block g cL)
abbrev rT(q:az)(j:Nat):Prop:=q=some ⟨j,0,none⟩
section
variable {α : Type}
structure BK(K:AY α)(TP:TypeId)(G:Nat->Prop)(w W:World)(q:az)(k':Nat)(ps:List (Pc α)):Prop where
 base:Below w w W
 low:∀j,G j->j<w.heap.size
 row:W.ownsRow w TP 11 (.slice q ps.length k') ps.length (ps.flatMap Pc.cells)
 each:∀p∈ps,St (λ j=>G j\/rT q j) W λ V=>Ab K V p
theorem BK.start{K:AY α}{G:Nat->Prop}(hl:∀j,G j->j<w.heap.size):BK K TP G w w none 0 []:=⟨gb,hl,dA _ _ _ _, λ p hp=>(by cases hp)⟩
theorem BK.GP{K:AY α}{G:Nat->Prop}{q:az}{ps:List (Pc α)}(h:BK K TP G w W q k' ps){j:Nat}(hj:rT q j):w.heap.size<=j/\j<W.heap.size:=by
 rcases bg h.row with⟨h1,_⟩|⟨g2,cur,h1,h2,h3⟩
 ·rw[show q=_ from hj]at h1;cases h1
 ·rw[show q=_ from hj]at h1;cases h1;exact⟨h2,(cS h3).1⟩
theorem BK.other{K:AY α}{G:Nat->Prop}{q:az}{ps:List (Pc α)}(h:BK K TP G w W q k' ps)(hb:Below W W W'):BK K TP G w W' q k' ps:=
 ⟨h.base.T (hb.mono h.base.size),h.low,dC.row (n₀:=w.heap.size) hb h.row, λ p hp=>(h.each p hp).go (ns.bH hb)⟩
theorem BK.WR{P:Program}{K:AY α}{TS:TypeId}{z:Value}{bytes:Nat}(ht:P.underlying TS=some (.slice TP))(vw:(P.info? TP).map (λ i=>(i.zero,i.size,i.bytes))=some (some z,11,bytes))(vT:z.cells.size=11)(iL:bytes<=4096)
 {G:Nat->Prop}{q:az}{ps:List (Pc α)}(h:BK K TP G w W q k' ps){a:az}{rs:List (Pc α)}(hr:eU K W a c rs)(ma:∀p∈rs,St (λ j=>G j\/rT q j) W λ V=>Ab K V p)(hk:ps.length+rs.length<=1000000):
 ∃a' c' w',(Builtin.append_ #[TS,TS] TS (fP q ps.length k' a rs.length c)).run P W= .ok (.slice a' (ps.length+rs.length) c') w'/\BK K TP G w w' a' c' (ps++rs)/\Below w W w':=by
 obtain⟨a',c',w',eh,It,hg⟩:=mg (P:=P) TS TP z 11 bytes ht vw vT de (W:=W) (src:=a) (m:=rs.length) (cc:=c) (news:=rs.flatMap Pc.cells) (mR rs) (hr.row.src hr.plain Pc.len de) EO h.row an iL h.base.size hr.nil;refine⟨a',c',w',eh,⟨h.base.T hg.below,h.low,by rw[ar,bV];exact It, λ p hp=>?_⟩,hg.below⟩;have jB:St (λ j=>G j\/rT q j) W λ V=>Ab K V p:=by
  rcases aG.1 hp with e|e
  ·exact h.each p e
  ·exact ma p e
 have iU:∀k,k<W.heap.size->¬ rT q k->w'.heap[k]? =W.heap[k]? := λ k hk hn=>hg.eG k hk λ e=>by
  rcases bg h.row with⟨h1,_⟩|⟨g2,cur,h1,_⟩
  ·rw[h1]at e;simp[Value.ownBlock]at e
  ·rw[h1]at e hn;have:g2=k:=by simpa[Value.ownBlock]using e
   subst this;exact hn rfl
 have DS:∀k,k<W.heap.size->rT a' k->rT q k:= λ k hk ha=>by
  rcases hg.at_ with e|⟨g2,e,h2⟩
  ·rw[show a'=_ from ha]at e;rcases bg h.row with⟨h1,_⟩|⟨g2,cur,h1,_⟩
   ·rw[h1]at e;simp[Value.ownBlock]at e
   ·rw[h1]at e;have:k=g2:=by simpa[Value.ownBlock]using e
    rw[this];exact h1
  ·rw[show a'=_ from ha]at e;have:k=g2:=by simpa[Value.ownBlock]using e
   omega
 intro V hV;refine jB V ⟨hV.os.T hg.below.os,hV.tape.T hg.below.tape,hV.output.T hg.below.output,aj hg.below.size hV.size, λ k hk hn=>?_⟩;have kH:¬ G k:= λ hc=>hn (.inl hc);have pI:¬ rT q k:= λ hc=>hn (.inr hc);exact(hV.block k (aA hk hg.below.size) λ hc=>hc.elim kH λ hc=>pI (DS k hk hc)).T (iU k hk pI)
theorem BK.fin{K:AY α}{G:Nat->Prop}{q:az}{ps:List (Pc α)}(h:BK K TP G w W q k' ps):eU K W q k' ps/\∀p∈ps,St G W λ V=>Ab K V p:=by
 refine⟨⟨cV.kM h.row Pc.len de, λ p hp=>(h.each p hp).here,lQ h.row, λ e=>?_,?_⟩, λ p hp V hV=>h.each p hp V (hV.mono λ j hj=>.inl hj)⟩
 ·rcases h.row.2 with⟨h,_⟩|⟨g,cap,cur,h,_⟩
  ·injection h
  ·subst e;cases h
 ·rcases bg h.row with⟨h,_⟩|⟨g,cur,h,_⟩
  ·exact .inl h
  ·exact .inr ⟨_,_,h⟩
end
theorem uc(h:cR (l.map eH.key))(n:Nat):cR ((l.take n).map eH.key)/\cR ((l.drop n).map eH.key):=by rw[<-bj n l,aJ]at h;exact⟨h.left,h.right⟩
theorem xQ(h:p:=by
 simp only[bF,kS,lh.v,aX,bC];rw[eL (cm HI.O),HMV.O]
 ):p:=h
theorem xR(h:p:=by
 simp only[iM,bF,kS,iT,List.sum_nil,aX,bC];rw[eL (cm HI.O),HMV.O];omega
 ):p:=h
theorem af7(h:p:=by
 have I1:=ag LR;clear LR;intro d
 induction d with
 |zero=>
  intro w b cf hF hW a c ps hP A B r its hv hr hd h50 hl i hi;obtain⟨v1,v2,v3,v4⟩:=RM hv;rw[<-hi]at v1 v2 v3 v4;obtain⟨B0,o0,rfl⟩:=hP.row.some_ an;have hg:=hP.row.get v1;simp only[Pc.cells]at hg;obtain⟨i1,DP⟩:=bL (i+1);rw[<-DP]at v3;have mV:=hP.cap;have HI:=ag (show i<ps.length/\i1=i+1/\ps.length<=c/\ps.length<=500 from⟨v4,DP,mV,an⟩);have hii:(i:Int)<(ps.length:Int):=an;have hi5:(i:Int)<=500:=an;have hde:((r.h:Int)==(ht:Int))=true:=dU;obtain⟨w2,fH⟩:=bL ((w.alloc (.cells (vM r.k.ka r.k.key.length r.k.kc r.k.at_ r.k.count r.h) Ej)).alloc (.cells lG Ej));have bG:Below w w w2:=by rw[fH];go_grown
  have jP:=bu (w2:=w2) mO;have Yw:w2.heap.size=w.heap.size+1+1:=by rw[fH];simp
  have p9:w2.cell? (za w 9)=some (.int .i64 (r.h:Int)):=(af jP.1 9).T rfl;have QM:w2.rangeAt w 1 (lW r.k.ka r.k.key.length r.k.kc r.k.at_ r.k.count r.h):=pk [.bool true] (lW r.k.ka r.k.key.length r.k.kc r.k.at_ r.k.count r.h) [.slice none 0 0] (aF jP.1)
  first
   |(have:=zA;clear this;obtain⟨xs,yL,pz⟩:=T1 hr (cm I1.O))
   |(obtain⟨xs,yL,pz⟩:=Gu (d:=hh) hr (cm I1.O))
  have HG:=dO yL pz;have HOP:=ag (af8 ((hF.below bG)) hm (hW.below bG) r.k.ka r.k.key.length r.k.kc r.k.at_ r.k.count r.h (cm I1.O) yL.node.1 yL.node.2.1);clear yL pz;have HV:=dO v2 v3;have eJ:=oT bG jP Yw fH;have HP:=ag hP;rw[fH]at HOP p9 QM;clear hF hW hP hv hr hd hl hi v1 v2 v3 v4 DP mV bG jP Yw fH;go_enter adU,adV
  go_wp2_with first
   |(refine dG Ej ?_)
   |(refine lU Ej ?_)
   |(refine dG 273 ?_)
   |((with_reducible refine HOP.O.mono ?_);rintro e w3 ⟨ys,ya,yk,gl,rfl,hR,cu⟩;rw[<-eJ.O.2.2.2]at cu hR;have ue:=eS gl hR cu;have n3:=(cu.block (w+1) (by rw[eJ.O.2.2.1];omega)).T eJ.O.2.1.2;have f10:w3.frozen? ⟨w.heap.size+1,10,none⟩=false:=ax n3 10;have c10:w3.cell? (za (w+1) 10)=some (.slice none 0 0):=(af n3 10).T rfl;have HN3:=ag n3;clear gl hR cu n3)
   |fail
  obtain⟨W4,hW4⟩:=bL (w3.setCell (za (w+1) 10) (.slice ya ys.length yk));rw[<-hW4];have cu:Below w2 w2 w3:=ue.O.2.2;have dX:Below w w W4:=by rw[hW4];exact(eJ.O.1.T (cu.mono eJ.O.1.size)).setCell (bk _) _
  have hn4:W4.heap[w.heap.size+1]? =some (.cells (qu ya ys.length yk) Ej):=by rw[hW4,aU _ HN3.O];rfl
  have HP4:=ag (HP.O.below dX);have hR4:af9 W4 w2 ya yk ys:=by rw[hW4];exact aga (λ j hj=>aq w3 ⟨w.heap.size+1,10,none⟩ _ j hj) HN3.O de (λ j x=>by rcases j with _|_|_|_|_|_|_|_|_|_|_|j<;>simp) ue.O.2.1
  have IV:jg Lt W4 ya yk ys:=jg.PN hR4.1 (λ y hy=>(hR4.2 y hy).1);have adW:Hid (eU Lt W4 (zp (w+1)) 1 [.loose ya yk ys]):=ag ⟨.inr ⟨_,_,rfl, λ j x hj=>by
   rcases j with _|j
   ·cases hj;rw[cY,bb];exact aF hn4
   ·simp at hj⟩, λ p hp=>by rw[aE]at hp;subst hp;exact IV,cH, λ e=>fS,.inr ⟨_,_,rfl⟩⟩
  have HMV:Hid ([Pc.loose ya yk ys].length=[Pc.loose ya yk ys].length):=ag rfl;have HML:Hid ([Pc.loose ya yk ys].length<=500/\1<=[Pc.loose ya yk ys].length):=ag cP;have HC:Hid (∀(V:World) (R:Nat),V.rangeAt R 0 (aeZ (some ⟨B0,o0,none⟩) i c (zp (w+1)) [Pc.loose ya yk ys].length 1 (if c=i1 then some ⟨B0,o0,none⟩else some ⟨B0,o0+i1*11,none⟩) (ps.length - i1) (c - i1))->Below W4 W4 V->Calls Tryz.prog adX (sg (zp R) 3 3) V λ e w'=>∃(q:az) (k:Nat),e= .returned (.slice q (i+[Pc.loose ya yk ys].length+(ps.length - i1)) k)/\eU Lt w' q k (ps.take i++([Pc.loose ya yk ys]++ps.drop i1))/\Below W4 W4 w'):=ag (by
   intro V R hR hV;have Yx:([⟨some ⟨B0,o0,none⟩,c,ps.take i⟩,⟨(zp (w+1)),1,[Pc.loose ya yk ys]⟩,⟨if c=i1 then some ⟨B0,o0,none⟩else some ⟨B0,o0+i1*11,none⟩,c - i1,ps.drop i1⟩]:List (lh Ek)).map lh.v=[.slice (some ⟨B0,o0,none⟩) i c,.slice (zp (w+1)) [Pc.loose ya yk ys].length 1,.slice (if c=i1 then some ⟨B0,o0,none⟩else some ⟨B0,o0+i1*11,none⟩) (ps.length - i1) (c - i1)]:=by exact xQ
   have hlen:iM ([⟨some ⟨B0,o0,none⟩,c,ps.take i⟩,⟨(zp (w+1)),1,[Pc.loose ya yk ys]⟩,⟨if c=i1 then some ⟨B0,o0,none⟩else some ⟨B0,o0+i1*11,none⟩,c - i1,ps.drop i1⟩]:List (lh Ek))=i+[Pc.loose ya yk ys].length+(ps.length - i1):=by exact xR
   have qH:([⟨some ⟨B0,o0,none⟩,c,ps.take i⟩,⟨(zp (w+1)),1,[Pc.loose ya yk ys]⟩,⟨if c=i1 then some ⟨B0,o0,none⟩else some ⟨B0,o0+i1*11,none⟩,c - i1,ps.drop i1⟩]:List (lh Ek)).flatMap lh.ps=ps.take i++([Pc.loose ya yk ys]++ps.drop i1):=by simp
   have h5:=adY (w:=V) (R:=R) (rows:=[⟨some ⟨B0,o0,none⟩,c,ps.take i⟩,⟨(zp (w+1)),1,[Pc.loose ya yk ys]⟩,⟨if c=i1 then some ⟨B0,o0,none⟩else some ⟨B0,o0+i1*11,none⟩,c - i1,ps.drop i1⟩]) (by rw[Yx];exact hR) (λ r hr=>by
    simp only[aO,dn,or_false]at hr;rcases hr with rfl|rfl|rfl
    ·exact(HP4.O.take i).below hV
    ·exact adW.O.below hV
    ·exact(HP4.O.RL i1 (cm HI.O)).below hV) cP uz uz
   rw[qH]at h5;refine h5.mono ?_;rintro e w' ⟨q,k,rfl,h6,h7⟩;refine⟨q,k,?_,h6,hV.T (h7.mono hV.size)⟩;rw[<-qH,oG,hlen])
  have gC:(i:Int)<=(c:Int):=cm HI.O;have lH:(i1:Int)<=(ps.length:Int):=cm HI.O;have mK:IntKind.i64.wrap ((i:Int)+1)=(i1:Int):=by have:=HI.O;rw[aI];omega
  have uh:(ps.length:Int)<=(c:Int):=cm HI.O;have hc0:¬ c=0:=cm HI.O;have p9':W4.cell? (za w 9)=some (.int .i64 (r.h:Int)):=by rw[hW4,World.cell?_setCell_other _ _ _ _ (by intro e;injection e;omega)];exact carry cu ((af eJ.O.2.1.1 9).T rfl)
  have pB:=ag dX;simp only[aK,bK,aN]at HC;clear hW4 cu dX hn4 hR4 IV p9 c10 f10;refine bP 11 ?_;refine tP [0,1,2,3,4,5,6,7] ?_
  iterate 8 refine tO ?_
  refine au 3 rfl ?_;refine sP 8 [0,1,2,3,4,5,6,7] λ K hK=>?_;go_simp;refine nP hK ?_;clear hK K;refine sP 9 [0,1,2,3,4,5,6,7,8] λ K hK=>?_;go_simp
  with_reducible refine(HC.O _ _ ?_ ?_).mono ?_
  ·exact aF (ai W4 _)
  ·exact Below.drew (Below.alloc (ah _ W4) (cH) _)
  rintro e w5 ⟨q,k,rfl,hQ,dV⟩;have HQ:=dO hQ dV;clear hQ dV;refine nP hK ?_;clear hK K;refine tP [10] ?_;refine tO ?_;refine au 0 rfl ?_;refine dP ?_;go_simp;generalize(if c=i1 then some (⟨B0,o0,none⟩:Addr)else some ⟨B0,o0+i1*11,none⟩)=tb;have p9:=carry HQ.O.2 p9'
  go_wp2_with fail
  go_ret
  first
   |(have:=zA;clear this;have oK:=T0 HG.O.1 ue.O.1.1 ue.O.1.2)
   |(have oK:=Gt HG.O.1 ue.O.1.1 ue.O.1.2.1 ue.O.1.2.2)
  have hlen:3<=ys.length:=by have:=congrArg List.length ue.O.1.1;simp at this;have:=HG.O.2;omega
  refine⟨ps.take i++([Pc.loose ya yk ys]++ps.drop i1),q,k,?_,[.loose ys],?_,HQ.O.1,oE.leaf hlen oK,pB.O.T (HQ.O.2.mono pB.O.size)⟩
  ·have:(ps.take i++([Pc.loose ya yk ys]++ps.drop i1)).length=i+1+(ps.length - i1):=by
    simp only[ar,aX,bC,aK,bK];rw[eL (cm HI.O)];omega
   rw[this];rfl
  ·rw[aJ,aJ,HV.O.1,HV.O.2];rfl
 |succ d ih=>
  intro w b cf hF hW a c ps hP A B r its hv hr hd h50 hl i hi;obtain⟨v1,v2,v3,v4⟩:=RM hv;rw[<-hi]at v1 v2 v3 v4;obtain⟨B0,o0,rfl⟩:=hP.row.some_ an;have hg:=hP.row.get v1;simp only[Pc.cells]at hg;obtain⟨i1,DP⟩:=bL (i+1);rw[<-DP]at v3;have mV:=hP.cap;have HI:=ag (show i<ps.length/\i1=i+1/\ps.length<=c/\ps.length<=500/\ps.length+6*(d+1)<=500/\i=A.length from⟨v4,DP,mV,an,hl,hi⟩);have hii:(i:Int)<(ps.length:Int):=an;have hi5:(i:Int)<=500:=an;have hde:((r.h:Int)==(ht:Int))=false:=dU;obtain⟨w2,fH⟩:=bL ((w.alloc (.cells (vM r.k.ka r.k.key.length r.k.kc r.k.at_ r.k.count r.h) Ej)).alloc (.cells lG Ej));have bG:Below w w w2:=by rw[fH];go_grown
  have jP:=bu (w2:=w2) mO;have Yw:w2.heap.size=w.heap.size+1+1:=by rw[fH];simp
  have p9:w2.cell? (za w 9)=some (.int .i64 (r.h:Int)):=(af jP.1 9).T rfl;have QM:w2.rangeAt w 1 (lW r.k.ka r.k.key.length r.k.kc r.k.at_ r.k.count r.h):=pk [.bool true] (lW r.k.ka r.k.key.length r.k.kc r.k.at_ r.k.count r.h) [.slice none 0 0] (aF jP.1);obtain⟨dd,hdd⟩:=bL (ht+d);obtain⟨xs,yL,pz⟩:=Gu (d:=dd) hr an;have uW:=gM.mE yL.node.2.1;have HG:=G2 yL pz uW hdd (show r.h=dd+1/\r.h<=50 by omega);have HOP:=ag (FV (hF.below bG) hm (hW.below bG) r.k.ka r.k.key.length r.k.kc r.k.at_ r.k.count dd r.h an an yL.node.1 yL.node.2.1);have HIH:=ag (λ (V:World) (hV:Below w w V) (a':az) (c':Nat) (eQ:List (Pc Ek)) (h1:eU Lt V a' c' eQ) (A' B':List (Pv Ek)) (r':cF) (aif:List KV) (h2:eQ.map Pc.val=A'++.kept r'::B') (h3:fV (aw ey) r' aif) (h4:r'.h=ht+d) (h50:r'.h<=50) (h5:eQ.length+6*d<=500) (i':Nat) (h6:i'=A'.length)=>ih (hF.below hV) (hW.below hV) h1 h2 h3 h4 h50 h5 i' h6);have HV:=dO v2 v3;have eJ:=oT bG jP Yw fH;have HP:=ag hP;rw[fH]at HOP p9 QM;clear hF hW hP hv hr hd hl hi v1 v2 v3 v4 DP mV bG jP Yw fH yL pz uW ih hdd;go_enter adU,adV
  go_wp2_with first
   |(refine dG Ej ?_)
   |(refine lU Ej ?_)
   |(refine dG 273 ?_)
   |((with_reducible refine HOP.O.mono ?_);rintro e w3 ⟨ys,ya,yk,gl,rfl,hR,cu⟩;rw[<-eJ.O.2.2.2]at cu hR;have ue:=eS gl (FR.at hR) cu;clear gl hR cu)
   |fail
  have QE:ys.length=xs.length:=by have:=congrArg List.length ue.O.1.1;simpa using this
  have SW:(ys.length:Int)<=6:=cm HG.O.2.2.1;have HYX:=ag QE;clear QE
  go_loopw [14,41] (λ rv iv wr=>∃(j:Nat) (ms:List (Pc Ek)) (q:az) (k':Nat),j<=ys.length/\iv= .int .i64 (j:Int)/\rv= .slice q j k'/\Hid (ms.length=j)/\Hid (ms.map Pc.val=iW ((ys.take j).map λ y=>⟨y,dd⟩))/\Hid (td Lt Yy Ej w3 wr q k' ms)) (λ _ iv _=>ys.length - (intOf iv).toNat)
  case atStart=>exact⟨0,[],none,0,an,rfl,rfl,ag rfl,ag rfl,ag ⟨gb,dA _ _ _ _, λ p hp=>by cases hp⟩⟩
  case round=>
   obtain⟨j,ms,q,k',hj,rfl,rfl,BP,Il,hP2⟩:=hrel;by_cases cL:j<ys.length
   ·obtain⟨y,hy⟩:∃y,ys[j]? =some y:=⟨ys[j],by simp[cL]⟩;have hyr:(ys.map λ y=>(⟨y,dd⟩:cF))[j]? =some ⟨y,dd⟩:=by rw[aW,hy];rfl
    obtain⟨Br,o,rfl⟩:=ue.O.2.1.row.some_ zB;have hg:wr.rangeAt Br (o+j*9) (lW y.ka y.key.length y.kc y.at_ y.count dd):=(ue.O.2.1.row.below hP2.O.base).get hyr;have mn:(j:Int)<(ys.length:Int):=an;have zP:(j:Int)<=6:=an;obtain⟨V,hV⟩:=bL (wr.alloc (.cells (lW y.ka y.key.length y.kc y.at_ y.count dd) 273));have pg:Below wr wr V:=by rw[hV];go_grown
    have Hq:V.heap.size=wr.heap.size+1:=by rw[hV];simp
    have pD:V.heap[wr.heap.size]? =some (.cells (lW y.ka y.key.length y.kc y.at_ y.count dd) 273):=qK hV;have ru:=aF (W:=V) (B:=wr.heap.size) (cs:=(lW y.ka y.key.length y.kc y.at_ y.count dd)) (t:=273) pD;have zh:=hP2.O.other pg;have gN:=ue.O.2.1.keys _ (ak hyr);obtain⟨g',c',w',eh,DA⟩:=zh.put (P:=Tryz.prog) (TS:=abr) (z:=(.agg lG)) (bytes:=120) bU abt rfl de de (.kept ⟨y,dd⟩) gN (by rw[BP.O];omega);have HN:Hid (td Lt Yy Ej w3 w' (zp g') c' (ms++[.kept ⟨y,dd⟩])):=ag DA;have Ng:Hid ((ms++[(.kept ⟨y,dd⟩:Pc Ek)]).map Pc.val=iW ((ys.take (j+1)).map λ y=>⟨y,dd⟩)):=ag (by rw[aL,hy,aJ,Il.O];simp[iW,Pc.val]);have DU:Hid ((ms++[(.kept ⟨y,dd⟩:Pc Ek)]).length=j+1):=ag zz;rw[BP.O,Hq]at eh;simp only[Pc.cells,List.toArray]at eh;rw[hV]at ru eh;clear hy hyr hV pg Hq pD zh gN DA
    go_wp2_with first
     |(refine dG 273 ?_)
     |(refine lU 273 ?_)
     |fail
    exact rN
   ·obtain rfl:j=ys.length:=an;obtain⟨W4,hW4⟩:=bL wr;rw[<-hW4]at hP2⊢;clear hW4;have cu:Below w2 w2 w3:=ue.O.2.2;have pV:Below w2 w2 W4:=cu.T (hP2.O.base.mono cu.size);have dX:Below w w W4:=eJ.O.1.T (pV.mono eJ.O.1.size);have HP4:=ag (HP.O.below dX);have mq:=hP2.O.fin;have adW:Hid (eU Lt W4 q k' ms):=ag mq;obtain⟨m,Zp⟩:=bL ys.length;rw[<-Zp]at BP⊢;have RK:m<=6/\3<=m:=Ig HYX.O HG.O.2.1 HG.O.2.2.1;have HMV:Hid (ms.length=m):=BP;have HML:Hid (m<=500/\1<=m):=ag an;have adZ:=Il.O;rw[bd]at adZ;have HPV:=ag adZ;have ZK:=dO RK Zp;have HC:Hid (∀(V:World) (R:Nat),V.rangeAt R 0 (aeZ (some ⟨B0,o0,none⟩) i c q m k' (if c=i1 then some ⟨B0,o0,none⟩else some ⟨B0,o0+i1*11,none⟩) (ps.length - i1) (c - i1))->Below W4 W4 V->Calls Tryz.prog adX (sg (zp R) 3 3) V λ e w'=>∃(q:az) (k:Nat),e= .returned (.slice q (i+m+(ps.length - i1)) k)/\eU Lt w' q k (ps.take i++(ms++ps.drop i1))/\Below W4 W4 w'):=ag (by
     intro V R hR hV;have Yx:([⟨some ⟨B0,o0,none⟩,c,ps.take i⟩,⟨q,k',ms⟩,⟨if c=i1 then some ⟨B0,o0,none⟩else some ⟨B0,o0+i1*11,none⟩,c - i1,ps.drop i1⟩]:List (lh Ek)).map lh.v=[.slice (some ⟨B0,o0,none⟩) i c,.slice q m k',.slice (if c=i1 then some ⟨B0,o0,none⟩else some ⟨B0,o0+i1*11,none⟩) (ps.length - i1) (c - i1)]:=by exact xQ
     have hlen:iM ([⟨some ⟨B0,o0,none⟩,c,ps.take i⟩,⟨q,k',ms⟩,⟨if c=i1 then some ⟨B0,o0,none⟩else some ⟨B0,o0+i1*11,none⟩,c - i1,ps.drop i1⟩]:List (lh Ek))=i+m+(ps.length - i1):=by exact xR
     have qH:([⟨some ⟨B0,o0,none⟩,c,ps.take i⟩,⟨q,k',ms⟩,⟨if c=i1 then some ⟨B0,o0,none⟩else some ⟨B0,o0+i1*11,none⟩,c - i1,ps.drop i1⟩]:List (lh Ek)).flatMap lh.ps=ps.take i++(ms++ps.drop i1):=by simp
     have h5:=adY (w:=V) (R:=R) (rows:=[⟨some ⟨B0,o0,none⟩,c,ps.take i⟩,⟨q,k',ms⟩,⟨if c=i1 then some ⟨B0,o0,none⟩else some ⟨B0,o0+i1*11,none⟩,c - i1,ps.drop i1⟩]) (by rw[Yx];exact hR) (λ r hr=>by
      simp only[aO,dn,or_false]at hr;rcases hr with rfl|rfl|rfl
      ·exact(HP4.O.take i).below hV
      ·exact adW.O.below hV
      ·exact(HP4.O.RL i1 (cm HI.O)).below hV) cP uz uz
     rw[qH]at h5;refine h5.mono ?_;rintro e w' ⟨q,k,rfl,h6,h7⟩;refine⟨q,k,?_,h6,hV.T (h7.mono hV.size)⟩;rw[<-qH,oG,hlen])
    have gC:(i:Int)<=(c:Int):=cm HI.O;have lH:(i1:Int)<=(ps.length:Int):=cm HI.O;have mK:IntKind.i64.wrap ((i:Int)+1)=(i1:Int):=by have:=HI.O;rw[aI];omega
    have uh:(ps.length:Int)<=(c:Int):=cm HI.O;have hc0:¬ c=0:=cm HI.O;have p9':W4.cell? (za w 9)=some (.int .i64 (r.h:Int)):=carry pV ((af eJ.O.2.1.1 9).T rfl);have pB:=ag dX;have zH:((m:Int)==0)=false:=dU;obtain⟨i2,Y1⟩:=bL (i+m);obtain⟨i3,Ja⟩:∃i3,i3+1=i2:=⟨i2 - 1,an⟩;have B6:IntKind.i64.wrap ((i:Int)+(m:Int))=(i2:Int):=by have:=HI.O;rw[aI];omega
    have uV:IntKind.i64.wrap ((i2:Int) - 1)=(i3:Int):=by have:=HI.O;rw[aI];omega
    have HI3:=dO Y1 Ja;clear cu pV dX mq p9 BP Il RK Zp adZ Y1 Ja hP2 SW
    go_wp2_with fail
    refine bP 11 ?_;refine tP [0,1,2,3,4,5,6,7] ?_
    iterate 8 refine tO ?_
    refine au 3 rfl ?_;refine sP 8 [0,1,2,3,4,5,6,7] λ K hK=>?_;go_simp;refine nP hK ?_;clear hK K;refine sP 9 [0,1,2,3,4,5,6,7,8] λ K hK=>?_;go_simp
    with_reducible refine(HC.O _ _ ?_ ?_).mono ?_
    ·exact aF (ai W4 _)
    ·exact Below.drew (Below.alloc (ah _ W4) (cH) _)
    rintro e w5 ⟨q,k,rfl,hQ,dV⟩;have HQ:=dO hQ dV;clear hQ dV;refine nP hK ?_;clear hK K;refine tP [10] ?_;refine tO ?_;refine au 0 rfl ?_;refine dP ?_;go_simp;generalize(if c=i1 then some (⟨B0,o0,none⟩:Addr)else some ⟨B0,o0+i1*11,none⟩)=tb;have p9:=carry HQ.O.2 p9';have hVQ:(ps.take i++(ms++ps.drop i1)).map Pc.val=A++(iW (ys.map λ y=>⟨y,dd⟩)++B):=by rw[aJ,aJ,HV.O.1,HV.O.2,HPV.O]
    have hLQ:(ps.take i++(ms++ps.drop i1)).length=i+m+(ps.length - i1):=by simp only[ar,aX,bC];rw[eL (cm HI.O),HMV.O];omega
    have acD:(ps.take i++(ms++ps.drop i1)).length+6*d<=500:=by rw[hLQ];have:=HI.O;have:=ZK.O;omega
    have oK:cq (wQ (aw ey) dd) ys its:=Gt HG.O.1 ue.O.1.1 ue.O.1.2.1 ue.O.1.2.2;have dV:Below w w w5:=pB.O.T (HQ.O.2.mono pB.O.size)
    first
     |(have:=zA;clear this;have Yz:0<=dd:=iX HG.O.2.2.2.1 I1.O)
     |(have Yz:(hh+1)<=dd:=iX HG.O.2.2.2.1 I1.O)
    have hym:ys.length=m:=ZK.O.2.symm;cases first with
    |true=>
     rcases ys with _|⟨y0,yr⟩
     ·have:=ZK.O.1;simp at hym;omega
     obtain⟨s0,sr,Xa,Lh,rfl⟩:=oK;have HR:=ag (HIH.O _ dV _ _ _ HQ.O.1 A (iW (yr.map λ y=>⟨y,dd⟩)++B) ⟨y0,dd⟩ s0 (by rw[hVQ];rfl) Xa HG.O.2.2.2.1 (by have:=HG.O.2.2.2.2;show dd<=50;omega) acD i HI.O.2.2.2.2.2);rw[hLQ]at HR;have HS:=eS Lh dV Yz;clear hVQ hLQ acD Xa Lh dV Yz
     go_wp2_with first
      |((with_reducible refine HR.O.mono ?_);rintro e w6 ⟨qs,q',kq,sa,rfl,py,pK,yV,OJ⟩;have HZ:=oT py pK yV OJ;clear py pK yV OJ)
      |fail
     go_ret;exact⟨qs,q',kq,sa++iW (yr.map λ y=>⟨y,dd⟩),rfl,by rw[HZ.O.1];simp,HZ.O.2.1,oE.first HS.O.2.2 HZ.O.2.2.1 HS.O.1,HS.O.2.1.T (HZ.O.2.2.2.mono HS.O.2.1.size)⟩
    |false=>
     rcases dD ys with h0|⟨yr,y0,rfl⟩
     ·subst h0;have:=ZK.O.1;simp at hym;omega
     rw[eF]at*;obtain⟨sr,s0,Lh,agb,rfl⟩:=cq.app.1 oK;have Xa:=cq.one.1 agb;have HR:=ag (HIH.O _ dV _ _ _ HQ.O.1 (A++iW (yr.map λ y=>⟨y,dd⟩)) B ⟨y0,dd⟩ s0 (by rw[hVQ];simp[iW]) Xa HG.O.2.2.2.1 (by have:=HG.O.2.2.2.2;show dd<=50;omega) acD i3 (by have:=HI3.O;have:=HI.O.2.2.2.2.2;simp[iW]at hym⊢;omega));rw[hLQ]at HR;have HS:=eS Lh dV Yz;clear hVQ hLQ acD Xa agb Lh dV Yz
     go_wp2_with first
      |((with_reducible refine HR.O.mono ?_);rintro e w6 ⟨qs,q',kq,sa,rfl,py,pK,yV,OJ⟩;have HZ:=oT py pK yV OJ;clear py pK yV OJ)
      |fail
     go_ret;exact⟨qs,q',kq,iW (yr.map λ y=>⟨y,dd⟩)++sa,rfl,by rw[HZ.O.1];simp,HZ.O.2.1,oE.last HS.O.2.2 HZ.O.2.2.1 HS.O.1,HS.O.2.1.T (HZ.O.2.2.2.mono HS.O.2.1.size)⟩):p:=h
namespace zsaA
abbrev Ej:=Mk.mk 275
abbrev adX:=Mk.mk 238
abbrev Yy:=Mk.mk 101
abbrev abr:=Mk.mk 270
theorem zA:True:=trivial
end zsaA
section
open zsaA
open Go.Proofs.YtbiififbfefkjaaGreatDoor renaming PJ → af8, iQ → af9, r9 → Lt, aH → Ek, OI → adY, yx → abt
open Go.Proofs.Tryz renaming func216 → adU, ntmps216 → adV
open Go.Proofs.YtbiififbfefkjaaGreatDoor.iQ renaming Di → aga
theorem DH(Bw:Nat)(ey:List Piece)(hm:Marks (aw ey))(first:Bool)(ht:Nat)(LR:ht=0):∀(d:Nat) {w:World} {b:az} {cf:Nat} (_:aQ w b cf ey) (_:lB w Bw b ey.length cf) {a:az} {c:Nat} {ps:List (Pc aH)} (_:eU r9 w a c ps) {A B:List (Pv aH)} {r:cF} {its:List KV} (_:ps.map Pc.val=A++.kept r::B) (_:fV (aw ey) r its) (_:r.h=ht+d) (_:r.h<=50) (_:ps.length+6*d<=500) (i:Nat) (_:i=A.length),
 Calls Tryz.prog 216 (aeY (zp Bw) a ps.length c i ht first (.func (.func 160) (iS (zp Bw)) #[])) w λ e w'=>∃(qs:List (Pc aH)) (q:az) (k:Nat) (sa:List (Pv aH)),e= .returned (.slice q qs.length k)/\qs.map Pc.val=A++(sa++B)/\eU r9 w' q k qs/\oE (aw ey) Ho 0 first its sa/\Below w w w':=af7
end
theorem rU(h:p:=by
 rw[I0.O,Hq]at eh;simp only[Pc.cells,List.toArray]at eh;rw[hV]at ru eh p0 LA;clear hV pg Hq pD zh QN DA
 go_wp2_with first
  |(refine dG uT ?_)
  |(refine lU uT ?_)
  |fail
 exact⟨⟨j+1,_,_,_,_,an,by simp,rfl,DU,Ng,HN,ag (cm hnj.O)⟩,by have:=HJ.O;simp[intOf];omega⟩
 ):p:=h
theorem agc(h:p:=by
 have HP:=ag hP;have HBD:=ag hb;have SW:(ps.length:Int)<=1000:=an;clear hP hb;go_enter agd,age
 go_wp2_with fail
 go_loopw [3,10] (λ rv iv wr=>∃(j:Nat) (qs:List (Pc xS)) (q:az) (k' n:Nat),j<=ps.length/\iv= .int .i64 (j:Int)/\rv= .slice q n k'/\Hid (qs.length=n)/\Hid (qs.map Pc.val=((ps.take j).map Pc.val).foldl dB [])/\Hid (td GR acE uT w wr q k' qs)/\Hid (n<=j)) (λ _ iv _=>ps.length - (intOf iv).toNat)
 case atStart=>exact⟨0,[],none,0,0,an,rfl,rfl,ag rfl,ag rfl,ag ⟨gb,dA _ _ _ _, λ p hp=>by cases hp⟩,ag (cH)⟩
 case round=>
  obtain⟨j,qs,q,k',n,hj,rfl,rfl,I0,ZM,hP,hnj⟩:=hrel;by_cases cL:j<ps.length
  ·obtain⟨p,hp⟩:∃p,ps[j]? =some p:=⟨ps[j],by simp[cL]⟩;obtain⟨B,o,rfl⟩:=HP.O.row.some_ an;have mn:(j:Int)<(ps.length:Int):=an;have zP:(j:Int)<=1000:=an;have QN:=ak hp;have HJ:=ag cL;have HT:Hid ((ps.take (j+1)).map Pc.val=(ps.take j).map Pc.val++[p.val]):=ag (by rw[aL,hp];simp);rcases p with r|⟨pa,pc,ys⟩
   ·have hg:wr.rangeAt B (o+j*11) (vM r.k.ka r.k.key.length r.k.kc r.k.at_ r.k.count r.h):=(HP.O.row.below hP.O.base).get hp;obtain⟨V,hV⟩:=bL (wr.alloc (.cells (vM r.k.ka r.k.key.length r.k.kc r.k.at_ r.k.count r.h) uT));have pg:Below wr wr V:=by rw[hV];go_grown
    have Hq:V.heap.size=wr.heap.size+1:=by rw[hV];simp
    have pD:V.heap[wr.heap.size]? =some (.cells (vM r.k.ka r.k.key.length r.k.kc r.k.at_ r.k.count r.h) uT):=qK hV;have ru:=aF (W:=V) (B:=wr.heap.size) (cs:=(vM r.k.ka r.k.key.length r.k.kc r.k.at_ r.k.count r.h)) (t:=uT) pD;have p0:V.cell? (za wr 0)=some (.bool true):=(af pD 0).T rfl;have LA:V.cell? (za wr 10)=some (.slice none 0 0):=(af pD 10).T rfl;have zh:=hP.O.other pg;clear hp;obtain⟨g',c',w',eh,DA⟩:=zh.put (P:=Tryz.prog) (TS:=acF) (z:=(.agg lG)) (bytes:=120) bU acG rfl de de (.kept r) (Rv.of (HP.O.each _ QN)) (iX I0.O hnj.O);have HN:=ag DA;have Ng:Hid ((qs++[(.kept r:Pc xS)]).map Pc.val=((ps.take (j+1)).map Pc.val).foldl dB []):=ag (by rw[HT.O,dY,<-ZM.O,aJ];exact rfl);have DU:Hid ((qs++[(.kept r:Pc xS)]).length=n+1):=ag zC;exact rU
   ·rcases ys with _|⟨y0,ys0⟩
    ·have hg:wr.rangeAt B (o+j*11) (qu pa 0 pc):=(HP.O.row.below hP.O.base).get hp;obtain⟨V,hV⟩:=bL (wr.alloc (.cells (qu pa 0 pc) uT));have pg:Below wr wr V:=by rw[hV];go_grown
     have HPV:=ag (hP.O.other pg);have Ng:Hid (qs.map Pc.val=((ps.take (j+1)).map Pc.val).foldl dB []):=ag (by rw[HT.O,dY,<-ZM.O];rfl);rw[hV]at HPV;clear hV pg QN hp
     go_wp2_with first
      |(refine dG uT ?_)
      |(refine lU uT ?_)
      |fail
     exact⟨⟨j+1,_,_,_,_,HJ.O,by simp,rfl,I0,Ng,HPV,ag (cm hnj.O)⟩,by have:=HJ.O;simp[intOf];omega⟩
    ·obtain⟨ys,yO⟩:=bL (y0::ys0);rw[<-yO]at hp QN HT;have tt:1<=ys.length:=by rw[yO];simp
     have I5:ys.length<=1000:=aj (Nq (aM.2 ⟨_,QN,rfl⟩)) HBD.O;have hy0:((ys.length:Int)==0)=false:=by rw[beq_eq_false_iff_ne];omega
     have ajF:¬ ys.length=0:=an;have ajG:(ys.length==0)=false:=by rw[beq_eq_false_iff_ne];omega
     have HY:=dO tt I5;clear yO tt I5;have hg:wr.rangeAt B (o+j*11) (qu pa ys.length pc):=(HP.O.row.below hP.O.base).get hp;obtain⟨V,hV⟩:=bL (wr.alloc (.cells (qu pa ys.length pc) uT));have pg:Below wr wr V:=by rw[hV];go_grown
     have Hq:V.heap.size=wr.heap.size+1:=by rw[hV];simp
     have pD:V.heap[wr.heap.size]? =some (.cells (qu pa ys.length pc) uT):=qK hV;have ru:=aF (W:=V) (B:=wr.heap.size) (cs:=(qu pa ys.length pc)) (t:=uT) pD;have p0:V.cell? (za wr 0)=some (.bool false):=(af pD 0).T rfl;have LA:V.cell? (za wr 10)=some (.slice pa ys.length pc):=(af pD 10).T rfl;have zh:=hP.O.other pg;clear hp;rcases PO (qs:=qs)with rfl|⟨o2,r2,rfl⟩|⟨o2,za,zc,zs,rfl⟩
     ·obtain rfl:n=0:=by have:=I0.O;simpa using this.symm
      obtain⟨qs,hqs⟩:∃qs:List (Pc xS),qs=[]:=⟨_,rfl⟩;have HQ:Hid (qs=[]):=ag hqs;rw[<-hqs]at I0 ZM hP zh;obtain⟨g',c',w',eh,DA⟩:=zh.put (P:=Tryz.prog) (TS:=acF) (z:=(.agg lG)) (bytes:=120) bU acG rfl de de (.loose pa pc ys) (Rv.of (HP.O.each _ QN)) (iX I0.O hnj.O);have HN:=ag DA;have Ng:Hid ((qs++[(.loose pa pc ys:Pc xS)]).map Pc.val=((ps.take (j+1)).map Pc.val).foldl dB []):=ag (by rw[HT.O,dY,<-ZM.O,aJ];exact(gj HY.O.1 (.inl (by rw[HQ.O];rfl))).symm);have DU:Hid ((qs++[(.loose pa pc ys:Pc xS)]).length=0+1):=ag zC;exact rU
     ·obtain⟨m,rfl⟩:∃m,n=m+1:=⟨o2.length,by rw[<-I0.O];simp⟩;obtain⟨g,XU⟩:∃g,q=some ⟨g,0,none⟩:=by
       rcases bg hP.O.row with⟨_,h,_⟩|⟨g,_,h,_⟩
       ·simp at h
       ·exact⟨g,h⟩
      subst XU;have UE:o2.length=m:=by have:=I0.O;simpa using this
      have qH:(o2++[(Pc.kept r2:Pc xS)]).flatMap Pc.cells=o2.flatMap Pc.cells++(Pc.kept r2:Pc xS).cells:=by simp
      have hz:= λ (i:Nat) (hi:i<11)=>F0 (i:=m*11+i) zh.row qS;have Lj:∀(i:Nat) (hi:i<11),((o2++[(Pc.kept r2:Pc xS)]).flatMap Pc.cells)[m*11+i]'qS=(Pc.kept r2:Pc xS).cells[i]'(by rw[Pc.len];exact hi):= λ i hi=>by simp only[qH];rw[List.getElem_append_right zD];congr 1;rw[mR,UE];omega
      have z0:V.cell? ⟨g,m*11,none⟩=some (.bool true):=((hz 0 de).1).T (by rw[Lj 0 de];rfl);obtain⟨qs,hqs⟩:∃qs:List (Pc xS),qs=o2++[.kept r2]:=⟨_,rfl⟩;have HQ:Hid (qs=o2++[.kept r2]):=ag hqs;have hmi:IntKind.i64.wrap (m:Int)=(m:Int):=by rw[aI];have:=hnj.O;omega
      have zH:(0:Int)<(m:Int)+1:=an;rw[<-hqs]at I0 ZM hP zh;clear UE hqs qH hz Lj;rw[hV]at z0;obtain⟨g',c',w',eh,DA⟩:=zh.put (P:=Tryz.prog) (TS:=acF) (z:=(.agg lG)) (bytes:=120) bU acG rfl de de (.loose pa pc ys) (Rv.of (HP.O.each _ QN)) (iX I0.O hnj.O);have HN:=ag DA;have Ng:Hid ((qs++[(.loose pa pc ys:Pc xS)]).map Pc.val=((ps.take (j+1)).map Pc.val).foldl dB []):=ag (by rw[HT.O,dY,<-ZM.O,aJ];exact(gj HY.O.1 (.inr ⟨_,r2,by rw[HQ.O,aJ];rfl⟩)).symm);have DU:Hid ((qs++[(.loose pa pc ys:Pc xS)]).length=m+1+1):=ag zC;exact rU
     ·obtain⟨m,rfl⟩:∃m,n=m+1:=⟨o2.length,by rw[<-I0.O];simp⟩;obtain⟨g,XU⟩:∃g,q=some ⟨g,0,none⟩:=by
       rcases bg hP.O.row with⟨_,h,_⟩|⟨g,_,h,_⟩
       ·simp at h
       ·exact⟨g,h⟩
      subst XU;have UE:o2.length=m:=by have:=I0.O;simpa using this
      have qH:(o2++[Pc.loose za zc zs]).flatMap Pc.cells=o2.flatMap Pc.cells++(Pc.loose za zc zs).cells:=by simp
      have hz:= λ (i:Nat) (hi:i<11)=>F0 (i:=m*11+i) zh.row qS;have Lj:∀(i:Nat) (hi:i<11),((o2++[Pc.loose za zc zs]).flatMap Pc.cells)[m*11+i]'qS=(Pc.loose za zc zs).cells[i]'(by rw[Pc.len];exact hi):= λ i hi=>by simp only[qH];rw[List.getElem_append_right zD];congr 1;rw[mR,UE];omega
      have z0:V.cell? ⟨g,m*11,none⟩=some (.bool false):=((hz 0 de).1).T (by rw[Lj 0 de];rfl);have z10:V.cell? ⟨g,m*11+10,none⟩=some (.slice za zs.length zc):=((hz 10 de).1).T (by rw[Lj 10 de];rfl);have hzj:Rv GR acE w w V (.loose za zc zs):=zh.each _ cP;have hzL:jg GR V za zc zs:=hzj.fin zh.base;have hyL:jg GR V pa pc ys:=(HP.O.each _ QN).below zh.base;have hgz:∀y∈zs,(GR).oJ w y:=by
       rcases hzj with h|⟨_,h⟩
       ·exact h.oJ
       ·exact h
      have hzl:zs.length<=1000:=by
       have h1:dQ ((o2++[Pc.loose za zc zs]).map Pc.val)<=dQ (ps.map Pc.val):=by
        rw[ZM.O,Cz,dQ,aN]
        conv=>rhs;rw[<-bj j ps,aJ,fR]
        omega
       exact aj (Nq (aM.2 ⟨.loose za zc zs,by simp,rfl⟩)) (aj h1 HBD.O)
      have vT:=hzL.row.src hzL.plain (GR).fsz (GR).pos;have PT:=hyL.row.src hyL.plain (GR).fsz (GR).pos
      first
       |(have:=zA;clear this;obtain⟨cap,w',eh,mV,kW,mz⟩:=Dp (P:=Tryz.prog) 91 101 (.agg oH) 4 64 bU mF rfl (W:=V.drew) (b:=za) (src:=pa) (k:=zs.length) (m:=ys.length) (cc:=pc) (by exact AZ r9 zs) vT (by exact AZ r9 ys) PT (cm HY.O.1) (iX HY.O.2 hzl) de)
       |(obtain⟨cap,w',eh,mV,kW,mz⟩:=Dp (P:=Tryz.prog) 142 144 (.agg qq) 8 80 bU KB rfl (W:=V.drew) (b:=za) (src:=pa) (k:=zs.length) (m:=ys.length) (cc:=pc) (by exact AZ Ay zs) vT (by exact AZ Ay ys) PT (cm HY.O.1) (iX HY.O.2 hzl) de)
      rw[show V.drew.heap.size=wr.heap.size+1 from Hq]at eh kW;have QI:w.heap.size<=g:=by
       rcases bg zh.row with⟨h,_⟩|⟨g2,_,h,h2,_⟩
       ·cases h
       ·cases h;exact h2
      obtain⟨agf,hgb⟩:∃agf,V.heap[g]? =some (.cells agf uT (0,0)):=by
       rcases bg zh.row with⟨h,_⟩|⟨g2,gc,h,_,h3⟩
       ·cases h
       ·cases h;exact⟨gc,h3⟩
      have YA:Below V V w':=((ah _ V).drew).T mz;have hgw:=(YA.block g (cS hgb).1).T hgb;have YB:w'.ownsRow w uT 11 (.slice (zp g) (o2++[Pc.loose za zc zs]).length k') (o2++[Pc.loose za zc zs]).length ((o2++[Pc.loose za zc zs]).flatMap Pc.cells):=dC.row (n₀:=w.heap.size) YA zh.row;have hwc:=F0 (i:=m*11+10) YB qS;have hot:jI uT V (w'.setCell ⟨g,m*11+10,none⟩ (.slice (zp (wr+1)) (zs.length+ys.length) cap)):=(jI.bH YA).T (jI.set hgw _);have c0:w'.cell? ⟨g,m*11+10,none⟩=some (.slice za zs.length zc):=hwc.1.T (by rw[Lj 10 de];rfl);have c1:w'.frozen? ⟨g,m*11+10,none⟩=false:=hwc.2;have HN:Hid (td GR acE uT w (w'.setCell ⟨g,m*11+10,none⟩ (.slice (zp (wr+1)) (zs.length+ys.length) cap)) (zp g) k' (o2++[.loose (zp (wr+1)) cap (zs++ys)])):=ag (by
       refine⟨(zh.base.T (YA.mono zh.base.size)).setCell (p:=⟨g,m*11+10,none⟩) QI _,?_, λ p hp=>?_⟩
       ·have h1:=aal (i:=m*11+10) YB (.slice (zp (wr+1)) (zs.length+ys.length) cap);have h2:((o2++[Pc.loose za zc zs]).flatMap Pc.cells).set (m*11+10) (.slice (zp (wr+1)) (zs.length+ys.length) cap)=(o2++[(Pc.loose (zp (wr+1)) cap (zs++ys):Pc xS)]).flatMap Pc.cells:=by
         rw[qH,List.set_append_right _ _ zD,mR,UE,show m*11+10 - m*11=10 by omega];simp[Pc.cells]
        rw[h2]at h1;simpa using h1
       ·rcases aG.1 hp with e|e
        ·exact(zh.each p (cG _ e)).other hot de
        ·rw[aE]at e;subst e;refine .inr ⟨?_, λ y hy=>?_⟩
         ·have h3:=(jI.set (i:=m*11+10) hgw (.slice (zp (wr+1)) (zs.length+ys.length) cap)).row de kW;rw[bV,ar];exact me h3 (cm zh.base.size)
         ·rcases aG.1 hy with e|e
          ·exact hgz y e
          ·exact(HP.O.each _ QN).oJ y e)
      have Ng:Hid ((o2++[(.loose (zp (wr+1)) cap (zs++ys):Pc xS)]).map Pc.val=((ps.take (j+1)).map Pc.val).foldl dB []):=ag (by rw[HT.O,dY,<-ZM.O,aJ,aJ];exact(iz HY.O.1).symm)
      have DU:Hid ((o2++[(.loose (zp (wr+1)) cap (zs++ys):Pc xS)]).length=m+1):=ag (by simp[UE]);have hmi:IntKind.i64.wrap (m:Int)=(m:Int):=by rw[aI];have:=hnj.O;omega
      have zH:(0:Int)<(m:Int)+1:=an;have hzc:zs.length<=zc:=hzL.cap;have Mg:(m:Int)<(m:Int)+1:=an;rw[hV]at ru eh p0 LA z0 z10;clear hV pg Hq pD zh QN qH hz Lj hzj hzL hyL hgz hzl vT PT mV kW mz QI hgb YA hgw YB hwc hot UE I0 ZM hP
      go_wp2_with first
       |(refine dG uT ?_)
       |(refine lU uT ?_)
       |fail
      refine bP 15 ?_;refine tP [0,1,2,3,4,5,6,7,8,9,10] ?_
      iterate 11 refine tO ?_
      refine au 4 rfl ?_;refine sP 11 [3,4,5,6,7,8,9,10] λ K hK=>?_;go_simp;refine nP hK ?_;clear hK K;refine tP [12,13] ?_
      iterate 2 refine tO ?_
      refine au 1 rfl ?_;refine sP 14 [0,1,2,3,4,5,6,7,8,9,10,11,12,13] λ K hK=>?_;go_simp;refine nP hK ?_;clear hK K;refine dP ?_;go_simp
      go_wp2_with fail
      exact⟨⟨j+1,_,_,_,_,an,by simp,rfl,DU,Ng,HN,ag (cm hnj.O)⟩,by have:=HJ.O;simp[intOf];omega⟩
  ·obtain rfl:j=ps.length:=an
   go_wp2_with fail
   go_ret;refine⟨qs,q,k',by rw[I0.O];rfl,by rw[ZM.O,bd];rfl,hP.O.fin,hP.O.base⟩):p:=h
namespace zscA
abbrev acE:=Mk.mk 101
abbrev uT:=Mk.mk 275
abbrev acF:=Mk.mk 270
theorem zA:True:=trivial
end zscA
section
open zscA
open Go.Proofs.Tryz renaming func215 → agd, ntmps215 → age
open Go.Proofs.YtbiififbfefkjaaGreatDoor renaming aH → xS, r9 → GR, yx → acG
theorem DI{a:az}{ps:List (Pc aH)}(hP:eU r9 w a c ps)(hl:ps.length<=1000)(hb:dQ (ps.map Pc.val)<=1000):
 Calls Tryz.prog 215 (sg a ps.length c) w λ e w'=>∃(qs:List (Pc aH)) (q:az) (k:Nat),e= .returned (.slice q qs.length k)/\qs.map Pc.val=su (ps.map Pc.val)/\eU r9 w' q k qs/\Below w w w':=agc
end
theorem yF:∀(x:aH) (s:List KV),Ho x s->1<=s.length:= λ _ s h=>by unfold Ho at h;rw[h];exact cH
theorem xT(h:p:=by
 rw[hV]at p0 LA jG;clear hV PK
 go_wp2_with first
  |(refine dG GS ?_)
  |(refine lU GS ?_)
  |fail
 exact⟨⟨i+1,an,by simp,rfl,jG,Zr⟩,by simp[intOf];omega⟩
 ):p:=h
theorem xU(h:p:=by
 go_wp2_with first
  |(refine dG GS ?_)
  |(refine lU GS ?_)
  |((with_reducible refine HO.O.mono ?_);rintro e w5 ⟨qs2,q2,k2,sa,rfl,py,pK,yV,OJ⟩;have LN:=E4.O sa yV;rw[<-HVV.O]at OJ;have dV:Below w w w5:=ad0.O.T (OJ.mono ad0.O.size);have ri:qs2.length<=200:=by have h1:=LN.2.1;rw[<-py,aR]at h1;have:=Z6.O;omega
    have Pj:dQ (qs2.map Pc.val)<=200:=by have h1:=yC acH LN.1;rw[<-py]at h1;have:=Z6.O;omega
    have LD:=ag (ad1 pK an an);have HQ2:=eS py LN dV;clear py pK yV OJ LN dV ri Pj)
  |((with_reducible refine LD.O.mono ?_);rintro e w6 ⟨qs3,q3,k3,rfl,PM,Td,hj3⟩;have HJ3:=eS PM Td hj3;clear PM Td hj3)
  |fail
 refine⟨⟨qs3,q3,k3,rfl,ag HJ3.O.2.1,ag ?_,ag (HQ2.O.2.2.T (HJ3.O.2.2.mono HQ2.O.2.2.size))⟩,?_⟩
 ·rw[HJ3.O.1,HQ2.O.1];exact HR.O.next HQ2.O.2.1.1 HQ2.O.2.1.2.2.2
 ·show BA _ (.slice q3 qs3.length k3)<BA _ (.slice (some ⟨B0,o0,none⟩) qs.length k0);rw[JO HJ3.O.2.1,JO HP.O,HJ3.O.1,HQ2.O.1];exact HQ2.O.2.1.2.2.1
 ):p:=h
theorem agh(h:p:=by
 have I1:=ag LR;have HM:=ag hm;have Z6:=ag kz;have CX:=dO hF hW;have Pj:dQ (ps.map Pc.val)<=200:=cm (yC acH hs);have HJ:=ag (ad1 hP an an);have rB:=ag (rM.start hs);have SW:(ps.length:Int)<=200:=an;clear LR hm kz hF hW hP hs Pj;go_enter agi,agj
 go_wp2_with fail
 go_step3
 go_wp2_with first
  |((with_reducible refine HJ.O.mono ?_);rintro e w1 ⟨qs,q,k0,rfl,PM,Td,hj3⟩;have Se:=eS PM Td hj3;clear PM Td hj3)
  |fail
 go_step3
 go_wp2_with fail
 first
  |(have:=zA;clear this
    go_loopw [1] (λ rv wr=>∃(qs:List (Pc aH)) (q:az) (k:Nat),rv= .slice q qs.length k/\Hid (eU r9 wr q k qs)/\Hid (rM (aw ey) Ho 0 (ps.map Pc.val) (qs.map Pc.val) its)/\Hid (Below w w wr)) (λ rv wr=>BA wr rv))
  |(go_loopw [1] (λ rv wr=>∃(qs:List (Pc a8)) (q:az) (k:Nat),rv= .slice q qs.length k/\Hid (eU Ay wr q k qs)/\Hid (rM (aw ey) (wQ (aw ey) hh) (hh+1) (ps.map Pc.val) (qs.map Pc.val) its)/\Hid (Below w w wr)) (λ rv wr=>BA wr rv))
 case atStart=>exact⟨qs,q,k0,rfl,ag Se.O.2.1,ag (by rw[Se.O.1];exact rB.O),ag Se.O.2.2⟩
 case round=>
  obtain⟨W1,rfl⟩:=bL wr;obtain⟨qs,q,k0,rfl,HP,HR,r7⟩:=hrel;have abu:qs.length<=200:=by have h1:=HR.O.len acH;rw[aR]at h1;have:=Z6.O;omega
  have hq6:(qs.length:Int)<=200:=an;have c5:W1.cell? (za Bw 5)=some (.int .i64 0):=(af (CX.O.2.below r7.O) 5).T rfl;by_cases h1:qs.length<=1
  ·have hgt:decide ((1:Int)<(qs.length:Int))=false:=dU;have aih:decide (1<qs.length)=false:=dU;have aii:¬ (1:Int)<(qs.length:Int):=an;have H1:=ag h1;clear h1
   go_wp2_with fail
   go_ret;exact⟨qs,q,k0,rfl,HP.O,HR.O,.inr H1.O,r7.O⟩
  ·have hgt:decide ((1:Int)<(qs.length:Int))=true:=dU;have aih:decide (1<qs.length)=true:=dU;have aii:(1:Int)<(qs.length:Int):=an;have DU:=ag (show 1<qs.length/\qs.length<=200 by omega);obtain⟨B0,o0,rfl⟩:=HP.O.row.some_ an;clear h1 abu
   go_wp2_with fail
   go_loopw [1,25] (λ tv iv W2_=>∃i:Nat,i<=qs.length/\iv= .int .i64 (i:Int)/\tv= .slice (some ⟨B0,o0,none⟩) qs.length k0/\Hid (Below W1 W1 W2_)/\Hid (∀(j:Nat) (p:Pv ad2),j<i->(qs.map Pc.val)[j]? =some p->isSmall p=false)) (λ _ iv _=>qs.length - (intOf iv).toNat)
   case atStart=>exact⟨0,an,rfl,rfl,ag (gb),ag (λ j p hj=>an)⟩
   case round=>
    obtain⟨i,hi,rfl,rfl,fH,mr⟩:=hrel;by_cases cL:i<qs.length
    ·obtain⟨p,hp⟩:∃p,qs[i]? =some p:=⟨qs[i],by simp[cL]⟩;have Il:(qs.map Pc.val)[i]? =some p.val:=by rw[aW,hp];rfl
     have mn:(i:Int)<(qs.length:Int):=an;have zP:(i:Int)<=200:=an;have PK:isSmall p.val=false->∀(j:Nat) (p':Pv ad2),j<i+1->(qs.map Pc.val)[j]? =some p'->isSmall p'=false:= λ h j p' hj hp'=>by
      rcases cX j i with h2|h2
      ·exact mr.O j p' h2 hp'
      ·obtain rfl:j=i:=an;rw[Il]at hp';cases hp';exact h
     have PK:=ag PK;rcases p with r|⟨pa,pc,ys⟩
     ·have hg:wr.rangeAt B0 (o0+i*11) (vM r.k.ka r.k.key.length r.k.kc r.k.at_ r.k.count r.h):=(HP.O.row.below fH.O).get hp;obtain⟨V,hV⟩:=bL (wr.alloc (.cells (vM r.k.ka r.k.key.length r.k.kc r.k.at_ r.k.count r.h) GS));have pg:Below wr wr V:=by rw[hV];go_grown
      have vA:Below W1 W1 V:=fH.O.T (pg.mono fH.O.size);have pD:V.heap[wr.heap.size]? =some (.cells (vM r.k.ka r.k.key.length r.k.kc r.k.at_ r.k.count r.h) GS):=qK hV;have p0:V.cell? (za wr 0)=some (.bool true):=(af pD 0).T rfl;have LA:V.cell? (za wr 10)=some (.slice none 0 0):=(af pD 10).T rfl;have jG:=ag vA;clear hp Il pg vA pD;have Zr:=ag (PK.O rfl);exact xT
     ·by_cases hy:3<=ys.length
      ·have vW:decide ((3:Int)<=(ys.length:Int))=true:=dU;have aij:(3:Int)<=(ys.length:Int):=an;have hg:wr.rangeAt B0 (o0+i*11) (qu pa ys.length pc):=(HP.O.row.below fH.O).get hp;obtain⟨V,hV⟩:=bL (wr.alloc (.cells (qu pa ys.length pc) GS));have pg:Below wr wr V:=by rw[hV];go_grown
       have vA:Below W1 W1 V:=fH.O.T (pg.mono fH.O.size);have pD:V.heap[wr.heap.size]? =some (.cells (qu pa ys.length pc) GS):=qK hV;have p0:V.cell? (za wr 0)=some (.bool false):=(af pD 0).T rfl;have LA:V.cell? (za wr 10)=some (.slice pa ys.length pc):=(af pD 10).T rfl;have jG:=ag vA;have Zr:=ag (PK.O (by simp[isSmall,Pc.val];omega));clear hp Il pg vA pD hy;exact xT
      ·have vW:decide ((3:Int)<=(ys.length:Int))=false:=dU;have aij:¬ (3:Int)<=(ys.length:Int):=an;have Zc:Hid (ys.length<3):=ag an;obtain⟨i1,DP⟩:=bL (i+1);have mK:IntKind.i64.wrap ((i:Int)+1)=(i1:Int):=by rw[aI];omega
       have Q5:=ag DP;have hg:wr.rangeAt B0 (o0+i*11) (qu pa ys.length pc):=(HP.O.row.below fH.O).get hp;obtain⟨V,hV⟩:=bL (wr.alloc (.cells (qu pa ys.length pc) GS));have pg:Below wr wr V:=by rw[hV];go_grown
       have vA:Below W1 W1 V:=fH.O.T (pg.mono fH.O.size);have pD:V.heap[wr.heap.size]? =some (.cells (qu pa ys.length pc) GS):=qK hV;have p0:V.cell? (za wr 0)=some (.bool false):=(af pD 0).T rfl;have LA:V.cell? (za wr 10)=some (.slice pa ys.length pc):=(af pD 10).T rfl;have jG:=ag vA;by_cases zK:i1<qs.length
       ·have hli:(i1:Int)<(qs.length:Int):=an;clear DP hy PK;obtain⟨A,r,B,a1,sy,s1,sb,so,UQ,gC,lH,mK,uh,B6,uV⟩:=T2 HR.O.Pa HR.O.tidy Il (by rw[aR];have:=Q5.O;omega);have QO:r.h<=50:=Oh mK E1;have mz:Below w w V:=r7.O.T (vA.mono r7.O.size)
        first
         |(have:=zA;clear this;have HO:=ag (DH Bw ey HM.O true ht I1.O (r.h - ht) (CX.O.1.below mz) (CX.O.2.below mz) (HP.O.below vA) (A:=A++[Pv.loose ys]) (B:=B) (r:=r) (its:=s1) (by rw[so];simp) mK (cm I1.O) QO (cm DU.O) i1 (by simp[UQ,Q5.O])))
         |(have HO:=ag (DJ Bw ey HM.O true ht hh I1.O (r.h - ht) (CX.O.1.below mz) (CX.O.2.below mz) (HP.O.below vA) (A:=A++[Pv.loose ys]) (B:=B) (r:=r) (its:=s1) (by rw[so];simp) mK (cm I1.O) QO (cm DU.O) i1 (by simp[UQ,Q5.O])))
        first
         |(have:=zA;clear this;have E4:=ag (λ (sa:List (Pv aH)) (yV:oE (aw ey) Ho 0 true s1 sa)=>Gw yF HR.O.tidy so Zc.O gC lH yV B6 uV))
         |(have E4:=ag (λ (sa:List (Pv a8)) (yV:oE (aw ey) (wQ (aw ey) hh) (hh+1) true s1 sa)=>Gw BM HR.O.tidy so Zc.O gC lH yV B6 uV))
        have ad0:=ag mz;have HVV:=ag hV;rw[hV]at p0 LA HO;clear hp Il hV pg vA pD so gC lH mK uh B6 uV QO mz UQ;exact xU
       ·have hli:¬ (i1:Int)<(qs.length:Int):=an;obtain⟨i0,vw⟩:∃i0,i0+1=i:=⟨i - 1,by have:=DU.O;omega⟩;have uh:IntKind.i64.wrap ((i:Int) - 1)=(i0:Int):=by rw[aI];omega
        have Yn:=ag vw;clear DP hy PK;obtain⟨A,r,a1,s1,sy,so,UQ,gC,lH,mK,aik,uV⟩:=XB (i:=i0) HR.O.Pa HR.O.tidy (by rw[Yn.O];exact Il) (by rw[aR];have:=Yn.O;have:=Q5.O;omega);have QO:r.h<=50:=Oh mK E1;have mz:Below w w V:=r7.O.T (vA.mono r7.O.size)
        first
         |(have:=zA;clear this;have HO:=ag (DH Bw ey HM.O false ht I1.O (r.h - ht) (CX.O.1.below mz) (CX.O.2.below mz) (HP.O.below vA) (A:=A) (B:=[Pv.loose ys]) (r:=r) (its:=s1) so mK (cm I1.O) QO (cm DU.O) i0 an))
         |(have HO:=ag (DJ Bw ey HM.O false ht hh I1.O (r.h - ht) (CX.O.1.below mz) (CX.O.2.below mz) (HP.O.below vA) (A:=A) (B:=[Pv.loose ys]) (r:=r) (its:=s1) so mK (cm I1.O) QO (cm DU.O) i0 an))
        first
         |(have:=zA;clear this;have E4:=ag (λ (sa:List (Pv aH)) (yV:oE (aw ey) Ho 0 false s1 sa)=>JN yF HR.O.tidy so Zc.O gC lH yV uV))
         |(have E4:=ag (λ (sa:List (Pv a8)) (yV:oE (aw ey) (wQ (aw ey) hh) (hh+1) false s1 sa)=>JN BM HR.O.tidy so Zc.O gC lH yV uV))
        have ad0:=ag mz;have HVV:=ag hV;rw[hV]at p0 LA HO;clear hp Il hV pg vA pD so gC lH mK aik uV QO mz UQ;exact xU
    ·obtain rfl:i=qs.length:=an;have HZ:Hid (dT (qs.map Pc.val)=0):=ag (T4 λ j p hj hp=>mr.O j p (by simpa using hj) hp)
     go_wp2_with fail
     rw[fo];go_ret;exact⟨qs,_,k0,rfl,HP.O.below fH.O,HR.O,.inl HZ.O,r7.O.T (fH.O.mono r7.O.size)⟩):p:=h
namespace zsdA
abbrev GS:=Mk.mk 275
theorem zA:True:=trivial
end zsdA
section
open zsdA
open Go.Proofs.YtbiififbfefkjaaGreatDoor renaming yF → acH, DI → ad1, aH → ad2
open Go.Proofs.Tryz renaming func198 → agi, ntmps198 → agj
theorem Ur(Bw:Nat)(ey:List Piece)(hm:Marks (aw ey))(ht:Nat)(LR:ht=0){b:az}{cf:Nat}(hF:aQ w b cf ey)(hW:lB w Bw b ey.length cf){a:az}{ps:List (Pc aH)}(hP:eU r9 w a c ps)(hs:cq (uf (aw ey) Ho 0) (ps.map Pc.val) its)(hl:ps.length<=200)(kz:its.length<=200):
 Calls Tryz.prog 198 (ae0 (zp Bw) a ps.length c ht (.func (.func 160) (iS (zp Bw)) #[])) w λ e w'=>∃(qs:List (Pc aH)) (q:az) (k:Nat),e= .returned (.slice q qs.length k)/\eU r9 w' q k qs/\rM (aw ey) Ho 0 (ps.map Pc.val) (qs.map Pc.val) its/\(dT (qs.map Pc.val)=0\/qs.length<=1)/\Below w w w':=agh
end
namespace zscB
abbrev acE:=Mk.mk 144
abbrev uT:=Mk.mk 325
abbrev acF:=Mk.mk 282
end zscB
section
open zscB
open Go.Proofs.Tryz renaming func218 → agd, ntmps218 → age
open Go.Proofs.YtbiififbfefkjaaGreatDoor renaming a8 → xS, Ay → GR, A0 → acG
theorem ON{a:az}{ps:List (Pc a8)}(hP:eU Ay w a c ps)(hl:ps.length<=1000)(hb:dQ (ps.map Pc.val)<=1000):
 Calls Tryz.prog 218 (sg a ps.length c) w λ e w'=>∃(qs:List (Pc a8)) (q:az) (k:Nat),e= .returned (.slice q qs.length k)/\qs.map Pc.val=su (ps.map Pc.val)/\eU Ay w' q k qs/\Below w w w':=agc
end
end
end Go.Proofs.YtbiififbfefkjaaGreatDoor

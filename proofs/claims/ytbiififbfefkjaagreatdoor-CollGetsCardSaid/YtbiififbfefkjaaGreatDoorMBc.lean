/- The store, part 29. -/
import Derived.Test.YtbiififbfefkjaaGreatDoorMAz
import Derived.Test.YtbiififbfefkjaaGreatDoorMBa
import Derived.Test.YtbiififbfefkjaaGreatDoorMBb
set_option linter.unusedSimpArgs false
set_option linter.unusedVariables false
set_option maxRecDepth 100000
set_option maxHeartbeats 16000000
namespace Go.Proofs.YtbiififbfefkjaaGreatDoor
open Go.RowKit Go.Shelf
variable{p:Prop}{U V V':World}{R:Nat}{t:TypeId}{es ls:List bX}{y:bX}{s:ByteArray}
section
attribute [local go_sem] Oper.semAt_some
attribute [-go_sem] Builtin.append_
theorem YQ(w:World):Calls Tryz.prog 12 #[] w λ e w'=>e= .returned (.agg ac0)/\Below w w w':=by
 go_enter Tryz.func12,Tryz.ntmps12
 go_wp2_with fail
 refine bodyPost_ret (v:=.agg ac0) iq bp ⟨rfl,?_⟩;go_grown
def DZ:AB:=⟨none,0,0,0,0,0,0,0,0,0,0,0,0⟩
def ZS(D:AB)(V:World):Prop:=D.g=1/\D.m<4294967296/\D.q=1/\D.er=0/\∃(ps:List Piece) (GH:Nat),D.k=ps.length/\aQ V D.b D.c ps/\Marks (aw ps)/\(aw ps).length<=8000/\gD (aw ps) D.a1 D.d1 D.c1 D.a2 D.d2 D.c2 1 [⟨[97],1,D.m,1,false,GH,7⟩]
def PD2(D:AB)(_:World):Prop:=D.er=300
theorem abD(U:World):WkP U ZS:=
 ⟨λ D V V' ⟨h1,h2,h3,h4,ps,GH,h5,h6,h7⟩ hb=>⟨h1,h2,h3,h4,ps,GH,h5,h6.below hb,h7⟩,
  λ D V V' R cs t hR ⟨h1,h2,h3,h4,ps,GH,h5,h6,h7⟩ hc h8 hs hk=>⟨h1,h2,h3,h4,ps,GH,h5,dZ (g:=R) (λ j _ dN=>hk j dN) h6 (GG h6 hc h8 hs),h7⟩⟩
theorem aeQ(U:World):WkP U PD2:=⟨λ _ _ _ h _=>h, λ _ _ _ _ _ _ _ h _ _ _ _=>h⟩
theorem abE{a b c d:Prop}(h0:a)(h1:b)(h2:c)(h3:d)(h:a->b->c->d->p:=by
 intro k0 k1 k2 k3;refine⟨⟨⟨⟨⟨⟨⟨⟨⟨⟨⟨⟨⟨⟨⟨⟨⟨True.intro,k0⟩,k1⟩,k2⟩,k3⟩,?_⟩,?_⟩,?_⟩,?_⟩,?_⟩,?_⟩,?_⟩,?_⟩,?_⟩,?_⟩,?_⟩,?_⟩,?_⟩
 ·intro o ho;cases ho;intro L vs V hL hw fh ⟨D,B0,B1,B2,hJ⟩ KK hK;have HJ:=ag hJ;have n5:L 5=false:=se λ e=>by have:=fh 5 4 bU (e);rw[hL]at this;cases this
  have n6:L 6=false:=se λ e=>by have:=fh 5 4 bU (fh 6 5 bU (e));rw[hL]at this;cases this
  have n7:L 7=false:=se λ e=>by have:=fh 5 4 bU (fh 7 5 bU (e));rw[hL]at this;cases this
  have n8:L 8=false:=se λ e=>by have:=fh 5 4 bU (fh 8 5 bU (e));rw[hL]at this;cases this
  have n9:L 9=false:=se λ e=>by have:=fh 5 4 bU (fh 9 5 bU (e));rw[hL]at this;cases this
  have n13:L 13=false:=se λ e=>by have:=fh 13 4 bU (e);rw[hL]at this;cases this
  have n14:L 14=false:=se λ e=>by have:=fh 14 4 bU (e);rw[hL]at this;cases this
  have n15:L 15=false:=se λ e=>by have:=fh 15 4 bU (e);rw[hL]at this;cases this
  have n16:L 16=false:=se λ e=>by have:=fh 16 4 bU (e);rw[hL]at this;cases this
  have HN:=hI9 n5 n6 n7 n8 n9 n13 n14 n15 (n16);clear n5 n6 n7 n8 n9 n13 n14 n15 n16;have h0:=HJ.O.v0 (hw 0 bU);have h1:=HJ.O.v1 (hw 1 bU);have h2:=HJ.O.v2 (hw 2 bU);have h3:=HJ.O.v3 (hw 3 bU);clear hJ hw fh hL;go_simp;(with_reducible refine(HPU.O _ HJ.O.lV).mono ?_);rintro e V2 ⟨D',rfl,hP,hb⟩;exact hK.out (sK (sK (sK (sK (sK vs 0 _) 1 _) 2 _) 3 _) 4 _) _ ⟨D',B0,B1,B2,{HJ.O.grow HP.O hb with v0:= λ _=>rfl,v1:= λ _=>rfl,v2:= λ _=>rfl,v3:= λ _=>rfl,v4:= λ _=>⟨rfl,hP⟩,v5:= λ e=>Ll HN.O.1 e,v6:= λ e=>Ll HN.O.2.1 e,v7:= λ e=>Ll HN.O.2.2.1 e,v8:= λ e=>Ll HN.O.2.2.2.1 e,v9:= λ e=>Ll HN.O.2.2.2.2.1 e,v16:= λ e=>Ll HN.O.2.2.2.2.2.2.2.2 e,a0:= λ e=>⟨((HJ.O.grow HP.O hb).a0 e).1,((HJ.O.grow HP.O hb).a0 e).2.1,((HJ.O.grow HP.O hb).a0 e).2.2.1,((HJ.O.grow HP.O hb).a0 e).2.2.2.1, λ e=>Ll HN.O.2.2.2.2.2.1 e⟩,a1:= λ e=>⟨((HJ.O.grow HP.O hb).a1 e).1,((HJ.O.grow HP.O hb).a1 e).2.1,((HJ.O.grow HP.O hb).a1 e).2.2.1,((HJ.O.grow HP.O hb).a1 e).2.2.2.1, λ e=>Ll HN.O.2.2.2.2.2.2.1 e⟩,a2:= λ e=>⟨((HJ.O.grow HP.O hb).a2 e).1,((HJ.O.grow HP.O hb).a2 e).2.1,((HJ.O.grow HP.O hb).a2 e).2.2.1,((HJ.O.grow HP.O hb).a2 e).2.2.2.1, λ e=>Ll HN.O.2.2.2.2.2.2.2.1 e⟩}⟩
 ·intro o ho;cases ho;intro L vs V hL hw fh ⟨D,B0,B1,B2,hJ⟩ KK hK;have HJ:=ag hJ;have h4:=(HJ.O.v4 (hw 4 bU)).1;clear hJ hw fh hL;go_simp;exact hK.out (sK (sK vs 4 _) 5 _) _ ⟨D,B0,B1,B2,{HJ.O with v4:= λ e=>⟨rfl,(HJ.O.v4 e).2⟩,v5:= λ _=>rfl}⟩
 ·intro o ho;cases ho;intro L vs V hL hw fh ⟨D,B0,B1,B2,hJ⟩ KK hK;have HJ:=ag hJ;have h5:=HJ.O.v5 (hw 5 bU);clear hJ hw fh hL;go_simp;exact hK.out (sK (sK vs 5 _) 6 _) _ ⟨D,B0,B1,B2,{HJ.O with v5:= λ _=>rfl,v6:= λ _=>rfl}⟩
 ·intro o ho;cases ho;intro L vs V hL hw fh ⟨D,B0,B1,B2,hJ⟩ KK hK;have HJ:=ag hJ;have h5:=HJ.O.v5 (hw 5 bU);clear hJ hw fh hL;go_simp;exact hK.out (sK (sK vs 5 _) 7 _) _ ⟨D,B0,B1,B2,{HJ.O with v5:= λ _=>rfl,v7:= λ _=>rfl}⟩
 ·intro o ho;cases ho;intro L vs V hL hw fh ⟨D,B0,B1,B2,hJ⟩ KK hK;have HJ:=ag hJ;have h5:=HJ.O.v5 (hw 5 bU);clear hJ hw fh hL;go_simp;exact hK.out (sK (sK vs 5 _) 8 _) _ ⟨D,B0,B1,B2,{HJ.O with v5:= λ _=>rfl,v8:= λ _=>rfl}⟩
 ·intro o ho;cases ho;intro L vs V hL hw fh ⟨D,B0,B1,B2,hJ⟩ KK hK;have HJ:=ag hJ;have h5:=HJ.O.v5 (hw 5 bU);clear hJ hw fh hL;go_simp;exact hK.out (sK (sK vs 5 _) 9 _) _ ⟨D,B0,B1,B2,{HJ.O with v5:= λ _=>rfl,v9:= λ _=>rfl}⟩
 ·intro o ho;cases ho;intro L vs V hL hw fh ⟨D,B0,B1,B2,hJ⟩ KK hK;have HJ:=ag hJ;have n13:L 13=false:=se λ e=>by have:=fh 13 10 bU (e);rw[hL]at this;cases this
  have HN:=ag (n13);clear n13;clear hJ hw fh hL;go_simp;exact hK.out (sK vs 10 _) _ ⟨D,V.heap.size,B1,B2,{HJ.O.grow HP.O ((ah _ V).alloc (cH) _)with a0:= λ _=>⟨rfl,HJ.O.lV.size,by simp, λ _=>ai _ _, λ e=>Ll HN.O e⟩}⟩
 ·intro o ho;cases ho;intro L vs V hL hw fh ⟨D,B0,B1,B2,hJ⟩ KK hK;have HJ:=ag hJ;have n14:L 14=false:=se λ e=>by have:=fh 14 11 bU (e);rw[hL]at this;cases this
  have HN:=ag (n14);clear n14;clear hJ hw fh hL;go_simp;exact hK.out (sK vs 11 _) _ ⟨D,B0,V.heap.size,B2,{HJ.O.grow HP.O ((ah _ V).alloc (cH) _)with a1:= λ _=>⟨rfl,HJ.O.lV.size,by simp, λ _=>ai _ _, λ e=>Ll HN.O e⟩}⟩
 ·intro o ho;cases ho;intro L vs V hL hw fh ⟨D,B0,B1,B2,hJ⟩ KK hK;have HJ:=ag hJ;have n15:L 15=false:=se λ e=>by have:=fh 15 12 bU (e);rw[hL]at this;cases this
  have HN:=ag (n15);clear n15;clear hJ hw fh hL;go_simp;exact hK.out (sK vs 12 _) _ ⟨D,B0,B1,V.heap.size,{HJ.O.grow HP.O ((ah _ V).alloc (cH) _)with a2:= λ _=>⟨rfl,HJ.O.lV.size,by simp, λ _=>ai _ _, λ e=>Ll HN.O e⟩}⟩
 ·intro o ho;cases ho;intro L vs V hL hw fh ⟨D,B0,B1,B2,hJ⟩ KK hK;have HJ:=ag hJ;have hk:=hw 10 bU;have hA:=HJ.O.a0 hk;have hv:=HJ.O.v6 (hw 6 bU);have hs:=hL;clear hJ hw fh hL;refine iG 31 _ _ rfl B0 0 fZ D.fc 31 hA.1 hv (hA.2.2.2.1 hs) (by simp[fZ,fC]) bU (by simp[fZ,fC,Value.oneCell']) (λ V' h1 h2 h3=>?_);exact hK.out vs V' ⟨D,B0,B1,B2,HJ.O.aeK HP.O hk hs h1 h2 h3⟩
 ·intro o ho;cases ho;intro L vs V hL hw fh ⟨D,B0,B1,B2,hJ⟩ KK hK;have HJ:=ag hJ;have hk:=hw 11 bU;have hA:=HJ.O.a1 hk;have hv:=HJ.O.v7 (hw 7 bU);have hs:=hL;clear hJ hw fh hL;refine iG 37 _ _ rfl B1 0 cZ D.cc 37 hA.1 hv (hA.2.2.2.1 hs) (by simp[cZ]) bU (by simp[cZ,Value.oneCell']) (λ V' h1 h2 h3=>?_);rw[ab3]at h1;exact hK.out vs V' ⟨D,B0,B1,B2,HJ.O.aeL HP.O hk hs h1 h2 h3⟩
 ·intro o ho;cases ho;intro L vs V hL hw fh ⟨D,B0,B1,B2,hJ⟩ KK hK;have HJ:=ag hJ;have hk:=hw 12 bU;have hA:=HJ.O.a2 hk;have hv:=HJ.O.v8 (hw 8 bU);have hs:=hL;clear hJ hw fh hL;refine iG 43 _ _ rfl B2 0 rZ (rC D.g D.m) 43 hA.1 hv (hA.2.2.2.1 hs) (by simp[rZ,rC]) bU (by simp[rZ,rC,Value.oneCell']) (λ V' h1 h2 h3=>?_);exact hK.out vs V' ⟨D,B0,B1,B2,HJ.O.aeM HP.O hk hs h1 h2 h3⟩
 ·intro o ho;cases ho;intro L vs V hL hw fh ⟨D,B0,B1,B2,hJ⟩ KK hK;have HJ:=ag hJ;have h9:=HJ.O.v9 (hw 9 bU);clear hJ hw fh hL;go_simp;exact hK.out (sK (sK vs 9 _) 16 _) _ ⟨D,B0,B1,B2,{HJ.O with v9:= λ _=>rfl,v16:= λ _=>rfl}⟩
 ):p:=h h0 h1 h2 h3
theorem idA:yR ⟨#[97]⟩=0:=by decide
theorem toA:kE ⟨#[97]⟩=[97]:=by decide
theorem ab7(V:World):Calls Tryz.prog 11 #[.agg (fC none 0 0),.agg cZ,(.string ⟨#[97]⟩),.agg rZ,.agg (gE 7)] V λ e w'=>∃D,e= .returned (AB.T D)/\ZS D w'/\Below V V w':=by have h:=Ar (w:=V) (b:=none) (cf:=0) (ps:=[]) ⟨⟨.inl rfl,by simp⟩,by simp[aw],aD _⟩ (λ i hi x hx=>by simp[aw]at hx) (gD.zero _) de ⟨#[97]⟩ de 0 0 7 de de idA (o:=none) (λ x hx=>by cases hx) rfl rfl rfl rfl de (λ x hx=>by cases hx) (by simp[aw]) cP;refine jm h ?_;rintro e w' ⟨m',at_,b',iC,eQ,p1,e1,f1,p2,e2,f2,hm,rfl,hF,hG,hC,hb⟩;rw[toA]at hC;exact⟨⟨b',eQ.length,iC,p1,e1,f1,p2,e2,f2,1,1,m',0⟩,rfl,⟨rfl,hm,rfl,rfl,eQ,at_,rfl,hF,hG.marks,by have:=hG.len;simpa[aw]using this,hC⟩,hb⟩
theorem aaT{D:AB}(h:ZS D U)(V:World)(hV:Below U U V):Calls Tryz.prog 11 #[.agg D.fc,.agg D.cc,(.string ⟨#[97]⟩),.agg rZ,.agg (gE 8)] V λ e w'=>∃D,e= .returned (AB.T D)/\PD2 D w'/\Below V V w':=by
 obtain⟨h1,h2,h3,h4,ps,GH,h5,h6,h7,h8,h9⟩:=h;have h:=GZ (h6.below hV) h7 h9 de ⟨#[97]⟩ de 0 0 8 de de idA (o:=some ⟨[97],1,D.m,1,false,GH,7⟩) ⟨by simp,toA.symm⟩ rfl (λ e=>by cases e.1);rw[<-h5]at h;have e3:D.cc=CU D.a1 D.d1 D.c1 D.a2 D.d2 D.c2 1:=by unfold AB.cc;rw[h3]
 rw[e3];refine jm h ?_;rintro e w' ⟨rfl,hb⟩;exact⟨⟨D.b,D.k,D.c,D.a1,D.d1,D.c1,D.a2,D.d2,D.c2,1,0,0,300⟩,rfl,rfl,hb⟩
def U0(D:AB)(V:World):Prop:=∃(ps:List Piece) (x:bX),D.k=ps.length/\aQ V D.b D.c ps/\Marks (aw ps)/\gD (aw ps) D.a1 D.d1 D.c1 D.a2 D.d2 D.c2 2 [x]/\x.id=[97]/\x.del=true
theorem U0.below{D:AB}{V V':World}(h:U0 D V)(hb:Below V V V'):U0 D V':=by obtain⟨ps,x,h1,h2,h3⟩:=h;exact⟨ps,x,h1,h2.below hb,h3⟩
theorem U0.set{D:AB}{cs:List Value}(h:U0 D V)(hc:V.heap[R]? =some (.cells cs.toArray t))(h8:∀v∈cs,∀x:Nat,v≠.int .u8 (x:Int))(hs:∀v∈cs,∀a n k,v= .slice a n k->n=0)(hk:∀j,j≠R->V'.heap[j]? =V.heap[j]?):U0 D V':=by obtain⟨ps,x,h1,h2,h3⟩:=h;exact⟨ps,x,h1,dZ (g:=R) (λ j _ dN=>hk j dN) h2 (GG h2 hc h8 hs),h3⟩
theorem U0.file{D D':AB}(h:U0 D V)(h':ZS D' V)(hc:V.heap[R]? =some (.cells D'.fc t))(hk:∀j,j≠R->V'.heap[j]? =V.heap[j]?):U0 D V':=by obtain⟨ps,x,h1,h2,h3⟩:=h;obtain⟨-, -, -, -,jW, -,g1,g2, -⟩:=h';unfold AB.fc at hc;rw[g1]at hc;exact⟨ps,x,h1,dZ (g:=R) (λ j _ dN=>hk j dN) h2 (R4 g2 h2 hc),h3⟩
theorem ZS.below{D:AB}(h:ZS D V)(hb:Below V V V'):ZS D V':=(abD V).grow D V V' h hb
theorem ab8{D:AB}(h:ZS D U):∃GH:Nat,∀V,Below U U V->Calls Tryz.prog 6 #[.agg (fA D.b D.k D.c),.agg (pG D.a1 D.d1 D.c1 D.a2 D.d2 D.c2 D.q),(.string ⟨#[97]⟩)] V λ e w'=>e= .returned (.tuple (ZZ (.agg (aa3 D.g D.m GH)) (.agg Vg)))/\Below V V w':=by obtain⟨h1,h2,h3,h4,ps,GH,h5,h6,h7,h8,h9⟩:=h;refine⟨GH, λ V hV=>?_⟩;have h:=YP (h6.below hV) h7 h9 de ⟨#[97]⟩ de idA (x:=⟨[97],1,D.m,1,false,GH,7⟩) ⟨by simp,toA.symm⟩ rfl;rw[<-h5]at h;rw[h1,h3];exact h
theorem ab9{D:AB}(h:ZS D U)(V:World)(hV:Below U U V):Calls Tryz.prog 14 #[.agg (fA D.b D.k D.c),.agg (pG D.a1 D.d1 D.c1 D.a2 D.d2 D.c2 D.q),(.string ⟨#[97]⟩),.agg (vk D.g D.m)] V λ e w'=>∃D3:AB,e= .returned (.tuple (U7 (.agg (fA D3.b D3.k D3.c)) (.agg (Q3 D3.a1 D3.d1 D3.c1 D3.a2 D3.d2 D3.c2)) (.agg (vk D3.g D3.m))))/\U0 D3 w'/\Below V V w':=by obtain⟨h1,h2,h3,h4,ps,GH,h5,h6,h7,h8,h9⟩:=h;have h:=Uy (h6.below hV) h7 h9 de ⟨#[97]⟩ de 1 D.m idA (o:=some ⟨[97],1,D.m,1,false,GH,7⟩) ⟨by simp,toA.symm⟩ rfl ⟨rfl,rfl⟩ cP an (by rw[toA];simp);rw[<-h5]at h;rw[h1,h3];refine jm h ?_;rintro e w' ⟨m',at_,b',iC,eQ,p1,e1,f1,p2,e2,f2,hm,rfl,hF,hG,hC,hb⟩;rw[toA]at hC;exact⟨⟨b',eQ.length,iC,p1,e1,f1,p2,e2,f2,2,2,m',0⟩,rfl,⟨eQ,_,rfl,hF,hG.marks,hC,rfl,rfl⟩,hb⟩
theorem aaU{D:AB}(h:U0 D V):Calls Tryz.prog 6 #[.agg (fA D.b D.k D.c),.agg (Q3 D.a1 D.d1 D.c1 D.a2 D.d2 D.c2),(.string ⟨#[97]⟩)] V λ e w'=>e= .returned (.tuple (U9 (.agg kh) (.agg lX)))/\Below V V w':=by obtain⟨ps,x,h1,h2,h3,h4,h5,h6⟩:=h;have h:=get_none h2 h3 h4 de ⟨#[97]⟩ de idA (o:=some x) ⟨by simp,by rw[h5,toA]⟩ (by simp[j8,h6]);rw[<-h1]at h;exact h
theorem aca{D:AB}(h:U0 D V):Calls Tryz.prog 15 (Ii (.agg (fA D.b D.k D.c)) (.agg (Q3 D.a1 D.d1 D.c1 D.a2 D.d2 D.c2))) V λ e w'=>e= .returned (.tuple #[.slice none 0 0,.int .i64 0])/\Below V V w':=by obtain⟨ps,x,h1,h2,h3,h4,h5,h6⟩:=h;have h:=Ym h2 h3 h4 de (by simpa using h6);rw[<-h1]at h;exact h
theorem yg(h:p:=by
 have r0:=r0.T (show _=some (.int .u32 0)from rfl);have r1:=r1.T (show _=some (.int .u32 0)from rfl);clear hJ hw fh hL;go_simp;exact hK.out (sK vs 2 _) _ ⟨D,B0,B1,B2,{HJ.O with v2:= λ _=>rfl}⟩
 ):p:=h
theorem yh(h:p:=by
 intro o ho;cases ho;intro L vs V hL hw fh ⟨D,B0,B1,B2,hJ⟩ KK hK;have HJ:=ag hJ;clear hJ hw fh hL;go_simp;(with_reducible refine(Lr _ _).mono ?_);rintro e V2 ⟨rfl,hb⟩;exact hK.out (sK vs 3 _) _ ⟨D,B0,B1,B2,{HJ.O.grow HP.O hb with v3:= λ _=>rfl}⟩
 ):p:=h
theorem UA(w:World):Calls Tryz.prog 4 #[] w λ e w'=>e= .returned (.bool true)/\Below w w w':=by
 go_enter Tryz.func4,Tryz.ntmps4
 go_wp2_with fail
 obtain⟨w1,bY⟩:=bL (w.alloc (.cells ml 43));rw[<-bY];have HW:=ag (show Below w w w1/\w.heap.size<w1.heap.size/\w1.heap[w.heap.size]? =some (.cells (rC 0 0) 43)from⟨by rw[bY];go_grown,by rw[bY];simp,by rw[bY];exact ai _ _⟩);clear bY;have HP:=ag (abD w1);have HPU:=ag (λ V (_:Below w1 w1 V)=>ab7 V);refine Lo 17 [some 22,some 23,some 24,some 25,some 26,some 21,some 27,some 28,some 29,some 30,some 2,some 3,some 4,none,none,none,some 5] (λ L vs V=>∃D B0 B1 B2,LU w1 (.agg (fC none 0 0)) (.agg cZ) (.agg rZ) (.agg (gE 7)) ZS D B0 B1 B2 L vs V) bU bU rfl (λ vs=>⟨DZ,0,0,0,(LU.start DZ vs).grow HP.O (gb).drew⟩) (λ Fr Lp=>?_);replace Lp:=Lp.out;simp only[Ln,Act.put,jX]at Lp;subst Lp;refine⟨abE ?_ ?_ ?_ ?_, λ vs1 V1 ⟨D1,YR,C11,C12,hI⟩=>?_⟩
 ·intro o ho;cases ho;intro L vs V hL hw fh ⟨D,B0,B1,B2,hJ⟩ KK hK;have HJ:=ag hJ;clear hJ hw fh hL;go_simp;(with_reducible refine(YQ _).mono ?_);rintro e V2 ⟨rfl,hb⟩;exact hK.out (sK vs 0 _) _ ⟨D,B0,B1,B2,{HJ.O.grow HP.O hb with v0:= λ _=>rfl}⟩
 ·intro o ho;cases ho;intro L vs V hL hw fh ⟨D,B0,B1,B2,hJ⟩ KK hK;have HJ:=ag hJ;clear hJ hw fh hL;go_simp;exact hK.out (sK vs 1 _) _ ⟨D,B0,B1,B2,{HJ.O with v1:= λ _=>rfl}⟩
 ·intro o ho;cases ho;intro L vs V hL hw fh ⟨D,B0,B1,B2,hJ⟩ KK hK;have HJ:=ag hJ;obtain⟨r0,r1⟩:=JY (g:=0) (m:=0) ((HJ.O.lV.block w (cm HW.O.2.1)).T HW.O.2.2);exact yg
 ·exact yh
 obtain⟨hr,hP⟩:=hI.v4 rfl;have e2:=(hI.a0 rfl).1;have e3:=(hI.a1 rfl).1;have e4:=(hI.a2 rfl).1;have e16:=hI.v16 rfl;rw[hP.2.2.2.1]at e16;have Se:=ag hI;have HPD:=ag hP;have fW:=hI8 (hI.a0 rfl).2.2.1 ((hI.a0 rfl).2.2.2.2 rfl) (hI.a1 rfl).2.2.1 ((hI.a1 rfl).2.2.2.2 rfl) (hI.a2 rfl).2.2.1 ((hI.a2 rfl).2.2.2.2 rfl) (aA HW.O.2.1 hI.lV.size) ((hI.lV.block w HW.O.2.1).T HW.O.2.2);clear hr hP hI HPU HP;go_simp
 focus go_wp2_with fail
 clear e2 e3 e4 e16;have HP:=ag (aeQ V1);have HPU:=ag (λ V (hV:Below V1 V1 V)=>aaT HPD.O V hV);refine Lo 17 [some 32,some 33,some 34,some 35,some 36,some 31,some 37,some 38,some 39,some 40,some 6,some 7,some 8,none,none,none,some 9] (λ L vs V=>∃D B0 B1 B2,LU V1 (.agg D1.fc) (.agg D1.cc) (.agg rZ) (.agg (gE 8)) PD2 D B0 B1 B2 L vs V) bU bU rfl (λ vs=>⟨DZ,0,0,0,(LU.start DZ vs).grow HP.O (gb).drew⟩) (λ Fr Lp=>?_);replace Lp:=Lp.out;simp only[Ln,Act.put,jX]at Lp;subst Lp;refine⟨abE ?_ ?_ ?_ ?_, λ vs2 V2 ⟨D2,C20,C21,C22,hI⟩=>?_⟩
 ·intro o ho;cases ho;intro L vs V hL hw fh ⟨D,B0,B1,B2,hJ⟩ KK hK;have HJ:=ag hJ;obtain⟨f0,f1,f2,f3,f4⟩:=dF (show V.heap[YR]? =some (.cells (fA D1.b D1.k D1.c) 31)from(HJ.O.lV.block YR fW.O.1).T fW.O.2.1);clear hJ hw fh hL;go_simp;exact hK.out (sK vs 0 _) _ ⟨D,B0,B1,B2,{HJ.O with v0:= λ _=>rfl}⟩
 ·intro o ho;cases ho;intro L vs V hL hw fh ⟨D,B0,B1,B2,hJ⟩ KK hK;have HJ:=ag hJ;obtain⟨k0,k1,k2,k3,k4,k5,k6,k7,k8,k9,Rh,k11,k12,k13,k14,k15,k16⟩:=Up ((HJ.O.lV.block C11 fW.O.2.2.1).T fW.O.2.2.2.1);clear hJ hw fh hL;go_simp;exact hK.out (sK vs 1 _) _ ⟨D,B0,B1,B2,{HJ.O with v1:= λ _=>rfl}⟩
 ·intro o ho;cases ho;intro L vs V hL hw fh ⟨D,B0,B1,B2,hJ⟩ KK hK;have HJ:=ag hJ;obtain⟨r0,r1⟩:=JY (g:=0) (m:=0) ((HJ.O.lV.block w fW.O.2.2.2.2.2.2.1).T fW.O.2.2.2.2.2.2.2);exact yg
 ·exact yh
 have e16:=hI.v16 rfl;rw[(hI.v4 rfl).2]at e16;have LD:=ag hI;clear hI HPU HP;go_simp;have jG:=ag LD.O.lV;have HF1:=ag (HPD.O.below jG.O);obtain⟨GH,yL⟩:=ab8 HPD.O;have HG1:=ag (yL V2 jG.O);have Zk:=ag (ab9 HPD.O);have py:=aF (show V2.heap[YR]? =some (.cells (fA D1.b D1.k D1.c) 31)from(jG.O.block _ fW.O.1).T fW.O.2.1);have pK:=aF ((jG.O.block _ fW.O.2.2.1).T fW.O.2.2.2.1);have vd:Hid (C11≠YR/\C12≠YR/\C12≠C11/\YR<V1.heap.size/\C11<V1.heap.size/\C12<V1.heap.size):=ag ⟨qD fW.O.2.2.2.1 fW.O.2.1 de,qD fW.O.2.2.2.2.2.1 fW.O.2.1 de,qD fW.O.2.2.2.2.2.1 fW.O.2.2.2.1 de,fW.O.1,fW.O.2.2.1,fW.O.2.2.2.2.1⟩;clear yL
 focus go_wp2_with first
  |(refine dG 31 ?_)
  |(refine dG 37 ?_)
  |(refine dG 43 ?_)
  |((with_reducible refine HG1.O.mono ?_);rintro e V3 ⟨rfl,cu⟩;have e3:=bu (w:=V3) (w2:=(V3.alloc (.cells kh 45)).alloc (.cells lX 49)) (gb);have g3:Below V3 V3 ((V3.alloc (.cells kh 45)).alloc (.cells lX 49)):=by go_grown
    have H3:=eS e3 g3 (jG.O.T (cu.mono jG.O.size));clear cu e3 g3 py pK)
  |(refine lz 45 (aa3 D1.g D1.m GH) H3.O.1.1 (λ V4 h1 h2 h3=>?_);have H4:=eS h1 ((h2 _ an).T H3.O.1.2) (h3 V3 V3 (cH) H3.O.2.1);clear h1 h2 h3)
  |(refine lz 49 Vg H4.O.2.1 (λ V5 h1 h2 h3=>?_);have jE:=ag (H3.O.2.2.T ((h3 V3 V3 an H4.O.2.2).mono H3.O.2.2.size));have H5:=eS ((h2 _ an).T H4.O.1) h1 (show V3.heap.size+1<V5.heap.size from(cS h1).1);have py:=aF (show V5.heap[YR]? =some (.cells (fA D1.b D1.k D1.c) 31)from(jE.O.block _ fW.O.1).T fW.O.2.1);have pK:=aF ((jE.O.block _ fW.O.2.2.1).T fW.O.2.2.2.1);have yV:=aF (show V5.heap[C12]? =some (.cells (vk D1.g D1.m) 43)from(jE.O.block _ fW.O.2.2.2.2.1).T fW.O.2.2.2.2.2.1);have HDW:=ag (Zk.O V5 jE.O);clear h1 h2 h3)
  |((with_reducible refine HDW.O.mono ?_);rintro e V6 ⟨D3,rfl,hp3,lP⟩;have ga:Below V6 V6 (V6.alloc (.cells ml 43)):=by go_grown
    have Cu:=ag (jE.O.T ((lP.mono jE.O.size).T (ga.mono (aj jE.O.size lP.size))));have HKA:=ag (show∀j,j<V5.heap.size->(V6.alloc (.cells ml 43)).heap[j]? =V5.heap[j]? from λ j hj=>(ga.block j (aA hj lP.size)).T (lP.block j hj));have H6:=eS (hp3.below ga) lP.size (ai V6 (.cells ml 43));clear hp3 lP ga py pK yV)
  |(refine lz 31 (fA D3.b D3.k D3.c) ((Cu.O.block _ fW.O.1).T fW.O.2.1) (λ V7 h1 h2 h3=>?_) (hz:=by exact rfl);have H7:=oT h1 (show∀j,j≠YR->V7.heap[j]? =_ from λ j hj=>h2 j hj) (h3 w w (aj HW.O.1.size (Se.O.a0 rfl).2.1) ((HW.O.1.T (Se.O.lV.mono HW.O.1.size)).T (Cu.O.mono (aj HW.O.1.size Se.O.lV.size)))) (H6.O.1.file (HPD.O.below Cu.O) ((Cu.O.block _ fW.O.1).T fW.O.2.1) λ j hj=>h2 j hj);clear h1 h2 h3)
  |(refine lz 37 (Q3 D3.a1 D3.d1 D3.c1 D3.a2 D3.d2 D3.c2) ((H7.O.2.1 _ vd.O.1).T ((Cu.O.block _ fW.O.2.2.1).T fW.O.2.2.2.1)) (λ V8 h1 h2 h3=>?_) (hz:=by exact rfl);have H8:=oT h1 (show∀j,j≠C11->V8.heap[j]? =_ from λ j hj=>h2 j hj) (h3 w w (aj HW.O.1.size (Se.O.a1 rfl).2.1) H7.O.2.2.1) (H7.O.2.2.2.set ((H7.O.2.1 _ vd.O.1).T ((Cu.O.block _ fW.O.2.2.1).T fW.O.2.2.2.1)) cP cP λ j hj=>h2 j hj);clear h1 h2 h3)
  |(refine lz 43 (vk D3.g D3.m) ((H8.O.2.1 _ (Ig vd.O H6.O.2.1 jE.O.size)).T ((H7.O.2.1 _ (Ig vd.O H6.O.2.1 jE.O.size)).T H6.O.2.2)) (λ V9 h1 h2 h3=>?_);have HP9:=ag (H8.O.2.2.2.set ((H8.O.2.1 _ (Ig vd.O H6.O.2.1 jE.O.size)).T ((H7.O.2.1 _ (Ig vd.O H6.O.2.1 jE.O.size)).T H6.O.2.2)) cP cP λ j hj=>h2 j hj);have hk9:∀j,j<V5.heap.size->j≠YR->j≠C11->V9.heap[j]? =V5.heap[j]? := λ j hj n0 n1=>(h2 j (cm H6.O.2.1)).T ((H8.O.2.1 j n1).T ((H7.O.2.1 j n0).T (HKA.O j hj)));have hf9:=(h2 YR (Ig vd.O H6.O.2.1 jE.O.size)).T ((H8.O.2.1 YR (dy vd.O.1)).T H7.O.1);have hc9:=(h2 C11 (Ig vd.O H6.O.2.1 jE.O.size)).T H8.O.1;have ug:=h3 w w (oo4 HW.O.1.size jE.O.size Se.O.lV.size H6.O.2.1) H8.O.2.2.1;have py:=aF hf9;have pK:=aF hc9;have HGN:=ag (aaU HP9.O);have H9:=hI6 (hk9 C12 (iX vd.O jE.O.size) vd.O.2.1 vd.O.2.2.1) (hk9 V3 (cm H5.O.2.2) (iX vd.O H3.O.2.2.size) (iX vd.O H3.O.2.2.size)) (hk9 (V3+1) H5.O.2.2 (iX vd.O H3.O.2.2.size) (iX vd.O H3.O.2.2.size)) hc9 ug hf9;clear h1 h2 h3 hk9 hf9 hc9 ug)
  |((with_reducible refine HGN.O.mono ?_);rintro e Sj ⟨rfl,OV⟩;have e3:=bu (w:=Sj) (w2:=(Sj.alloc (.cells kh 45)).alloc (.cells lX 49)) (gb);have g3:Below Sj Sj ((Sj.alloc (.cells kh 45)).alloc (.cells lX 49)):=by go_grown
    have H10:=eS e3 g3 OV;clear OV e3 g3 py pK)
  |(refine fT 45 rfl _ _ rfl Sj 0 kh kh 45 rfl rfl H10.O.1.1 cP bU bz (λ V11 h1 h2 h3=>?_);have H11:=dO ((h2 _ an).T H10.O.1.2) (h3 Sj Sj (cH) H10.O.2.1);clear h1 h2 h3)
  |(refine fT 49 rfl _ _ rfl (Sj+1) 0 lX lX 49 rfl rfl H11.O.1 cP bU bz (λ V12 h1 h2 h3=>?_);have YS:=ag (H10.O.2.2.T ((h3 Sj Sj an H11.O.2).mono H10.O.2.2.size));have py:=aF ((YS.O.block _ (cS H9.O.2.2.2.2.2).1).T H9.O.2.2.2.2.2);have pK:=aF ((YS.O.block _ (cS H9.O.2.2.2.1).1).T H9.O.2.2.2.1);have O5:=ag (aca (HP9.O.below YS.O));clear h1 h2 h3)
  |((with_reducible refine O5.O.mono ?_);rintro e V13 ⟨rfl,Ec⟩;have PV:=ag (YS.O.T (Ec.mono YS.O.size));clear Ec py pK)
  |fail
 have HX:Hid (∀U:World,Below V13 V13 U->(U.cell? (za V3 0)=some (.int .u32 (D1.g:Int))/\U.cell? (za V3 1)=some (.int .u32 (D1.m:Int))/\U.cell? (za V3 2)=some (.int .u64 1))/\(U.cell? (za (V3+1) 0)=some (.int .i64 3)/\U.cell? (za (V3+1) 1)=some (.int .i64 7)/\U.cell? (za (V3+1) 2)=some (.string ⟨#[]⟩)/\U.cell? (za (V3+1) 3)=some (.slice none 0 0)/\U.cell? (za (V3+1) 4)=some (.slice none 0 0))/\(U.cell? (za C12 0)=some (.int .u32 (D1.g:Int))/\U.cell? (za C12 1)=some (.int .u32 (D1.m:Int)))/\U.cell? (za C11 16)=some (.int .u64 2)):=ag λ U hU=>by
  have key:∀{j:Nat} {o:Obj},V9.heap[j]? =some o->U.heap[j]? =some o:= λ {j o} e=>by have e1:=(PV.O.block j (cS e).1).T e;exact(hU.block j (cS e1).1).T e1
  have e1:=key (H9.O.2.1.T H5.O.1);have e2:=key (H9.O.2.2.1.T H5.O.2.1);have e3:=key (H9.O.1.T ((jE.O.block _ fW.O.2.2.2.2.1).T fW.O.2.2.2.2.2.1));have e4:=key H9.O.2.2.2.1;exact⟨⟨(af e1 0).T rfl,(af e1 1).T rfl,(af e1 2).T rfl⟩,⟨(af e2 0).T rfl,(af e2 1).T rfl,(af e2 2).T rfl,(af e2 3).T rfl,(af e2 4).T rfl⟩,⟨(af e3 0).T rfl,(af e3 1).T rfl⟩,(af e4 16).T rfl⟩
 have HLI:Hid (∀U,Calls Tryz.prog 13 #[.int .i64 7] U λ e w'=>e= .returned (.agg Vg)/\Below U U w'):=ag λ U=>Lr 7 U;have FA:=ag (DF 7);obtain⟨⟨i0,i1,i2⟩,⟨v0,v1,v2,v3,v4⟩,⟨r0,r1⟩,q2⟩:=HX.O V13 (gb);refine bP 49 ?_;refine tP [0,1,2,3,4,5,6,7,8,9,10,11,12,13,14,15,16,17,18,19,20,21,22] ?_
 iterate 23 refine tO ?_
 refine au 26 rfl ?_;refine sP 23 [0,1,2,3,4,5,6,7,8,9,10,11,12,13,14,15,16,17,18,19,20,21] λ K hK=>?_;go_simp;(with_reducible refine(HLI.O _).mono ?_);rintro e V14 ⟨rfl,agJ⟩;have aee:Hid (Below V13 V13 V14):=ag ((gb).drew.T agJ);clear agJ;clear i0 i1 i2 v0 v1 v2 v3 v4 r0 r1 q2;obtain⟨⟨i0,i1,i2⟩,⟨v0,v1,v2,v3,v4⟩,⟨r0,r1⟩,q2⟩:=HX.O _ aee.O;refine nP hK ?_;clear hK K;refine sP 24 [0,1,2,3,4,5,6,7,8,9,10,11,12,13,14,15,16,17,18,19,20,21,22,23] λ K hK=>?_;go_simp;(with_reducible refine(FA.O _).mono ?_);rintro e V15 ⟨rfl,agK⟩;have agL:Hid (Below V13 V13 V15):=ag (aee.O.T (agK.mono aee.O.size));clear agK;clear i0 i1 i2 v0 v1 v2 v3 v4 r0 r1 q2;obtain⟨⟨i0,i1,i2⟩,⟨v0,v1,v2,v3,v4⟩,⟨r0,r1⟩,q2⟩:=HX.O _ agL.O;refine nP hK ?_;clear hK K;refine tP [25,26,27,28,29,30,31,32,33,34,35,36,37,38,39,40,41,42,43,44,45,46,47,48] ?_
 iterate 24 refine tO ?_
 refine au 0 rfl ?_;refine dP ?_;go_simp
 go_wp2_with fail
 have hz:Below w w V15:=H9.O.2.2.2.2.1.T ((PV.O.T (agL.O.mono PV.O.size)).mono H9.O.2.2.2.2.1.size);go_ret;exact⟨rfl,hz⟩
theorem Sk(h:(es.map bX.bare).Perm (ls.map bX.bare))(hy:y∈ls):∃x∈es,x.bare=y.bare:=by have:=h.mem_iff.2 (aM.2 ⟨y,hy,rfl⟩);obtain⟨x,hx,e⟩:=aM.1 this;exact⟨x,hx,e⟩
theorem UB(h:(es.map bX.bare).Perm (ls.map bX.bare))(hn:∀y∈ls,cE y.id≠s):rS es (kE s) none:= λ x hx e=>by obtain⟨y,hy,e2⟩:=Sk h.symm hx;have e3:y.bare.id=x.bare.id:=congrArg bX.id e2;replace e3:y.id=x.id:=e3;exact hn y hy (by rw[e3,e];exact pS s)
theorem UC(h:(es.map bX.bare).Perm (ls.map bX.bare))(hb:∀x∈ls,x.at_=0/\∀y∈x.id,y<256)(hy:y∈ls)(e:cE y.id=s):∃GH,rS es (kE s) (some {y with at_:=GH}):=by
 obtain⟨x,hx,e2⟩:=Sk h hy;refine⟨x.at_,?_⟩;have e3:{y with at_:=x.at_}=x:=by
  cases x;cases y;simp only[bX.bare,bX.mk.injEq]at e2;simp[e2]
 rw[e3];have e4:x.bare.id=y.bare.id:=congrArg bX.id e2;replace e4:x.id=y.id:=e4;exact⟨hx,by rw[<-e,tX (hb y hy).2,e4]⟩
theorem acb(h:(es.map bX.bare).Perm (ls.map bX.bare))(ha:es.Pairwise λ x y=>x.id≠y.id){y2:bX}(hy:y∈ls)(I5:y2∈ls)(e:y.id=y2.id):y=y2:=by
 have h1:(es.map bX.bare).Pairwise λ x y=>x.id≠y.id:=by rw[cU];exact ha
 have h2:=(h.pairwise_iff (λ {x y} h=> λ e=>h e.symm)).1 h1;rw[cU]at h2;exact JI (f:=bX.id) h2 hy I5 e
theorem rX(h:p:=by
 have hz:Below w w V9:=jE.O.T ((H8.O.2.2.T (ug.mono H8.O.2.2.size)).mono jE.O.size);go_ret;exact⟨rfl,hz⟩
 ):p:=h
theorem YT{w:World}{da fa:az}{cd cf M:Nat}{ks:List Yo}{fs:List Int}(hD:cV knR 5 w da ks)(hcd:ks.length<=cd)(Yr:cd<140737488355328)(kD:∀x∈ks,Yp x)(hM:M<18446744073709551616)(Qr:rL w fa fs)(qH:fs.length<4611686018427387904)(s:ByteArray)(hs:s.size<140737488355328):
 Calls Tryz.prog 3 (aa4 (.agg (O9 da ks.length cd M fa fs.length cf)) s) w λ e w'=>e= .returned (.bool true)/\Below w w w':=by
 obtain⟨w1,bY⟩:=bL (w.alloc (.cells (O9 da ks.length cd M fa fs.length cf) 26));have cN:Below w w w1:=by rw[bY];go_grown
 have kH:w1.heap[w.heap.size]? =some (.cells (O9 da ks.length cd M fa fs.length cf) 26):=qK bY;have HMD:=ag (λ (V:World) (hV:Below w w V)=>Yq (cf:=cf) (M:=M) (hD.below hV) hcd Yr kD hM (Qr.below hV) qH);obtain⟨ND,hND⟩:=bL ks.length;obtain⟨NF,hNF⟩:=bL fs.length;rw[<-hND,<-hNF]at HMD kH bY⊢;have H1:=dO cN kH;have qj:=ag bY;obtain⟨n,hn⟩:=bL (min s.size 40);have hmn:min (s.size:Int) 40=(n:Int):=an;have hns:(n:Int)<=(s.size:Int):=an;have aiA:(n:Int)<=40:=an;clear hD hcd Yr kD hM Qr qH bY cN kH hND hNF hn;go_enter Tryz.func3,Tryz.ntmps3
 go_wp2_with first
  |((with_reducible refine(UA _).mono ?_);rintro e w2 ⟨rfl,bG⟩;rw[<-qj.O]at bG;have Cv:=aF ((bG.block _ (cS H1.O.2).1).T H1.O.2);have eJ:=ag (H1.O.1.T (bG.mono H1.O.1.size));clear bG)
  |(refine dG 26 ?_)
  |((with_reducible refine(HMD.O _ eJ.O).mono ?_);rintro e V3 ⟨b,c,ps,a1,d1,c1,a2,d2,c2,q,es,la,lk,ls,rfl,hF,hm,hC,hq,hR,hl,hP,ha,cu⟩;obtain⟨PL,RX⟩:=bL ps.length;obtain⟨NL,hNL⟩:=bL ls.length;unfold bN j7;rw[<-RX,<-hNL];have e3:=bu (w:=V3) (w2:=(V3.alloc (.cells kF 31)).alloc (.cells sO 37)) (gb);have g3:Below V3 V3 ((V3.alloc (.cells kF 31)).alloc (.cells sO 37)):=by go_grown
    have H3:=eS e3 g3 (eJ.O.T (cu.mono eJ.O.size));have HC:=hI8 hF hm hC hq hR hl hP ha;have HL:=dO RX hNL;clear e3 g3 cu hF hm hC hq hR hl hP ha RX hNL Cv)
  |(refine lz 31 (fA b PL c) H3.O.1.1 (λ V4 h1 h2 h3=>?_);have H4:=eS h1 ((h2 _ an).T H3.O.1.2) (h3 V3 V3 (cH) H3.O.2.1);clear h1 h2 h3)
  |(refine lz 37 (pG a1 d1 c1 a2 d2 c2 q) H4.O.2.1 (λ V5 h1 h2 h3=>?_);have H5:=ag (h3 V3 V3 an H4.O.2.2);have py:=aF ((h2 _ an).T H4.O.1);have pK:=aF h1;have jE:=ag (H3.O.2.2.T (H5.O.mono H3.O.2.2.size));clear h1 h2 h3)
  |(refine dG 31 ?_)
  |(refine dG 37 ?_)
  |fail
 obtain⟨s',hs'⟩:∃s',s'=s.extract 0 n:=⟨_,rfl⟩;rw[<-hs'];have uh:s'.size<=40:=by rw[hs'];simp;omega
 clear hs' hmn hns aiA;have ZL:=HC.O.2.2.2.2.1.below H5.O;have HR5:=ag ZL;have mU:= λ U (hU:Below V5 V5 U)=>XY lk s' (ZL.below hU) (cm HC.O.2.2.2.2.2.1);rw[<-HL.O.2]at mU;have hgi:= λ hid=>ab6 (HC.O.1.below H5.O) HC.O.2.1 HC.O.2.2.1 HC.O.2.2.2.1 s' an hid;have QI:= λ hid o ho LZ=>get_none (HC.O.1.below H5.O) HC.O.2.1 HC.O.2.2.1 HC.O.2.2.2.1 s' an hid (o:=o) ho LZ;have hgo:= λ hid x ho LZ=>YP (HC.O.1.below H5.O) HC.O.2.1 HC.O.2.2.1 HC.O.2.2.2.1 s' an hid (x:=x) ho LZ;unfold bN j7 at hgi QI hgo;rw[<-HL.O.1]at hgi QI hgo;obtain⟨ok,kD⟩:=bL (vz s');have O5:Hid (∀U,Calls Tryz.prog 8 #[.string s'] U λ e w'=>e= .returned (.bool ok)/\w'=U):=ag λ U=>by rw[kD];exact Sb s' an U
 cases ok with
 |false=>
  have HGE:=ag (hgi (by unfold yR;rw[<-kD];decide));have Hj:Hid (∀U,Below V5 V5 U->Calls Tryz.prog 7 #[.slice la NL lk,.string s'] U λ e w'=>(∃r:Int,e= .returned (.int .i64 r))/\w'=U):=ag λ U hU=>(mU U hU).mono λ e w' ⟨⟨r,he,_⟩,hw⟩=>⟨⟨r,he⟩,hw⟩;clear hgi QI hgo mU kD ZL uh;(with_reducible refine HGE.O.mono ?_);rintro e V6 ⟨rfl,lP⟩;have e6:=bu (w:=V6) (w2:=(V6.alloc (.cells kh 45)).alloc (.cells lX 49)) (gb);have g6:Below V6 V6 ((V6.alloc (.cells kh 45)).alloc (.cells lX 49)):=by go_grown
  have H6:=eS e6 g6 lP;clear e6 g6 lP py pK
  focus go_wp2_with first
   |(refine lz 45 kh H6.O.1.1 (λ V7 h1 h2 h3=>?_);have H7:=eS h1 ((h2 _ an).T H6.O.1.2) (h3 V6 V6 (cH) H6.O.2.1);clear h1 h2 h3)
   |(refine lz 49 lX H7.O.2.1 (λ V8 h1 h2 h3=>?_);have BR:=H6.O.2.2.T ((h3 V6 V6 an H7.O.2.2).mono H6.O.2.2.size);have H8:=eS ((h2 _ an).T H7.O.1) h1 BR;obtain⟨i0,i1,i2,i3,i4⟩:=lg H8.O.1;obtain⟨v0,v1,v2,v3,v4⟩:=lg H8.O.2.1;clear h1 h2 h3 BR)
   |((with_reducible refine(Hj.O _ H8.O.2.2).mono ?_);rintro e w2 ⟨⟨r,rfl⟩,hw⟩;rw[hw];clear hw w2)
   |((with_reducible refine(O5.O _).mono ?_);rintro e w2 ⟨rfl,hw⟩;rw[hw];clear hw w2)
   |((with_reducible refine(yE _).mono ?_);rintro e V9 ⟨rfl,ug⟩)
   |fail
  exact rX
 |true=>
  have hid:yR s'=0:=by unfold yR;rw[<-kD];rfl
  by_cases hfo:∃y∈ls,cE y.id=s'
  ·obtain⟨y,hy,yO⟩:=hfo;obtain⟨GH,OZ⟩:=UC HC.O.2.2.2.2.2.2.1 HC.O.2.2.2.2.2.2.2 hy yO;have huq:∀y2∈ls,cE y2.id=s'->y2=y:= λ y2 h2 e2=>acb HC.O.2.2.2.2.2.2.1 HC.O.2.2.1.apart h2 hy (by rw[<-tX (HC.O.2.2.2.2.2.2.2 y2 h2).2,<-tX (HC.O.2.2.2.2.2.2.2 y hy).2,e2,yO]);have Hj:Hid (∀U,Below V5 V5 U->Calls Tryz.prog 7 #[.slice la NL lk,.string s'] U λ e w'=>(∃j:Nat,e= .returned (.int .i64 (j:Int))/\ls[j]? =some y)/\w'=U):=ag λ U hU=>(mU U hU).mono λ e w' ⟨⟨r,he,h⟩,hw⟩=>by
    rcases h with⟨_,h1⟩|⟨j,y2,g1,g2,h1⟩
    ·exact absurd yO (h1 y hy)
    ·obtain rfl:=huq y2 (ak g1) g2;exact⟨⟨j,by rw[he,h1],g1⟩,hw⟩
   have hy0:=(HC.O.2.2.2.2.2.2.2 y hy).1;obtain⟨B,o,hla⟩:=ZL.some_ (List.length_pos_of_mem hy);subst hla;have HY:=dO yO hy0;cases th:y.del with
   |true=>
    have HGE:=ag (QI hid _ OZ (by simp[j8,th]));have Zk:=ag th;clear hgi QI hgo mU kD ZL uh hid OZ huq hy yO hy0 th;(with_reducible refine HGE.O.mono ?_);rintro e V6 ⟨rfl,lP⟩;have e6:=bu (w:=V6) (w2:=(V6.alloc (.cells kh 45)).alloc (.cells lX 49)) (gb);have g6:Below V6 V6 ((V6.alloc (.cells kh 45)).alloc (.cells lX 49)):=by go_grown
    have H6:=eS e6 g6 lP;clear e6 g6 lP py pK
    focus go_wp2_with first
     |(refine lz 45 kh H6.O.1.1 (λ V7 h1 h2 h3=>?_);have H7:=eS h1 ((h2 _ an).T H6.O.1.2) (h3 V6 V6 (cH) H6.O.2.1);clear h1 h2 h3)
     |(refine lz 49 lX H7.O.2.1 (λ V8 h1 h2 h3=>?_);have BR:=H6.O.2.2.T ((h3 V6 V6 an H7.O.2.2).mono H6.O.2.2.size);have H8:=eS ((h2 _ an).T H7.O.1) h1 BR;obtain⟨i0,i1,i2,i3,i4⟩:=lg H8.O.1;obtain⟨v0,v1,v2,v3,v4⟩:=lg H8.O.2.1;clear h1 h2 h3 BR)
     |((with_reducible refine(Hj.O _ H8.O.2.2).mono ?_);rintro e w2 ⟨⟨j,rfl,hj⟩,hw⟩;rw[hw];clear hw w2;have hrj:=(HR5.O.below H8.O.2.2).get hj;have hjl:(j:Int)<(NL:Int):=E8;have Db:¬ (j:Int)<0:=an;have PM:decide ((j:Int)<0)=false:=cP;have c4:=hrj 4 _ rfl;rw[Zk.O]at c4;have HJ:=dO hj hrj;clear hj hrj)
     |((with_reducible refine(O5.O _).mono ?_);rintro e w2 ⟨rfl,hw⟩;rw[hw];clear hw w2)
     |((with_reducible refine(yE _).mono ?_);rintro e V9 ⟨rfl,ug⟩)
     |fail
    exact rX
   |false=>
    have vW:=hgo hid _ OZ th;dsimp only at vW;rw[th]at vW;unfold kindOf fN at vW;simp only[ez,if_false]at vW;have HGE:=ag vW;have Zk:=ag th;clear hgi QI hgo mU kD ZL uh hid OZ huq hy yO hy0 th vW;(with_reducible refine HGE.O.mono ?_);rintro e V6 ⟨rfl,lP⟩;have e6:=bu (w:=V6) (w2:=(V6.alloc (.cells kh 45)).alloc (.cells lX 49)) (gb);have g6:Below V6 V6 ((V6.alloc (.cells kh 45)).alloc (.cells lX 49)):=by go_grown
    have H6:=eS e6 g6 lP;clear e6 g6 lP py pK
    focus go_wp2_with first
     |(refine lz 45 (ZW y.g y.m y.s GH) H6.O.1.1 (λ V7 h1 h2 h3=>?_);have H7:=eS h1 ((h2 _ an).T H6.O.1.2) (h3 V6 V6 (cH) H6.O.2.1);clear h1 h2 h3)
     |(refine lz 49 (qv y.n) H7.O.2.1 (λ V8 h1 h2 h3=>?_);have BR:=H6.O.2.2.T ((h3 V6 V6 an H7.O.2.2).mono H6.O.2.2.size);have H8:=eS ((h2 _ an).T H7.O.1) h1 BR;obtain⟨i0,i1,i2,i3,i4⟩:=lg H8.O.1;obtain⟨v0,v1,v2,v3,v4⟩:=lg H8.O.2.1;clear h1 h2 h3 BR)
     |((with_reducible refine(Hj.O _ H8.O.2.2).mono ?_);rintro e w2 ⟨⟨j,rfl,hj⟩,hw⟩;rw[hw];clear hw w2;have hrj:=(HR5.O.below H8.O.2.2).get hj;have hjl:(j:Int)<(NL:Int):=E8;have Db:¬ (j:Int)<0:=an;have PM:decide ((j:Int)<0)=false:=cP;have c4:=hrj 4 _ rfl;rw[Zk.O]at c4;have f4:=ax H8.O.1 4;have HJ:=dO hj hrj;clear hj hrj)
     |((with_reducible refine(O5.O _).mono ?_);rintro e w2 ⟨rfl,hw⟩;rw[hw];clear hw w2)
     |((with_reducible refine(yE _).mono ?_);rintro e V9 ⟨rfl,ug⟩)
     |fail
    obtain⟨V9,hV9⟩:=bL (V8.setCell (za V6 4) (.int .i64 0));rw[<-hV9];have hi9:V9.heap[V6.heap.size]? =some (.cells #[.int .u32 (y.g:Int),.int .u32 (y.m:Int),.int .u64 (y.s:Int),.bool false,.int .i64 0] 45):=by rw[hV9];exact aU (j:=4) _ H8.O.1
    have hv9:V9.heap[V6.heap.size+1]? =some (.cells (qv y.n) 49):=by rw[hV9];exact(aq V8 ⟨V6.heap.size,4,none⟩ _ _ (by show V6.heap.size+1≠V6.heap.size;omega)).T H8.O.2.1
    have ug:Below V5 V5 V9:=by rw[hV9];exact H8.O.2.2.setCell (p:=(za V6 4)) H6.O.2.2.size _
    have Kr:=(HR5.O.below ug).get HJ.O.1;have H9:=ag ug;have FA:=ag (DF y.n);clear i0 i1 i2 i3 i4 v0 v1 v2 v3 v4 c4 f4;obtain⟨i0,i1,i2,i3,i4⟩:=lg hi9;obtain⟨v0,v1,v2,v3,v4⟩:=lg hv9;have c1:=Kr 1 _ rfl;have c2:=Kr 2 _ rfl;have c3:=Kr 3 _ rfl;have c4:=Kr 4 _ rfl;have c5:=Kr 5 _ rfl;have c6:=Kr 6 _ rfl;have c7:=Kr 7 _ rfl;have c8:=Kr 8 _ rfl;have c9:=Kr 9 _ rfl;have ca:=Kr 10 _ rfl;rw[Zk.O]at c4 c6 c7;rw[HY.O.2]at c5;unfold kindOf at c6;unfold fN at c7;simp only[ez,if_false,show((0:Nat):Int)=0 from rfl]at c5 c6 c7;clear hV9 hi9 hv9 ug Kr;refine bP 21 ?_;refine tP [0,1,2,3,4,5,6,7,8,9,10,11,12,13,14,15,16,17] ?_
    iterate 18 refine tO ?_
    refine au 3 rfl ?_;refine sP 18 [0,1,2,3,4,5,6,7,8,9,10,11,12,13,14,15,16,17] λ K hK=>?_;go_simp;(with_reducible refine(FA.O _).mono ?_);rintro e Sj ⟨rfl,OV⟩;have aiB:Hid (Below V9 V9 Sj):=ag ((gb).drew.T OV);clear OV;refine nP hK ?_;clear hK K;refine tP [19,20] ?_
    iterate 2 refine tO ?_
    refine au 0 rfl ?_;refine dP ?_;go_simp
    go_wp2_with fail
    have hz:Below w w Sj:=jE.O.T ((H9.O.T (aiB.O.mono H9.O.size)).mono jE.O.size);go_ret;exact⟨rfl,hz⟩
  ·have mr:∀y∈ls,cE y.id≠s':= λ y hy e=>hfo ⟨y,hy,e⟩;have HGE:=ag (QI hid none (UB HC.O.2.2.2.2.2.2.1 mr) rfl);have Hj:Hid (∀U,Below V5 V5 U->Calls Tryz.prog 7 #[.slice la NL lk,.string s'] U λ e w'=>e= .returned (.int .i64 (-1))/\w'=U):=ag λ U hU=>(mU U hU).mono λ e w' ⟨⟨r,he,h⟩,hw⟩=>by
    rcases h with⟨h1,_⟩|⟨j,y,h1,h2,_⟩
    ·exact⟨by rw[he,h1],hw⟩
    ·exact absurd h2 (mr y (ak h1))
   clear hgi QI hgo mU kD ZL uh hid mr hfo;(with_reducible refine HGE.O.mono ?_);rintro e V6 ⟨rfl,lP⟩;have e6:=bu (w:=V6) (w2:=(V6.alloc (.cells kh 45)).alloc (.cells lX 49)) (gb);have g6:Below V6 V6 ((V6.alloc (.cells kh 45)).alloc (.cells lX 49)):=by go_grown
   have H6:=eS e6 g6 lP;clear e6 g6 lP py pK
   focus go_wp2_with first
    |(refine lz 45 kh H6.O.1.1 (λ V7 h1 h2 h3=>?_);have H7:=eS h1 ((h2 _ an).T H6.O.1.2) (h3 V6 V6 (cH) H6.O.2.1);clear h1 h2 h3)
    |(refine lz 49 lX H7.O.2.1 (λ V8 h1 h2 h3=>?_);have BR:=H6.O.2.2.T ((h3 V6 V6 an H7.O.2.2).mono H6.O.2.2.size);have H8:=eS ((h2 _ an).T H7.O.1) h1 BR;obtain⟨i0,i1,i2,i3,i4⟩:=lg H8.O.1;obtain⟨v0,v1,v2,v3,v4⟩:=lg H8.O.2.1;clear h1 h2 h3 BR)
    |((with_reducible refine(Hj.O _ H8.O.2.2).mono ?_);rintro e w2 ⟨rfl,hw⟩;rw[hw];clear hw w2)
    |((with_reducible refine(O5.O _).mono ?_);rintro e w2 ⟨rfl,hw⟩;rw[hw];clear hw w2)
    |((with_reducible refine(yE _).mono ?_);rintro e V9 ⟨rfl,ug⟩)
    |fail
   exact rX
end
end Go.Proofs.YtbiififbfefkjaaGreatDoor

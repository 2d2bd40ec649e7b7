/- The store, part 14. -/
import Derived.Test.YtbiififbfefkjaaGreatDoorMAi
set_option linter.unusedSimpArgs false
set_option linter.unusedVariables false
set_option maxRecDepth 100000
set_option maxHeartbeats 16000000
namespace Go.Proofs.YtbiififbfefkjaaGreatDoor
open Go.RowKit Go.Shelf
variable{p:Prop}{D B pos n v n₀ d nC o x Bw m:Nat}{W w A C U V:World}{tp tq:TypeId}{neg:Bool}{xs ds:List Nat}{k:Int}{ps:List Piece}
section
attribute [-go_sem] Builtin.append_
def A5:Nat->Nat->List Nat
 |0,_=>[]
 |k+1,m=>A5 k (m/10)++[48+m%10]
theorem nU:∀(k m:Nat),(A5 k m).length=k
 |0,_=>rfl
 |k+1,m=>by simp[A5,nU k]
theorem F7:∀(k m j:Nat),j<k->(A5 k m)[k - 1 - j]? =some (48+m/10^j%10)
 |0,_,_,h=>an
 |k+1,m,0,_=>by
  rw[A5,bJ (by rw[nU];omega),nU];simp
 |k+1,m,j+1,h=>by
  rw[A5,cO (by rw[nU];omega),show k+1 - 1 - (j+1)=k - 1 - j by omega,F7 k (m/10) j an,cQ,cK,dr]
theorem KQ:∀(k m:Nat),∀y∈A5 k m,y<256
 |0,_,_,h=>by simp[A5]at h
 |k+1,m,y,h=>by
  rw[A5]at h;rcases aG.1 h with h|h
  ·exact KQ k _ y h
  ·simp at h;omega
def lR:Nat->Nat->Nat
 |0,_=>1
 |f+1,m=>if m<10 then 1 else lR f (m/10)+1
def rA(m:Nat):List Nat:=A5 (lR 20 m) m
def ew(n:Int):List Nat:=if n<0 then 45::rA n.natAbs else rA n.natAbs
theorem uM:∀(f m:Nat),m<10^(f+1)->m/10^lR f m=0/\∀j,1<=j->j<lR f m->m/10^j≠0
 |0,m,h=>⟨by simp[lR];omega, λ j h1 h2=>by simp[lR]at h2;omega⟩
 |f+1,m,h=>by
  unfold lR;by_cases hm:m<10
  ·rw[if_pos hm];exact⟨by simp;omega, λ j h1 h2=>an⟩
  ·rw[if_neg hm];obtain⟨h1,h2⟩:=uM f (m/10) EP;refine⟨by rw[cK,dr,<-cQ];exact h1, λ j j1 j2=>?_⟩;obtain⟨i,rfl⟩:∃i,j=i+1:=⟨j - 1,an⟩;rw[cK,dr,<-cQ];by_cases hi:i=0
   ·subst hi;simp;omega
   ·exact h2 i an an
theorem CE:∀(f m:Nat),1<=lR f m
 |0,_=>cH
 |f+1,m=>by unfold lR;split<;>omega
theorem F8(m:Nat)(h:m<10^19):lR 20 m<=19:=by obtain⟨h1,h2⟩:=uM 20 m (Nat.lt_trans h de);refine jc λ hc=>h2 19 de hc ?_;exact jb h
theorem W9(d:Nat)(hd:d<10)(W:World):(Instr.index 9 (.string ⟨#[48,49,50,51,52,53,54,55,56,57]⟩) (.int .u64 (d:Int))).run Tryz.prog W= .ok (.int .u8 ((48+d:Nat):Int)) W:=by
 rcases d with _|_|_|_|_|_|_|_|_|_|d
 all_goals first|(rfl)|omega
structure PY(W:World)(R:Nat)(m k:Nat):Prop where
 arr:∃M:Array Value,W.heap[R]? =some (.cells M 210)/\M.size=20/\∀j,j<k->M[19 - j]? =some (.int .u8 ((48+m/10^j%10:Nat):Int))
theorem Jy(R b:Nat)(hb:b<20)(W:World):(Instr.sliceAt 210 (.pointer (zp R)) (some (.int .i64 (b:Int))) none none).run Tryz.prog W= .ok (.slice (some ⟨R,b,none⟩) (20 - b) (20 - b)) W:=by
 have h:Tryz.prog.arrayLen 210=20:=bU;have h2:(b:Int)<=(Tryz.prog.arrayLen 210:Nat):=by rw[h];omega
 have h3:(sizeOf (Tryz.prog.elem 210)).run Tryz.prog W= .ok 1 W:=bU;rw[run_sliceAt_array_l (P:=Tryz.prog) W 210 ⟨R,0,none⟩ bU .i64 (b:Int) an h2,h3];simp only[Result.andThen,slicedAt,h,Int.toNat_natCast,Nat.mul_one,rm,aN];rw[if_neg an]
theorem wU(h:p:=by
 obtain⟨b,rfl⟩:∃b,a=b+1:=⟨a - 1,an⟩;obtain⟨⟨v0,PZ⟩,hf0,nW⟩:=O4.O k b wr an hd.O hb.O;rw[<-hs.O]at nW;obtain⟨dg,afv⟩:=bL (s%10);obtain⟨c,hc⟩:=bL (48+dg);obtain⟨q,hq⟩:=bL (s/10);rw[<-afv,<-hc]at nW;have hdg:=W9 dg an;rw[<-hc]at hdg;have Ki:(s:Int)%10=(dg:Int):=an;have hcd:(s:Int)/10=(q:Int):=an;have wq:IntKind.u64.wrap (q:Int)=(q:Int):=by
  have h1:=HM.O.2;have h2:s<=m:=by rw[hs.O];exact jM _ _
  rw[bR];omega
 have hq':Hid (q=m/10^(k+1)):=ag (by rw[hq,hs.O,cK,cQ]);clear afv hc hq;have ady:k≠0->decide ((0:Int)<(s:Int))=true:= λ As=>by have:=HSP.O.2 k an cL;rw[<-hs.O]at this;simp;omega
 have ahy:(b:Int)<20:=an;by_cases As:k=0
 ·subst As;clear ady;obtain rfl:b=19:=an
  go_wp2_with fail
  exact⟨⟨1,19,q,an,an,hq',by simp,by simp,by simp,ag nW.O.1,ag nW.O.2⟩,by simp[intOf]⟩
 ·have hp:=ady As;have hp':decide (0<s)=true:=by simpa using hp
  have ai7:0<s:=by simpa using hp
  have hkd:decide (k=0)=false:=by simp[As]
  have HAK:=ag hak;clear ady hak
  go_wp2_with fail
  have hak:=HAK.O;exact⟨⟨k+1,b,q,an,an,hq',by simp,by simp,by simp,ag nW.O.1,ag nW.O.2⟩,by simp[intOf]⟩
 ):p:=h
theorem F9(n:Int)(kH: -9223372036854775808<=n)(pI:n<9223372036854775808)(w:World):
 Calls Tryz.prog 75 #[.int .i64 n] w λ e w'=>e= .returned (.string (cE (ew n)))/\Below w w w':=by
 obtain⟨m,hm⟩:=bL n.natAbs;have adz:m<=9223372036854775808:=an;have Mv:Hid (∀M:Array Value,M.size=20->PY (w.alloc (.cells M 210)) w m 0):=ag λ M hM=>⟨M,ai _ _,hM, λ j hj=>an⟩;have HM:=dO hm adz;have HSP:=ag (uM 20 m an);have h19:lR 20 m<=19:=F8 m an;obtain⟨D,hD⟩:=bL (lR 20 m);have HD:=ag hD;rw[<-hD]at HSP h19;have hD1:1<=D:=by rw[hD];exact CE _ _
 clear hD;have O4:Hid (∀(k a:Nat) (W:World),a+1+k=20->PY W w m k->Below w w W->(∃v,W.cell? ⟨w.heap.size,a,none⟩=some v)/\W.frozen? ⟨w.heap.size,a,none⟩=false/\Hid (PY (W.setCell ⟨w.heap.size,a,none⟩ (.int .u8 ((48+m/10^k%10:Nat):Int))) w m (k+1)/\Below w w (W.setCell ⟨w.heap.size,a,none⟩ (.int .u8 ((48+m/10^k%10:Nat):Int))))):=ag λ k a W hak hd hb=>by
  obtain⟨M,h1,h2,h3⟩:=hd.arr;refine⟨⟨M[a]'an,by rw[af h1];exact br an⟩,ax h1 a,ag ⟨⟨M.setIfInBounds a (.int .u8 ((48+m/10^k%10:Nat):Int)),aU _ h1,by rw[eN];exact h2, λ j hj=>?_⟩,hb.setCell (p:=⟨w.heap.size,a,none⟩) (cH) _⟩⟩;by_cases Y0:j=k
  ·subst Y0;rw[show 19 - j=a by omega,bZ an]
  ·rw[cT an];exact h3 j an
 have HFN:Hid (∀(k b:Nat) (W:World),b+1+k=20->k=D->PY W w m k->Below w w W->(convert 28 9 (.slice (some ⟨w.heap.size,b,none⟩) (k+1) (k+1))).run Tryz.prog (W.setCell ⟨w.heap.size,b,none⟩ (.int .u8 45))= .ok (.string (cE (45::rA m))) (W.setCell ⟨w.heap.size,b,none⟩ (.int .u8 45))/\Below w w (W.setCell ⟨w.heap.size,b,none⟩ (.int .u8 45))):=ag λ k b W yQ hkD hd hb=>by
  obtain⟨M,h1,h2,h3⟩:=hd.arr;have hx:=aU (j:=b) (.int .u8 45) h1;have th:rA m=A5 k m:=by unfold rA;rw[hkD,HD.O]
  have iL:ay (W.setCell ⟨w.heap.size,b,none⟩ (.int .u8 45)) (some ⟨w.heap.size,b,none⟩) (45::rA m):=by
   refine⟨λ x hx=>?_,.inr ⟨_,_,rfl, λ j x hj=>?_⟩⟩
   ·rcases aO.1 hx with rfl|hx
    ·decide
    ·rw[th]at hx;exact KQ k m x hx
   ·rw[af hx];rcases j with _|j
    ·cases hj;rw[bb,bZ an];rfl
    ·rw[cT an];rw[eV,th]at hj;have Y0:j<k:=by have:=(aC.1 hj).1;rwa [nU]at this
     have h4:=F7 k m (k - 1 - j) an;rw[show k - 1 - (k - 1 - j)=j by omega,hj]at h4;cases h4;rw[show b+(j+1)=19 - (k - 1 - j)by omega];exact h3 _ an
  exact⟨fu iL (by simp[th,nU]),hb.setCell (p:=⟨w.heap.size,b,none⟩) (cH) _⟩
 have HFP:Hid (∀(k a:Nat) (W:World),a+k=20->k=D->PY W w m k->(convert 28 9 (.slice (some ⟨w.heap.size,a,none⟩) k k)).run Tryz.prog W= .ok (.string (cE (rA m))) W):=ag λ k a W yQ hkD hd=>by
  obtain⟨M,h1,h2,h3⟩:=hd.arr;have th:rA m=A5 k m:=by unfold rA;rw[hkD,HD.O]
  have iL:ay W (some ⟨w.heap.size,a,none⟩) (rA m):=by
   refine⟨λ x hx=>by rw[th]at hx;exact KQ k m x hx,.inr ⟨_,_,rfl, λ j x hj=>?_⟩⟩;rw[af h1];rw[th]at hj;have Y0:j<k:=by have:=(aC.1 hj).1;rwa [nU]at this
   have h4:=F7 k m (k - 1 - j) an;rw[show k - 1 - (k - 1 - j)=j by omega,hj]at h4;cases h4;rw[show a+j=19 - (k - 1 - j)by omega];exact h3 _ an
  exact fu iL (by simp[th,nU])
 have HDV:Hid (n<0->ew n=45::rA m):=ag λ h=>by unfold ew;rw[if_pos h,<-hm]
 have HDP:Hid (¬ n<0->ew n=rA m):=ag λ h=>by unfold ew;rw[if_neg h,<-hm]
 clear hm adz;by_cases yM:n<0
 ·have d1:decide (n<0)=true:=by simpa using yM
  have w1:IntKind.u64.wrap n=18446744073709551616 - (m:Int):=by rw[bR];have:=HM.O.1;omega
  have w2:IntKind.u64.wrap (-(18446744073709551616 - (m:Int)))=(m:Int):=by rw[bR];have:=HM.O.1;omega
  have adA:=ag yM;clear kH pI yM;go_enter Tryz.func75,Tryz.ntmps75
  go_wp2_with fail
  go_loopw [3,5,6] (λ sv av fv wr=>∃k a s:Nat,k<=D/\a+k=20/\Hid (s=m/10^k)/\sv= .int .u64 (s:Int)/\av= .int .i64 (a:Int)/\fv= .bool (decide (k=0))/\Hid (PY wr w m k)/\Hid (Below w w wr)) (λ _ av _ _=>(intOf av).toNat)
  case atStart=>exact⟨0,20,m,aD _,rfl,ag cP,rfl,rfl,rfl,Mv.O _ rfl,ag ((ah _ w).alloc (cH) _)⟩
  case round=>
   obtain⟨k,a,s,hk,hak,hs,rfl,rfl,rfl,hd,hb⟩:=hrel;by_cases cL:k<D
   ·exact wU
   ·have hkD:k=D:=an;subst hkD;have Xa:s=0:=by rw[hs.O];exact HSP.O.1
    subst Xa;have As:decide (k=0)=false:=dU;have ahz:¬ k=0:=an;obtain⟨b,rfl⟩:∃b,a=b+1:=⟨a - 1,an⟩;have ahy:(b:Int)<20:=an;have aeu:b<20:=an;obtain⟨⟨v0,PZ⟩,hf0, -⟩:=O4.O k b wr an hd.O hb.O;have zO:=Jy w b an;have adB:=HFN.O k b wr an rfl hd.O hb.O;have hcv:=adB.1;have HE2:=ag adB.2;have HAK:=ag hak;have yQ:20 - b=k+1:=an;rw[yQ]at zO;clear hak cL adB yQ
    go_wp2_with fail
    go_ret;exact⟨by rw[HDV.O adA.O];rfl,HE2.O⟩
 ·have d1:decide (n<0)=false:=by simpa using yM
  have w1:IntKind.u64.wrap n=(m:Int):=by rw[bR];have:=HM.O.1;omega
  have adA:=ag yM;clear kH pI yM;go_enter Tryz.func75,Tryz.ntmps75
  go_wp2_with fail
  go_loopw [3,5,6] (λ sv av fv wr=>∃k a s:Nat,k<=D/\a+k=20/\Hid (s=m/10^k)/\sv= .int .u64 (s:Int)/\av= .int .i64 (a:Int)/\fv= .bool (decide (k=0))/\Hid (PY wr w m k)/\Hid (Below w w wr)) (λ _ av _ _=>(intOf av).toNat)
  case atStart=>exact⟨0,20,m,aD _,rfl,ag cP,rfl,rfl,rfl,Mv.O _ rfl,ag ((ah _ w).alloc (cH) _)⟩
  case round=>
   obtain⟨k,a,s,hk,hak,hs,rfl,rfl,rfl,hd,hb⟩:=hrel;by_cases cL:k<D
   ·exact wU
   ·have hkD:k=D:=an;subst hkD;have Xa:s=0:=by rw[hs.O];exact HSP.O.1
    subst Xa;have As:decide (k=0)=false:=dU;have ahz:¬ k=0:=an;have aeu:a<20:=an;have zO:=Jy w a an;have hcv:=HFP.O k a wr an rfl hd.O;have HE2:=hb;have HAK:=ag hak;have yQ:20 - a=k:=an;have ai8:(a:Int)<=20:=an;rw[yQ]at zO;clear hak cL yQ
    go_wp2_with fail
    go_ret;exact⟨by rw[HDP.O adA.O];rfl,HE2.O⟩
end
section
attribute [local go_sem] Oper.semAt_some
attribute [-go_sem] Builtin.append_
abbrev gE(n:Int):Array Value:=(qv n)
theorem Xb(n:Int)(w:World):Calls Tryz.prog 183 #[.agg (gE n),.int .i64 n,.string ⟨#[]⟩,.int .i64 0] w λ e w'=>e= .returned (.bool true)/\Below w w w':=by
 go_enter Tryz.func183,Tryz.ntmps183
 go_wp2_with fail
 go_ret;refine⟨?_,?_⟩
 ·rfl
 ·go_grown
theorem Tq(n:Int)(w:World):Calls Tryz.prog 142 #[.agg (gE n)] w λ e w'=>e= .returned (.bool true)/\Below w w w':=by
 go_enter Tryz.func142,Tryz.ntmps142
 go_wp2_with first
  |((with_reducible refine(Xb n _).mono ?_);rintro e w2 ⟨rfl,hb⟩;have HB:=ag hb;clear hb)
  |fail
 go_ret;refine⟨rfl,?_⟩;exact(by go_grown:Below w w _).T (HB.O.mono cP)
theorem abS(w:World):Calls Tryz.prog 103 #[.int .i64 3] w λ e w'=>e= .returned (.bool false)/\w'=w:=by
 go_enter Tryz.func103,Tryz.ntmps103
 go_wp2_with fail
 go_ret;exact⟨rfl,rfl⟩
theorem Tr(n:Int)(w:World):Calls Tryz.prog 104 #[.agg (gE n)] w λ e w'=>e= .returned (.bool true)/\Below w w w':=by
 have i2:IntKind.i64.wrap 2=2:=bU;go_enter Tryz.func104,Tryz.ntmps104
 go_wp2_with fail
 refine bP 18 ?_;refine tP [0,1,2,3,4,5,6,7,8,9,10,11,12,13,14] ?_
 iterate 15 refine tO ?_
 refine au 3 rfl ?_;refine sP 15 [0,1,2,3,4,5,6,7,8,9,10,11,12,13,14] λ K hK=>?_;go_simp;(with_reducible refine(Tq n _).mono ?_);rintro e w2 ⟨rfl,hb⟩;have HB:=ag hb;clear hb;refine nP hK ?_;clear hK K;refine tP [16,17] ?_
 iterate 2 refine tO ?_
 refine au 0 rfl ?_;refine dP ?_;go_simp
 go_wp2_with fail
 go_ret;refine⟨rfl,?_⟩;exact(jY bW (HB.O.mono dt))
abbrev afw(b1:Nat):Value:=.func (.func 138) #[] (iS (zp b1))
theorem aap(n:Int)(w:World):Calls Tryz.prog 102 #[.agg (gE n)] w λ e w'=>e= .returned (afw w)/\w'=w.alloc (.cells (gE n) 49):=by
 go_enter Tryz.func102,Tryz.ntmps102
 go_wp2_with fail
 go_ret;exact⟨rfl,rfl⟩
def vh(D:Nat)(A C:World):Prop:=A.heap.size<=C.heap.size/\∀k o,D<=k->A.heap[k]? =some o->o.isCells=true->C.heap[k]? =some o
theorem Xc{N ll B2 B3:Nat}(n:Int){J J' Jx':World->Prop}(h2:Boxed W B2 248 (.func (.yield ll) #[] #[]))(hD:D<=W.heap.size)(hN:1<=N)
 (hJ:∀A C,J A->iB W (λ _=>False) A C->J C)(h0:J W)
 (hY:∀W1,J W1->YieldAt Fence.wide (N - 1) Tryz.prog ll #[.int .i64 0,.agg (gE n)] W1 λ e W'=>(e= .returned (.bool true)/\J' W'/\vh D W1 W')\/(e= .returned (.bool false)/\Jx' W'/\vh D W1 W')):
 Calls Tryz.prog 139 #[.int .i64 0,.agg (gE n),.pointer (zp B2),.pointer (zp B3)] W λ e W'=>(e= .returned (.bool true)/\J' W')\/(e= .returned (.bool false)/\Jx' W'):=by
 refine(callsIn_wide (n:=N)).1 ?_;obtain⟨w1,bY⟩:=bL (W.alloc (.cells (gE n) 49));have cN:Below W W w1:=by rw[bY];exact(ah _ W).alloc (cH) _
 have p2:=carry cN h2.cell;have eb:w1.heap[W.heap.size]? =some (.cells (gE n) 49):=qK bY;obtain⟨f1,t1,a1,b1,tt,YZ⟩:=hY w1 (hJ _ _ h0 (iB.bH cN));have LG:=ag eb;have HD:=ag hD;clear hJ h2 h0 hY cN eb hD;rw[bY]at p2 tt;refine callsIn_of_wp Tryz.func139 rfl trivial ?_ rfl;simp only[Tryz.ntmps139,UD,Nat.reduceAdd,Nat.reduceSub]
 gi_wp2_with fail
 rw[<-bY];refine YZ.mono ?_;rintro e w2 (⟨rfl,hj,hk⟩|⟨rfl,hj,hk⟩)
 ·have z3:=(af (hk.2 _ _ HD.O LG.O rfl) 3).T rfl;simp only[cW]at z3;have HJ:=ag hj;clear hj hk YZ tt p2
  gi_wp2_with fail
  gi_loopw [17] (λ iv wr=>iv= .int .i64 0/\wr=w2) (λ _ _=>0)
  case atStart=>exact⟨rfl,rfl⟩
  case round=>
   obtain⟨rfl,rfl⟩:=hrel
   gi_wp2_with fail
   go_ret;exact .inl ⟨rfl,HJ.O⟩
 ·gi_wp2_with fail
  go_ret;exact .inr ⟨rfl,hj⟩
theorem P0{Ba:Nat}{n:Int}(ha:w.heap[Ba]? =some (.cells (gE n) 49)):
 Mt Tryz.prog 138 (iS (zp Ba)) (λ _:Unit=>#[.int .i64 0,.agg (gE n)]) (vh w) (λ _=>False) (λ _=>True) (λ pre=>pre=[()]) (λ _ _=>True) (λ s=>s=[()]) w:=by
 intro N l J Jx W hn qy hJ hJx hY h0;refine callsIn_wide.2 ?_;have haW:=(qy.block Ba (cS ha).1).T ha;obtain⟨w1,bY⟩:=bL (((W.alloc (.cells #[.func (.yield l) #[] #[]] 248)).alloc (.cells (BX (.func (.func 139) #[] (oR (zp W) (zp (W+1))))) 248)));have eb:=bu (w2:=w1) fq;have cN:Below W W w1:=by rw[bY];go_grown
 have HT:=ag (Xc (B3:=W.heap.size+1) n (J:=J []) (J':=J [()]) (Jx':=Jx [()]) (N:=N) eb.1 (show w.heap.size<=w1.heap.size from aj qy.size cN.size) an (λ A C h k=>hJ _ _ _ h ⟨k.size,k.os,k.tape,k.output, λ i o hi hd hm=>k.eG i o hi (hd.imp (λ h=>aA h cN.size) id) hm⟩) (hJ _ _ _ h0 (iB.bH cN)) (λ W1 h=>hY [] () W1 h rfl trivial));have ct:= λ j=>af ((cN.block Ba (cS haW).1).T haW) j;have t0:=(ct 0).T rfl;have t1:=(ct 1).T rfl;have t2:=(ct 2).T rfl;have t3:=(ct 3).T rfl;have t4:=(ct 4).T rfl;simp only[cW]at t0 t1 t2 t3 t4;rw[bY]at t0 t1 t2 t3 t4;clear ct eb cN haW hJ hJx hY h0 qy ha;rw[bY]at HT;clear bY;go_enter Tryz.func138,Tryz.ntmps138
 go_wp2_with first
  |((with_reducible refine HT.O.mono ?_);rintro e w2 (⟨rfl,hj⟩|⟨rfl,hj⟩))
  |fail
 all_goals
  go_wp2_with fail
  go_end0
  first
   |exact⟨⟨_,rfl⟩,.inl ⟨_,rfl,hj⟩,trivial⟩
   |exact⟨⟨_,rfl⟩,.inr ⟨_,rfl,hj⟩,trivial⟩
def qk(D:Nat)(A C:World):Prop:=A.heap.size<=C.heap.size/\∀k o,D<=k->A.heap[k]? =some o->C.heap[k]? =some o
theorem qk.setCell{D:Nat}{A B:World}(h:qk D A B){a:Addr}(ha:a.block<D)(v:Value):qk D A (B.setCell a v):=⟨by simpa[World.setCell]using h.1, λ k o hk ho=>(aq B a v k an).T (h.2 k o hk ho)⟩
theorem qk.below{B:World}(h:qk D A B)(hb:Below B B C):qk D A C:=⟨aj h.1 hb.size, λ k o hk ho=>(hb.block k (cS (h.2 k o hk ho)).1).T (h.2 k o hk ho)⟩
theorem qk.refl(D:Nat)(A:World):qk D A A:=⟨cH, λ _ _ _ h=>h⟩
theorem qk.from{B:World}(h:qk D A B):KeepsFrom D A B:=⟨h.1, λ k o hD ho _=>h.2 k o hD ho⟩
theorem qk.c{B:World}(h:qk D A B):vh D A B:=⟨h.1, λ k o hk ho _=>h.2 k o hk ho⟩
theorem vh.T{B:World}(h:vh D A B)(k:vh D B C):vh D A C:=⟨aj h.1 k.1, λ i o hi ho hc=>k.2 i o hi (h.2 i o hi ho hc) hc⟩
theorem vh.putObj{D:Nat}(W:World)(l:Nat)(o o':Obj)(h:W.heap[l]? =some o)(ho:o.isCells=false):vh D W (W.putObj l o'):=⟨by simp, λ k u _ hk hc=>(aV (λ e=>by subst e;rw[h]at hk;cases hk;rw[ho]at hc;cases hc)).T hk⟩
theorem RA{P:Program}{c:Code}{K:Act->World->Prop}{Q:Exit->Act->World->Prop}{a:Act}(h:c.wp P (Exit.then K (λ _ _ _=>False)) a w):c.wp P (Exit.then K Q) a w:=
 wp_mono h λ e _ _ h=>by cases e<;>first|exact h|exact h.elim
theorem Ny{fn:Func}{p q r:Tmp}{tr:TypeId}(h:fn.results=#[.cell p tp,.cell q tq,.cell r tr])(tmps:Array Value)(P:Program)(w:World):
 (results fn tmps).run P w=
   ((asAddr (tmps.getD p undef)).run P w).andThen λ a Ku=>((loadVar tp a).run P Ku).andThen λ x Pu=>((asAddr (tmps.getD q undef)).run P Pu).andThen λ b Xd=>((loadVar tq b).run P Xd).andThen λ y Xe=>
     ((asAddr (tmps.getD r undef)).run P Xe).andThen λ c ahA=>((loadVar tr c).run P ahA).andThen λ z ahB=>.ok (.tuple #[x,y,z]) ahB:=by
 simp only[results,h];simp[eD,Result.andThen]
theorem Nz(n:Int)(w:World):Calls Tryz.prog 67 #[.agg (gE n)] w λ e w'=>e= .returned (.tuple #[.int .i64 0,.int .i64 1,.bool true])/\Below w w w':=by
 obtain⟨B,hB⟩:=bL w.heap.size;obtain⟨w1,bY⟩:=bL ((((w.alloc (.cells (gE n) 49)).alloc (.cells zl 3)).alloc (.cells zl 3)).alloc (.cells #[.bool true] 4));obtain⟨w2,fH⟩:=bL (w1.alloc (.cells (gE n) 49));have cN:Below w w w1:=by rw[bY];go_grown
 have bG:Below w1 w1 w2:=by rw[fH];exact(ah _ w1).alloc (cH) _
 have s1:w1.heap.size=B+1+1+1+1:=by rw[bY,hB];simp
 have s2:w2.heap.size=B+1+1+1+1+1:=by rw[fH];simp[s1]
 have key:∀(w1:World) (n:Nat) (x:Obj),n=w1.heap.size->(w1.alloc x).heap[n]? =some x:= λ w1 n x e=>e▸ai w1 x;have h2:Boxed w2 (B+1) 3 (.int .i64 0):=(bG.block _ an).T (by rw[bY];exact(aT _ _ _ (by simp[<-hB]<;>omega)).T ((aT _ _ _ qP).T (key _ _ _ qP)));have h3:Boxed w2 (B+1+1) 3 (.int .i64 0):=(bG.block _ an).T (by rw[bY];exact(aT _ _ _ qP).T (key _ _ _ qP));have h4:Boxed w2 (B+1+1+1) 4 (.bool true):=(bG.block _ an).T (by rw[bY];exact key _ _ _ qP);have hx:w2.heap[w1.heap.size]? =some (.cells (gE n) 49):=qK fH;have IN:=ag (P0 hx);have HA:=ag (aap n w1);rw[<-fH]at HA;have eJ:=ag (cN.T (bG.mono cN.size));have vb:=eS h2 h3 h4;have HS:=ag s2;have ahC:=bY;rw[s1]at IN HA;rw[bY]at HA;clear h2 h3 h4 hx cN bG key fH ahC bY s1 s2;refine(callsIn_wide (n:=5)).1 ?_;refine callsIn_of_wp_marks Tryz.func67 rfl trivial ?_ rfl;simp only[Tryz.ntmps67,UD,Nat.reduceAdd,Nat.reduceSub];refine wpIn_wide.2 ?_;subst hB
 go_wp2_with fail
 go_step3
 go_wp2_with fail
 go_step3
 go_wp2_with first
  |((with_reducible refine HA.O.mono ?_);rintro e w3 ⟨rfl,gV⟩;rw[gV];clear gV w3)
  |fail
 have s2:=HS.O;refine(wpIn_wide (n:=5)).1 ?_;refine PU (n:=5) an rfl (enters_of Tryz.func138 bU rfl) IN.O (λ _ _ _ _ _=>trivial) vh.T (λ W l o o' _ h1 h2=>vh.putObj W l o o' h1 h2) (gb) (λ _=>rfl) (λ _ h=>h.elim)
  (λ pre W=>Boxed W (w+1) 3 (.int .i64 0)/\Boxed W (w+1+1) 3 (.int .i64 (pre.length:Int))/\Boxed W (w+1+1+1) 4 (.bool true)/\Below w w W)
  (λ _ _ _=>False) ?hI (λ _ _ _ _ h _=>h) (λ _ _ _ _ _ _ _ _=>trivial) ⟨vb.O.1,vb.O.2.1,vb.O.2.2,eJ.O⟩
  (λ _ U=>{tmps:=#[.agg (gE n),.pointer (zp w),.pointer (zp (w+1)),.pointer (zp (w+1+1)),.pointer (zp (w+1+1+1)),.int .i64 0,.pointer (zp U),.agg (gE n),afw (w+1+1+1+1),.int .i64 0,.agg (gE n),undef,undef,undef,undef,undef,undef,undef,undef,undef,undef,undef,undef,undef,undef,undef,undef,undef,undef,undef,undef,undef,undef,undef,undef],defers:=[]}) (λ _ U=>U.alloc (.cells (gE n) 49)) (λ _ U=>(ah _ U).alloc (cH) _) (λ _ U h=>(qk.refl _ U).c.T ⟨by simp, λ k o _ hk _=>(aT _ _ _ (cS hk).1).T hk⟩) ?assign ?body ?done (λ _ _ _ _ _ _ h=>h.elim)
 case assign=>
  intro l x W K hK;gi_wp2;exact hK
 case hI=>
  rintro pre U V ⟨h1,h2,h3,h4⟩ hk;exact⟨mL h1 hk id,mL h2 hk id,mL h3 hk id,ni h4 hk an (λ _ _ h=>h) (cH)⟩
 case body=>
  rintro l pre x U W hU iU ⟨h1,h2,h3,h4⟩ mD -;obtain rfl:pre=[]:=by cases pre;rfl;simp at mD
  have hx:=iU U _ (ai U _) rfl;obtain⟨u1,J9⟩:=bL (W.setCell (za (w+1+1) 0) (.int .i64 1));have g1:Boxed u1 (w+1) 3 (.int .i64 0):=by rw[J9];exact(aq _ _ _ _ cP).T h1
  have g2:Boxed u1 (w+1+1) 3 (.int .i64 1):=by rw[J9];exact aU (j:=0) _ h2
  have g3:Boxed u1 (w+1+1+1) 4 (.bool true):=by rw[J9];exact(aq _ _ _ _ cP).T h3
  have gx:u1.heap[U.heap.size]? =some (.cells (gE n) 49):=by rw[J9];exact(aq _ _ _ _ dU).T hx
  have HK:Hid (∀V,Below u1 u1 V->V.cell? (za (w+1+1+1) 0)=some (.bool true)/\V.frozen? ⟨w.heap.size+1+1+1,0,none⟩=false/\Hid (qk w2 W (V.setCell (za (w+1+1+1) 0) (.bool true))/\Boxed (V.setCell (za (w+1+1+1) 0) (.bool true)) (w+1) 3 (.int .i64 0)/\Boxed (V.setCell (za (w+1+1+1) 0) (.bool true)) (w+1+1) 3 (.int .i64 1)/\Boxed (V.setCell (za (w+1+1+1) 0) (.bool true)) (w+1+1+1) 4 (.bool true)/\Below w w (V.setCell (za (w+1+1+1) 0) (.bool true)))):=ag λ V hb=>by
   have k1:=(hb.block _ (cS g1).1).T g1;have k2:=(hb.block _ (cS g2).1).T g2;have k3:=(hb.block _ (cS g3).1).T g3;have ka:qk w2 W u1:=by rw[J9];exact(qk.refl _ _).setCell dU _
   have hbu:Below w w u1:=by rw[J9];exact h4.setCell dU _
   exact⟨dx k3,ax k3 0,ag ⟨(ka.below hb).setCell dU _,(aq _ _ _ _ cP).T k1,(aq _ _ _ _ cP).T k2,aU (j:=0) _ k3,(hbu.T (hb.mono hbu.size)).setCell dU _⟩⟩
  have m1:=dx h2;have f1:=ax h2 0;have c1:=dx g1;have c2:=dx g2;have ct:= λ j=>af gx j;have t0:=(ct 0).T rfl;have t1:=(ct 1).T rfl;have t2:=(ct 2).T rfl;have t3:=(ct 3).T rfl;have t4:=(ct 4).T rfl;simp only[cW]at t0 t1 t2 t3 t4;have HIS:=ag (Tr n u1);rw[J9]at c1 c2 t0 t1 t2 t3 t4 HIS;have HU:=ag J9;clear h1 h2 h3 h4 mD iU hx g1 g2 g3 gx ct hU J9 vb HA IN
  gi_wp2_with first
   |((refine⟨True.intro,(jJ l (callsIn_wide.2 (abS _))).mono ?_⟩);rintro e w5 ⟨rfl,kY⟩;rw[kY];clear kY w5)
   |((refine⟨True.intro,(jJ l (callsIn_wide.2 HIS.O)).mono ?_⟩);rintro e w5 ⟨rfl,dV⟩;rw[<-HU.O]at dV;obtain⟨y0,y1,y2⟩:=HK.O w5 dV;clear dV m1 f1 c1 c2 t0 t1 t2 t3 t4)
   |fail
  obtain⟨e1,e2,e3,e4,e5⟩:=y2.O;exact⟨e1.from,e1.c,e2,e3,e4,e5⟩
 case done=>
  rintro D s W hD rfl ⟨h1,h2,h3,h4⟩ - hK;have c1:=dx h1;have c2:=dx h2;have c3:=dx h3;have q1:=ax h1 0;have q2:=ax h2 0;have q3:=ax h3 0;obtain⟨W3,P1⟩:=bL ((((W.setCell (za (w+1) 0) (.int .i64 0)).setCell (za (w+1+1) 0) (.int .i64 1)).setCell (za (w+1+1+1) 0) (.bool true)).drew);have r1:W3.cell? (za (w+1) 0)=some (.int .i64 0):=dx (show W3.heap[w.heap.size+1]? =some (.cells zl 3)by
   rw[P1];exact(aq _ _ _ _ dt).T ((aq _ _ _ _ dt).T (aU (j:=0) _ h1)))
  have r2:W3.cell? (za (w+1+1) 0)=some (.int .i64 1):=dx (show W3.heap[w.heap.size+1+1]? =some (.cells #[.int .i64 1] 3)by
   rw[P1];exact(aq _ _ _ _ dt).T (aU (j:=0) _ ((aq _ _ _ _ dt).T h2)))
  have r3:W3.cell? (za (w+1+1+1) 0)=some (.bool true):=dx (show W3.heap[w.heap.size+1+1+1]? =some (.cells #[.bool true] 4)by
   rw[P1];exact aU (j:=0) _ ((aq _ _ _ _ dt).T ((aq _ _ _ _ dt).T h3)))
  have hK3:W3.heap[D]? =some (.deferred (some [])):=by rw[P1];exact(aq _ _ _ _ dt).T ((aq _ _ _ _ dt).T ((aq _ _ _ _ dt).T hK))
  have ek:Hid (Below w w (W3.putObj D (.deferred none))):=ag (ld (by rw[P1];exact(((h4.setCell dt _).setCell dt _).setCell dt _).drew) _ hK3 an);have HK:=ag hK3;have HR:=eS r1 r2 r3;have nE:=ag P1;have HD:=ag hD;clear hD h1 h2 h3 h4 hK IN HA hK3 r1 r2 r3 P1
  go_wp2_with fail
  refine RA ?_;refine bP 6 ?_;refine tP [0,1,2] ?_
  iterate 3 refine tO ?_
  refine au 3 rfl ?_;refine sP 3 [0] λ K hK=>?_;go_simp;refine nP hK ?_;clear hK K;refine sP 4 [0,1,3] λ K hK=>?_;go_simp;refine nP hK ?_;clear hK K;refine sP 5 [0,1,2,3,4] λ K hK=>?_;go_simp;refine nP hK ?_;clear hK K;refine dP ?_;go_simp;rw[<-nE.O]
  go_wp2_with fail
  have HD':=HD.O;have R1:(W3.putObj D (.deferred none)).cell? (za (w+1) 0)=some (.int .i64 0):=(bq (w:=W3) (aV dt)).T HR.O.1;have R2:(W3.putObj D (.deferred none)).cell? (za (w+1+1) 0)=some (.int .i64 1):=(bq (w:=W3) (aV dt)).T HR.O.2.1;have R3:(W3.putObj D (.deferred none)).cell? (za (w+1+1+1) 0)=some (.bool true):=(bq (w:=W3) (aV dt)).T HR.O.2.2;clear HD';refine⟨by simp,.inl ⟨_,_,rfl,run_takeDeferred HK.O,?_⟩⟩;refine⟨.tuple #[.int .i64 0,.int .i64 1,.bool true],?_,rfl,ek.O⟩;rw[Ny rfl];go_simp
theorem Ts(n:Int)(w:World):Calls Tryz.prog 39 #[.agg (gE n)] w λ e w'=>e= .returned (.bool true)/\Below w w w':=by
 go_enter Tryz.func39,Tryz.ntmps39
 go_wp2_with first
  |((with_reducible refine(Nz n _).mono ?_);rintro e w2 ⟨rfl,hb⟩;have HB:=ag hb;clear hb)
  |fail
 go_ret;exact⟨rfl,jY bW (HB.O.mono dt)⟩
theorem Ag(n:Int)(w:World):Calls Tryz.prog 21 #[.agg (gE n)] w λ e w'=>e= .returned (.int .i64 0)/\Below w w w':=by
 go_enter Tryz.func21,Tryz.ntmps21
 go_wp2_with first
  |((with_reducible refine(Ts n _).mono ?_);rintro e w2 ⟨rfl,hb⟩;have HB:=ag hb;clear hb)
  |fail
 go_ret;exact⟨rfl,jY bW (HB.O.mono dt)⟩
end
abbrev WT:TypeId:=118
theorem bsize:(Tryz.prog.info? 116).map (·.size)=some 2:=bU
theorem aev:liesAt Tryz.prog Tryz.prog.depth 118 (2/Tryz.prog.cellsOf 118) 0 116 1=true:=bU
theorem KR(b:Nat)(w:World)(h0:w.cell? (za b 0)=some (.pointer none))(hsh:w.shape? b=some (WT,2))(hfz:w.frozen? ⟨b,0,none⟩=false):
 Calls Tryz.prog 69 (iS (zp b)) w λ e w'=>e= .returned (.tuple #[])/\w'=w.setCell (za b 0) (.pointer (zp b)):=by
 obtain⟨j,hj,hjs⟩:=gh.1 bsize;go_enter Tryz.func69,Tryz.ntmps69
 go_wp2_with fail
 rw[Lib.run_to_unsafe w ⟨b,0,none⟩ Tryz.underlying114 Tryz.underlying203 hj (by rw[hjs];decide) hsh (Nat.zero_lt_succ 1)];simp only[Result.andThen];rw[lJ]
 go_wp2_with fail
 rw[run_callFunc_extern Tryz.func108 bU bU bU (e:=Extern.AbiNoEscape.same) bU];rw[Lib.run_noEscape];simp only[Result.andThen];rw[lJ]
 go_wp2_with fail
 rw[Lib.run_from_unsafe w ⟨b,0,none⟩ Tryz.underlying203 Tryz.underlying114 hj hsh aev];simp only[Result.andThen];rw[lJ]
 go_wp2_with fail
 go_end0;exact⟨rfl,rfl⟩
theorem NC(b:Nat)(w:World)(h0:w.cell? (za b 0)=some (.pointer (zp b))):
 Calls Tryz.prog 69 (iS (zp b)) w λ e w'=>e= .returned (.tuple #[])/\w'=w:=by
 obtain⟨j,hj,_⟩:=gh.1 bsize;go_enter Tryz.func69,Tryz.ntmps69
 go_wp2_with fail
 rw[Lib.run_neq_ptr_same w _ Tryz.underlying114 hj]
 go_wp2_with fail
 go_end0;exact⟨rfl,rfl⟩
theorem aaq(n:Nat)(hn:n<=281474976710656)(w:World):∃cs:Array Value,(callFunc 109 (Ih n)).run Tryz.prog w.drew= .ok (.value (.slice (zp w) n cs.size)) (w.drew.drew.drew.alloc (.cells cs 5))/\n<=cs.size/\cs.size<=maxLen:=by obtain⟨cs,Tt,hle,Ee⟩:=Lib.run_makeNoZero (P:=Tryz.prog) w.drew #[3] 28 5 Tryz.underlying28 n hn;refine⟨cs,?_,hle,Ee (by unfold maxLen;omega)⟩;rw[run_callFunc_extern Tryz.func109 bU bU bU (e:=Extern.BytealgMakeNoZero.makeNoZero #[3] #[28]) bU,Tt];rfl
theorem NG(b n:Nat)(w:World)(yQ:w.heap[b]? =some (.cells (acQ (zp b)) WT))(hn:n<=1000):
 Calls Tryz.prog 70 (acR (zp b) n) w λ e w'=>e= .returned (.tuple #[])/\∃cs:Array Value,n<=cs.size/\cs.size<=maxLen/\w'=((w.alloc (.cells cs 5)).setCell (za b 1) (.slice (zp w) 0 cs.size)).drew.drew.drew:=by
 obtain⟨cs,aiJ,hle,Ee⟩:=aaq n an w;have cL:=(cS yQ).1;have h2:(w.alloc (.cells cs 5)).heap[b]? =some (.cells (acQ (zp b)) WT):=(gO w _ b cL).T yQ;have c1:=(af yQ 1).T rfl;have c2:=(af h2 1).T rfl;simp only[cW]at c1 c2;have f2:=ax h2 1;have i0:IntKind.i64.wrap 0=0:=bU;have i1:IntKind.i64.wrap (n:Int)=n:=by rw[aI];omega
 have aiK:∀W:World,(Builtin.copy_ #[28,28] 3 #[.slice (zp w) 0 cs.size,.slice none 0 0]).run Tryz.prog W= .ok (goInt 0) W:=
  λ W=>run_copy_none W 28 28 3 5 _ _ 0 cs.size 0 0 Tryz.underlying28 bU rfl
 have HC:=dO hle Ee;clear hle Ee h2 yQ cL;go_enter Tryz.func70,Tryz.ntmps70
 go_wp2_with fail
 refine bP 16 ?_;refine tP [0,1,2,3,4,5,6,7,9,10,11,12,13] ?_
 iterate 13 refine tO ?_
 refine au 3 rfl ?_;refine sP 8 [0,1,2,3,4,5,6,7] λ K hK=>?_;go_simp;refine nP hK ?_;clear hK K;refine tP [14,15] ?_
 iterate 2 refine tO ?_
 refine au 0 rfl ?_;refine dP ?_;go_simp
 go_wp2_with fail
 go_end0;exact⟨rfl,_,HC.O.1,HC.O.2,rfl⟩
abbrev P2(B b:Nat)(bs:List Value)(w:World):Prop:=Lib.BuilderAt WT 5 B b (.pointer (zp b)) bs w
theorem aew(B b n:Nat)(w:World)(hB:B<=b)(yQ:w.heap[b]? =some (.cells acP WT))(kH:1<=n)(hn:n<=1000)(ze:B<=w.heap.size):
 Calls Tryz.prog 41 (acR (zp b) n) w λ e w'=>e= .returned (.tuple #[])/\P2 B b [] w'/\Below B w w':=by
 obtain⟨w1,bY⟩:=bL (w.setCell (za b 0) (.pointer (zp b)));have acp:w1.heap[b]? =some (.cells (acQ (zp b)) WT):=by rw[bY];exact aU (j:=0) _ yQ
 have cN:Below B w w1:=by rw[bY];exact(ah B w).setCell (p:=(za b 0)) hB _
 have c1:=(af acp 1).T rfl;simp only[cW]at c1;have HCF:=ag (KR b w ((af yQ 0).T rfl) (by simp[World.shape?,yQ]) (ax yQ 0));rw[<-bY]at HCF;have HG:=ag (NG b n w1.drew acp hn);have HB:=eS cN acp (show B<=w1.drew.heap.size from aj ze cN.size);have i0:IntKind.i64.wrap 0=0:=bU;have hn0:(0:Int)<(n:Int):=an;have ai9:0<n:=kH;have Dc:¬ ((n:Int)<0):=an;clear acp cN bY yQ kH hn ze;go_enter Tryz.func41,Tryz.ntmps41
 go_wp2_with first
  |((with_reducible refine HCF.O.mono ?_);rintro e w2 ⟨rfl,fH⟩;rw[fH];clear fH w2)
  |fail
 refine bP 13 ?_;refine tP [0,1,2,3,4,5,6,7,8,9,10,11,12] ?_
 iterate 13 refine tO ?_
 refine au 0 rfl ?_;refine dP ?_;go_simp
 go_wp2_with first
  |((with_reducible refine HG.O.mono ?_);rintro e w2 ⟨rfl,cs,aja,ahD,rfl⟩)
  |fail
 go_end0;obtain⟨h1,h2,h3⟩:=HB.O;have mq:=Lib.grown_fresh (T:=WT) (e:=5) (cs:=cs) (w:=w1.drew) hB h2 h3 ahD de;exact⟨rfl,mq.1,h1.drew.T mq.2⟩
theorem abT(B b:Nat)(bs:List Value)(s:ByteArray)(w:World)(h:P2 B b bs w)(hlen:bs.length+s.size<=140737488355328)(ze:B<=w.heap.size):
 Calls Tryz.prog 110 (J8 (zp b) s) w λ e w'=>e= .returned (.tuple #[.int .i64 s.size,.nilIface])/\P2 B b (bs++Lib.strCells s) w'/\Below B w w':=by
 obtain⟨i0,hi,l8,j5,vr⟩:=info_parts abR.infoByte;obtain⟨hB,v,yQ,kW,dN⟩:=h;have c0:w.cell? (za b 0)=some (.pointer (zp b)):=by rw[iZ yQ];rfl
 have c1:w.cell? (za b 1)=some v:=by rw[iZ yQ];rfl
 go_enter Tryz.func110,Tryz.ntmps110
 go_wp2_with first
  |((with_reducible refine(NC b w c0).mono ?_);rintro e w2 ⟨rfl,fH⟩;rw[fH];clear fH w2)
  |(at_builtin;refine Lib.wpList_append_own_string _ rfl _ _ 28 9 rfl B 5 i0 Tryz.underlying28 Tryz.underlying9 hi l8 j5 vr _ _ _ rfl kW s rfl ?c3 ?c4 ?c5 ?_)
  |fail
 case c3=>unfold maxLen;omega
 case c4=>omega
 case c5=>exact ze
 intro v' w2 gp jQ _;have cL:b<w.heap.size:=(cS yQ).1;have bG:w2.heap[b]? =some (.cells #[.pointer (zp b),v] WT):=(jQ.block b cL (λ e=>dN e.symm)).T yQ;have d1:w2.cell? (za b 1)=some v:=by rw[iZ bG];rfl
 have f1:w2.frozen? ⟨b,1,none⟩=false:=Lib.frozen_of_heap bG 1;obtain⟨ao,n',cap,rfl⟩:∃ao n' cap,v'= .slice ao n' cap:=by
  rcases gp.2 with⟨hv,_⟩|⟨g,cap,cur,hv,_⟩
  ·exact⟨_,_,_,hv⟩
  ·exact⟨_,_,_,hv⟩
 go_wp2_with fail
 go_ret2;refine⟨rfl,?_,?_⟩
 ·exact Lib.BuilderAt.put (T:=WT) (e:=5) hB bG (bs':=bs++Lib.strCells s) (by simpa[Lib.strCells_length]using gp) de
 ·exact((ah B w).grown jQ ze (λ k hk=>(kW.lt k hk).1)).setCell (p:=(za b 1)) hB _
theorem aar(B b:Nat)(l:List UInt8)(w:World)(h:P2 B b (Lib.byteCells l) w)(h0:l≠[]):
 Calls Tryz.prog 43 (iS (zp b)) w λ e w'=>e= .returned (.string ⟨l.toArray⟩)/\Below B w w':=by
 obtain⟨hB,v,yQ,kW,dN⟩:=h;have G7:l.length≠0:=by simpa using h0
 rw[Lib.byteCells_length]at kW;obtain⟨g,cap,cur,rfl,hbg,hg,hnc,hcm,Ki,aex⟩:∃g cap cur,v= .slice (zp g) l.length cap/\B<=g/\w.heap[g]? =some (.cells cur 5)/\l.length<=cap/\cap<=maxLen/\cur.size=cap*1/\cur.toList.take (l.length*1)=Lib.byteCells l:=by
  rcases kW.2 with⟨_,hz⟩|⟨g,cap,cur,hv,r⟩
  ·exact absurd hz G7
  ·exact⟨g,cap,cur,hv,r⟩
 have c1:w.cell? (za b 1)=some (.slice (zp g) l.length cap):=by rw[iZ yQ];rfl
 have hSD:(Builtin.unsafeSliceData_ #[28] 164 (sg (zp g) l.length cap)).run Tryz.prog w.drew= .ok (.pointer (zp g)) w.drew:=
  Lib.run_unsafeSliceData_row _ _ _ _ _ _ an
 have hUS:(Builtin.unsafeString_ #[164,3] 9 #[.pointer (zp g),.int .i64 l.length]).run Tryz.prog w.drew= .ok (.string ⟨l.toArray⟩) (w.drew.freeze ⟨g,0,none⟩ l.length):=by refine Lib.run_unsafeString_row w.drew 164 3 9 5 Tryz.underlying164 bU g cur.size (by have ti:w.drew.heap[g]? =some (.cells cur 5):=hg;simp[World.shape?,ti]) l h0 an (by unfold maxLen at hcm;omega) ?_;intro j x hx;have:=kW.cells (g:=g) rfl j (.int .u8 x.toNat) (by simp[Lib.byteCells,hx]);exact this
 clear G7 yQ kW dN hg hnc hcm Ki aex;go_enter Tryz.func43,Tryz.ntmps43
 go_wp2_with fail
 refine bP 12 ?_;refine tP [0,1,2,3,5,6,7,8,9] ?_
 iterate 9 refine tO ?_
 refine au 3 rfl ?_;refine sP 4 [0,1,2,3] λ K hK=>?_;go_simp;refine nP hK ?_;clear hK K;refine sP 10 [0,1,2,3,4,5,6,7,8,9] λ K hK=>?_;go_simp;refine nP hK ?_;clear hK K;refine tP [11] ?_;refine tO ?_;refine au 0 rfl ?_;refine dP ?_;go_simp
 go_wp2_with fail
 go_ret;exact⟨rfl,Lib.below_freeze (Below.drew (ah B w)) (p:=(za g 0)) hbg _⟩
section
attribute [local go_sem] Oper.semAt_some
attribute [-go_sem] Builtin.append_
theorem Tu(n:Int)(kH: -9223372036854775808<=n)(pI:n<9223372036854775808)(w:World):
 Calls Tryz.prog 106 #[.int .i64 n] w λ e w'=>e= .returned (.int .i64 ((cE (ew n)).size:Nat))/\Below w w w':=by
 have HP:=ag (F9 n kH pI w);clear kH pI;go_enter Tryz.func106,Tryz.ntmps106
 go_wp2_with first
  |((with_reducible refine HP.O.mono ?_);rintro e w2 ⟨rfl,hb⟩;have HB:=ag hb;clear hb)
  |fail
 go_ret;exact⟨rfl,HB.O⟩
theorem aas(C D x y:Nat)(w:World)(hx:w.cell? (za C 0)=some (.int .i64 (x:Int)))(hy:Boxed w D 3 (.int .i64 (y:Int)))(hs:y+x<=1000):
 Calls Tryz.prog 105 #[.slice (zp C) 1 1,.pointer (zp D)] w λ e w'=>e= .returned (.tuple #[])/\w'=w.setCell (za D 0) (.int .i64 ((y+x:Nat):Int)):=by
 have hy0:=hy.cell;have hf:=ax hy 0;have hw:IntKind.i64.wrap ((y:Int)+(x:Int))=((y+x:Nat):Int):=by rw[aI];omega
 have hs':((y:Int)+(x:Int))=((y+x:Nat):Int):=an;clear hs' hy;obtain⟨z,hz⟩:=bL (y+x);rw[<-hz]at hw⊢;clear hz hs;go_enter Tryz.func105,Tryz.ntmps105
 go_wp2_with fail
 go_loopw [7] (λ iv wr=>(iv= .int .i64 0/\wr=w)\/(iv= .int .i64 1/\wr=w.setCell (za D 0) (.int .i64 (z:Int)))) (λ iv _=>1 - (intOf iv).toNat)
 case atStart=>exact .inl ⟨rfl,rfl⟩
 case round=>
  rcases hrel with⟨rfl,rfl⟩|⟨rfl,rfl⟩
  ·go_wp2_with fail
   go_roundw
   case rel=>exact .inr ⟨rfl,trivial⟩
   case measure=>simp[intOf]
  ·go_wp2_with fail
   go_end0;exact⟨rfl,rfl⟩
theorem lF(n:Int)(kH: -9223372036854775808<=n)(pI:n<9223372036854775808):1<=(cE (ew n)).size/\(cE (ew n)).size<=20:=by
 have h:(cE (ew n)).size=(ew n).length:=by simp[cE,ByteArray.size]
 have h1:=F8 n.natAbs an;have h2:=CE 20 n.natAbs;rw[h];unfold ew;split<;>simp[rA,nU]<;>omega
theorem Tv(n:Int)(kH: -9223372036854775808<=n)(pI:n<9223372036854775808)(w:World):
 Calls Tryz.prog 68 #[.agg (gE n)] w λ e w'=>e= .returned (.int .i64 ((cE (ew n)).size:Nat))/\Below w w w':=by
 obtain⟨w1,bY⟩:=bL ((w.alloc (.cells (gE n) 49)).alloc (.cells zl 3));have cN:Below w w w1:=by rw[bY];go_grown
 have eb:=bu (w2:=w1) fq;have HS:=ag (Tu n kH pI w1);rw[bY]at HS;have Xf:=ag (lF n kH pI);obtain⟨z,hz⟩:=bL ((cE (ew n)).size);rw[<-hz]at HS Xf⊢;have im:IntKind.i64.wrap (-1)= -1:=bU;have im2:max (0:Int) (-1)=0:=by decide
 have HW:=eS cN eb bY;clear hz bY cN eb kH pI;go_enter Tryz.func68,Tryz.ntmps68
 go_wp2_with first
  |((with_reducible refine HS.O.mono ?_);rintro e w2 ⟨rfl,hb⟩;rw[<-HW.O.2.2]at hb;have mM:=(hb.block _ (cS HW.O.2.1.1).1).T HW.O.2.1.1;have iL:=(hb.block _ (cS HW.O.2.1.2).1).T HW.O.2.1.2;have hB:=HW.O.1.T (hb.mono HW.O.1.size);have hr:∀j,(w2.alloc (.cells (Ih z) 3)).heap[j]? =w2.heap[j]? \/w2.heap.size<=j:= λ j=>by
     rcases cX j w2 with h|h
     ·exact .inl (gO w2 _ j h)
     ·exact .inr h
    have h2y:Boxed (w2.alloc (.cells (Ih z) 3)) (w+1) 3 (.int .i64 ((0:Nat):Int)):=(gO w2 _ _ (cS iL).1).T iL;have HA:=ag (aas w2 (w+1) z 0 (w2.alloc (.cells (Ih z) 3)) (dx (ai w2 _)) h2y (cm Xf.O.2));have HE:Hid (∀v,Below w w ((w2.alloc (.cells (Ih z) 3)).setCell (za (w+1) 0) v)/\((w2.alloc (.cells (Ih z) 3)).setCell (za (w+1) 0) v).cell? (za (w+1) 0)=some v/\((w2.alloc (.cells (Ih z) 3)).setCell (za (w+1) 0) v).cell? (za w 3)=some (.slice none 0 0)):=ag λ v=>by refine⟨(hB.alloc hB.size _).setCell dt _,dx (aU (j:=0) v h2y),?_⟩;exact(af ((aq _ _ _ _ cP).T ((gO w2 _ _ (cS mM).1).T mM)) 3).T rfl
    clear hb mM iL hB hr h2y)
  |((with_reducible refine HA.O.mono ?_);rintro e w3 ⟨rfl,gV⟩;rw[aN]at gV;obtain⟨e1,e2,e3⟩:=HE.O (.int .i64 (z:Int));rw[<-gV]at e1 e2 e3;have HE1:=ag e1;clear e1 gV HE HA)
  |fail
 go_loopw [49] (λ iv wr=>iv= .int .i64 0/\wr=w3) (λ _ _=>0)
 case atStart=>exact⟨rfl,rfl⟩
 case round=>
  obtain⟨rfl,rfl⟩:=hrel
  go_wp2_with fail
  go_ret;exact⟨rfl,HE1.O⟩
theorem Tx(n:Int)(kH: -9223372036854775808<=n)(pI:n<9223372036854775808)(w:World):
 Calls Tryz.prog 40 #[.agg (gE n)] w λ e w'=>e= .returned (.tuple #[.int .i64 ((cE (ew n)).size:Nat),.int .i64 0])/\Below w w w':=by
 obtain⟨w1,bY⟩:=bL (w.alloc (.cells (gE n) 49));have cN:Below w w w1:=by rw[bY];go_grown
 have hx:=ai w (.cells (gE n) 49);rw[<-bY]at hx;have HC:=ag (Ag n w1);have HS:=ag (λ W=>Tv n kH pI W);rw[bY]at HC;have HW:=eS cN hx bY;clear bY cN hx kH pI;go_enter Tryz.func40,Tryz.ntmps40
 go_wp2_with first
  |((with_reducible refine HC.O.mono ?_);rintro e w2 ⟨rfl,hb⟩;rw[<-HW.O.2.2]at hb;have ct:= λ j=>af ((hb.block _ (cS HW.O.2.1).1).T HW.O.2.1) j;have t0:=(ct 0).T rfl;have t1:=(ct 1).T rfl;have t2:=(ct 2).T rfl;have t3:=(ct 3).T rfl;have t4:=(ct 4).T rfl;simp only[cW]at t0 t1 t2 t3 t4;have HB:=ag (HW.O.1.T (hb.mono HW.O.1.size));clear hb ct)
  |((with_reducible refine(HS.O _).mono ?_);rintro e w3 ⟨rfl,hb⟩;have ek:=ag (HB.O.T (hb.mono HB.O.size));clear hb t0 t1 t2 t3 t4)
  |fail
 go_ret2;exact⟨rfl,ek.O⟩
theorem CF{b:Nat}{bs:List Value}{w':World}(h:P2 B b bs w)(hb:Below w w w'):P2 B b bs w':=by
 obtain⟨hB,v,yQ,kW,dN⟩:=h;obtain⟨ao,cap,rfl⟩:∃ao cap,v= .slice ao bs.length cap:=by
  rcases kW.2 with⟨hv,h0⟩|⟨g,cap,cur,hv,_⟩
  ·exact⟨none,0,by rw[hv,h0]⟩
  ·exact⟨_,_,hv⟩
 exact⟨hB,_,(hb.block b (cS yQ).1).T yQ,dC.row hb kW,dN⟩
theorem Xg(B b:Nat)(s:ByteArray)(C:Nat)(w:World)(hx:w.cell? (za C 0)=some (.string s))(h:P2 B b [] w)(hs:s.size<=1000)(ze:B<=w.heap.size):
 Calls Tryz.prog 72 #[.pointer (zp b),.slice (zp C) 1 1] w λ e w'=>e= .returned (.tuple #[])/\P2 B b (Lib.strCells s) w'/\Below B w w':=by
 have HWR:=ag (abT B b [] s w h dU ze);clear h hs ze;go_enter Tryz.func72,Tryz.ntmps72
 go_wp2_with fail
 go_loopw [8] (λ iv wr=>(iv= .int .i64 0/\wr=w)\/(iv= .int .i64 1/\Hid (P2 B b (Lib.strCells s) wr/\Below B w wr))) (λ iv _=>1 - (intOf iv).toNat)
 case atStart=>exact .inl ⟨rfl,rfl⟩
 case round=>
  rcases hrel with⟨rfl,rfl⟩|⟨rfl,hw⟩
  ·go_wp2_with first
    |((with_reducible refine HWR.O.mono ?_);rintro e w2 ⟨rfl,h1,h2⟩;have HH:=dO h1 h2;clear h1 h2)
    |fail
   go_roundw
   case rel=>exact .inr ⟨rfl,HH⟩
   case measure=>simp[intOf]
  ·go_wp2_with fail
   go_end0;exact⟨rfl,hw.O.1,hw.O.2⟩
theorem P3(B b b1 b2:Nat)(n:Int)(kH: -9223372036854775808<=n)(pI:n<9223372036854775808)(w:World)(h1:w.cell? (za b1 0)=some (.pointer (zp b)))(h2:w.cell? (za b2 1)=some (.int .i64 n))(h:P2 B b [] w)(ze:B<=w.heap.size):
 Calls Tryz.prog 74 (oR (zp b1) (zp b2)) w λ e w'=>e= .returned (.tuple #[])/\P2 B b (Lib.strCells (cE (ew n))) w'/\Below B w w':=by
 have HP:=ag (λ W=>F9 n kH pI W);have Xf:=ag (show(cE (ew n)).size<=1000 by have:=lF n kH pI;omega);have r7:=ag ze;have HK:Hid (∀W,Below w.drew.heap.size w.drew W->W.cell? (za b1 0)=some (.pointer (zp b))/\W.cell? (za b2 1)=some (.int .i64 n)/\(∀o,(W.alloc o).cell? (za b1 0)=some (.pointer (zp b)))/\P2 B b [] W):=ag λ W hb=>
  ⟨carry hb h1,carry hb h2, λ o=>carry ((ah _ W).alloc (cH) o) (carry hb h1),CF (w:=w.drew) h hb⟩
 clear kH pI ze h;go_enter Tryz.func74,Tryz.ntmps74
 go_wp2_with fail
 refine bP 6 ?_;refine tP [0,1,2] ?_
 iterate 3 refine tO ?_
 refine au 3 rfl ?_;refine sP 3 [1,2] λ K hK=>?_;go_simp;(with_reducible refine(HP.O _).mono ?_);rintro e w2 ⟨rfl,hb⟩;obtain⟨g0,g1,g2,Cv⟩:=HK.O w2 hb;have HLD:=ag (CF Cv ((ah _ w2).alloc (cH) (.cells #[.string (cE (ew n))] 9)));have KS:=ag (Xg B b (cE (ew n)) w2 _ (dx (ai w2 (.cells #[.string (cE (ew n))] 9))) HLD.O Xf.O (by have h1:=hb.size;have h2:=r7.O;simp at h1⊢;omega));have eJ:=ag hb;clear hb Cv;refine nP hK ?_;clear hK K;refine sP 4 [1,2,3] λ K hK=>?_;go_simp;refine nP hK ?_;clear hK K;refine sP 5 [0,1,2,3,4] λ K hK=>?_;go_simp;(with_reducible refine KS.O.mono ?_);rintro e w4 ⟨rfl,h4,dX⟩;have ly:=dO h4 dX;clear h4 dX;refine nP hK ?_;clear hK K;refine dP ?_;go_simp;go_end0;have ze:=r7.O;have hb:=eJ.O;have h2:Below B w w2:=((ah B w).drew).T (hb.mono ze);exact⟨rfl,ly.O.1,(h2.alloc (aj ze h2.size) _).T ly.O.2⟩
theorem P4(B b:Nat)(n:Int)(kH: -9223372036854775808<=n)(pI:n<9223372036854775808)(w:World)(h:P2 B b [] w)(ze:B<=w.heap.size):
 Calls Tryz.prog 42 (BY (zp b) (.agg (gE n))) w λ e w'=>e= .returned (.tuple #[])/\P2 B b (Lib.strCells (cE (ew n))) w'/\Below B w w':=by
 have HW:Hid (∀o,Calls Tryz.prog 74 (oR (zp w) (zp (w+1))) (((w.alloc (.cells (iS (zp b)) 159)).alloc (.cells (gE n) 49)).alloc o) λ e w'=>e= .returned (.tuple #[])/\P2 B b (Lib.strCells (cE (ew n))) w'/\Below B w w'):=ag λ o=>by
  obtain⟨w1,bY⟩:=bL (((w.alloc (.cells (iS (zp b)) 159)).alloc (.cells (gE n) 49)).alloc o);have hx:=bu (w2:=w1) (by rw[bY];exact(gb).alloc (cH) _);have cN:Below w w w1:=by rw[bY];go_grown
  rw[<-bY];refine(P3 B b _ _ n kH pI w1 (dx hx.1) ((af hx.2 1).T rfl) (CF h cN) (aj ze cN.size)).mono ?_;rintro e w2 ⟨rfl,h1,h2⟩;exact⟨rfl,h1,(cN.mono ze).T h2⟩
 have i2:IntKind.i64.wrap 2=2:=bU;clear kH pI h ze;go_enter Tryz.func42,Tryz.ntmps42
 go_wp2_with first
  |((with_reducible refine(HW.O _).mono ?_);rintro e w2 ⟨rfl,h1,h2⟩)
  |fail
 go_end0;exact⟨rfl,h1,h2⟩
theorem Xh(s:ByteArray)(h:1<=s.size):s.data.toList≠[]:= λ e=>by have:s.size=s.data.toList.length:=(jS ..).symm;rw[this,e]at h;simp at h
theorem CG(n:Int)(kH: -9223372036854775808<=n)(pI:n<9223372036854775808)(w:World):
 Calls Tryz.prog 22 #[.agg (gE n)] w λ e w'=>e= .returned (.tuple #[.string (cE (ew n)),.int .i64 0])/\Below w w w':=by
 obtain⟨w1,bY⟩:=bL (w.alloc (.cells (gE n) 49));have cN:Below w w w1:=by rw[bY];go_grown
 have hx:=ai w (.cells (gE n) 49);rw[<-bY]at hx;have HS:=ag (Tx n kH pI w1);rw[bY]at HS;have Xf:=ag (lF n kH pI);have HV:=ag (λ (B b:Nat) (W:World)=>P4 B b n kH pI W);obtain⟨z,hz⟩:=bL ((cE (ew n)).size);rw[<-hz]at HS;have HZ:=ag hz;have j5:(z:Int)<=20:=by rw[hz];have:=Xf.O.2;omega
 have vr:¬ (2048:Int)<(z:Int):=an;have HW:=eS cN hx bY;clear bY cN hx kH pI hz j5;go_enter Tryz.func22,Tryz.ntmps22
 go_wp2_with first
  |((with_reducible refine HS.O.mono ?_);rintro e w2 ⟨rfl,hb⟩;rw[<-HW.O.2.2]at hb;have Rd:=(hb.block _ (cS HW.O.2.1).1).T HW.O.2.1;have HB:=dO (HW.O.1.T (hb.mono HW.O.1.size)) Rd;have HG:=ag (aew (w+1) w2 z (w2.alloc (.cells acP WT)) (by have:=hb.size;have:=HW.O.2.2;simp[this]at*;omega) (ai w2 _) (by rw[HZ.O];exact Xf.O.1) (by rw[HZ.O];have:=Xf.O.2;omega) (by have h2:=hb.size;have:=HW.O.2.2;simp[this]at*;omega));clear hb Rd)
  |((with_reducible refine HG.O.mono ?_);rintro e w3 ⟨rfl,h3,cu⟩;have bG:Below w w (w2.alloc (.cells acP WT)):=HB.O.1.alloc HB.O.1.size _;have afx:=bG.T (cu.mono (bk _));have ek:=ag afx;have HVV:=ag (HV.O (w+1) w2 w3 h3 (by have h1:=cu.size;have h2:=(cS HB.O.2).1;simp at h1;omega));have x3:w3.heap[w.heap.size]? =some (.cells (gE n) 49):=(cu.block _ (fJ _)).T ((gO w2 _ _ (cS HB.O.2).1).T HB.O.2);have ct:= λ j=>af x3 j;have t0:=(ct 0).T rfl;have t1:=(ct 1).T rfl;have t2:=(ct 2).T rfl;have t3:=(ct 3).T rfl;have t4:=(ct 4).T rfl;simp only[cW]at t0 t1 t2 t3 t4;clear h3 cu bG afx x3 ct)
  |((with_reducible refine HVV.O.mono ?_);rintro e w4 ⟨rfl,h4,dX⟩;have ahE:=ag (aar (w+1) w2 (cE (ew n)).data.toList w4 h4 (Xh _ Xf.O.1));have pB:=ag (ek.O.T (dX.mono (bk _)));clear h4 dX t0 t1 t2 t3 t4)
  |((with_reducible refine ahE.O.mono ?_);rintro e w5 ⟨rfl,dV⟩)
  |fail
 go_ret2;exact⟨rfl,pB.O.T (dV.mono (bk _))⟩
abbrev rdC(pos:Nat)(a:az)(n c:Nat)(neg:Bool)(v:Nat):Array Value:=#[.int .i64 (pos:Int),.slice a n c,.bool neg,.int .u64 (v:Int),.bool false,.bool false]
def iV(W:World)(B:Nat)(pos:Nat)(a:az)(n c:Nat)(neg:Bool)(v:Nat):Prop:=W.heap[B]? =some (.cells (rdC pos a n c neg v) 416)
def NH(s:ByteArray):List Nat:=s.data.toList.map UInt8.toNat
theorem Xi(s:ByteArray):(NH s).length=s.size:=by unfold NH;rw[aR,jS];rfl
def mI(xs:List Nat)(pos:Nat)(s:ByteArray):Bool:=match xs[pos]? with|none=>false|some x=>(NH s).contains x
theorem iV.cells{c:Nat}{a:az}(h:iV W B pos a n c neg v):W.cell? (za B 0)=some (.int .i64 (pos:Int))/\W.cell? (za B 1)=some (.slice a n c)/\W.cell? (za B 2)=some (.bool neg)/\W.cell? (za B 3)=some (.int .u64 (v:Int))/\W.cell? (za B 4)=some (.bool false)/\W.cell? (za B 5)=some (.bool false):=
 ⟨(af h 0).T rfl,(af h 1).T rfl,(af h 2).T rfl,(af h 3).T rfl,(af h 4).T rfl,(af h 5).T rfl⟩
theorem NI{c:Nat}{a:az}(hB:iV W B pos a xs.length c neg v)(hb:ay W a xs)(s:ByteArray)(hs:s.size<=20)(hlen:xs.length<=4096):
 Calls Tryz.prog 281 (J8 (zp B) s) W λ e w'=>e= .returned (.bool (mI xs pos s))/\w'.heap=W.heap/\Below W W w':=by
 have HB:=dO hB hb;have hsi:(s.size:Int)<=20:=an;have hli:(xs.length:Int)<=4096:=an;have ahF:Hid (∀i,∀h:i<s.size,(NH s)[i]? =some (s[i]'h).toNat):=ag λ i h=>by unfold NH;rw[aW,Array.getElem?_toList,br h];rfl
 have ly:Hid ((∀j x,j<s.size->(NH s)[j]? =some x->xs[pos]? ≠some x)->mI xs pos s=false):=ag λ h=>by
  unfold mI;cases hx:xs[pos]? with
  |none=>rfl
  |some x=>
   cases hc:(NH s).contains x with
   |false=>exact hc
   |true=>
    rw[List.contains_iff_mem]at hc;obtain⟨j,hj⟩:=dE.1 hc;exact absurd hx (h j x (by have:=(aC.1 hj).1;rwa [Xi]at this) hj)
 clear hB hb hs hlen;go_enter Tryz.func281,Tryz.ntmps281
 go_wp2_with fail
 go_loopw [5,8] (λ _ iv wr=>∃i:Nat,i<=s.size/\iv= .int .i64 (i:Int)/\Hid (wr.heap=W.heap/\Below W W wr)/\Hid (∀j x,j<i->(NH s)[j]? =some x->xs[pos]? ≠some x)) (λ _ iv _=>s.size - (intOf iv).toNat)
 case atStart=>exact⟨0,aD _,rfl,ag ⟨rfl,gb⟩,ag λ j x h=>an⟩
 case round=>
  obtain⟨i,hi,rfl,hw,mr⟩:=hrel;obtain⟨c0,c1, -⟩:=iV.cells (show iV wr B pos a xs.length c neg v from(congrArg (·[B]?) hw.O.1).T HB.O.1);by_cases cL:i<s.size
  ·obtain⟨z,hz⟩:=bL ((s[i]'cL).toNat);have hix:∀V,(Instr.index 9 (.string s) (.int .i64 (i:Int))).run Tryz.prog V= .ok (.int .u8 (z:Int)) V:= λ V=>by
    rw[run_index_string V 9 s .i64 i Tryz.underlying9,dif_pos ⟨an,an⟩,hz];simp
   have hzz:=ahF.O i cL;rw[<-hz]at hzz;have HZ:=ag hzz;have SK:(i:Int)<(s.size:Int):=an;clear hz hzz;by_cases hp:pos<xs.length
   ·have d1:decide ((pos:Int)<(xs.length:Int))=true:=dU;have d1':decide (pos<xs.length)=true:=by simpa using hp
    obtain⟨x,hx⟩:∃x,xs[pos]? =some x:=⟨xs[pos],by simp[hp]⟩;obtain⟨C,o,rfl,Ca⟩:∃C o,a=some ⟨C,o,none⟩/\wr.cell? (za C (o+pos))=some (.int .u8 (x:Int)):=by
     rcases HB.O.2.2 with h0|⟨C,o,e,hc⟩
     ·rw[h0]at hp;simp at hp
     ·exact⟨C,o,e,(bq (w:=W) (congrArg (·[C]?) hw.O.1)).T (hc pos x hx)⟩
    have HX:=ag hx;have hpi:(pos:Int)<(xs.length:Int):=an;clear hx;by_cases hxz:x=z
    ·subst hxz;have HT:Hid (mI xs pos s=true):=ag (by
      unfold mI;rw[HX.O];simp only[List.contains_iff_mem];exact ak HZ.O)
     go_wp2_with fail
     refine bP 28 ?_;refine tP [0,1,2,3,4,5,6,7,8,9,10,11,12,13,14,15,16,17,18,19,20,21,22,23,24,25,26,27] ?_
     iterate 28 refine tO ?_
     refine au 0 rfl ?_;refine dP ?_;go_simp
     go_wp2_with fail
     go_ret;exact⟨by rw[HT.O];rfl,hw.O.1,hw.O.2.drew⟩
    ·have hxb:((x:Int)==(z:Int))=false:=dU;have ajb:(x==z)=false:=by simpa using hxz
     have HXZ:=ag hxz
     go_wp2_with fail
     refine bP 28 ?_;refine tP [0,1,2,3,4,5,6,7,8,9,10,11,12,13,14,15,16,17,18,19,20,21,22,23,24,25,26,27] ?_
     iterate 28 refine tO ?_
     refine au 0 rfl ?_;refine dP ?_;go_simp
     go_wp2_with fail
     go_roundw
     case rel=>
      refine⟨i+1,an,by simp,ag ⟨hw.O.1,hw.O.2.drew⟩,ag λ j y hj hy=>?_⟩;by_cases mn:j<i
      ·exact mr.O j y mn hy
      ·obtain rfl:j=i:=an;rw[HX.O];rw[HZ.O]at hy;intro e;cases hy;cases e;exact HXZ.O rfl
     case measure=>simp[intOf];omega
   ·have d1:decide ((pos:Int)<(xs.length:Int))=false:=dU;have d1':decide (pos<xs.length)=false:=by simpa using hp
    have HP:=ag hp;have hpi:¬ ((pos:Int)<(xs.length:Int)):=an
    go_wp2_with fail
    refine bP 28 ?_;refine Ra [(0,true),(1,true),(2,true),(3,true),(4,true),(5,true),(6,true),(7,true),(8,true),(9,true),(10,true),(11,true),(12,false),(13,false),(14,false),(15,false),(16,false),(17,false),(18,false),(19,false),(20,false),(21,false),(22,false),(23,false),(24,false),(25,false),(26,false),(27,true)] ?_
    iterate 12 refine tO ?_
    iterate 15 refine tF ?_
    refine tO ?_;refine au 0 rfl ?_;refine dP ?_;go_simp
    go_wp2_with fail
    go_roundw
    case rel=>
     refine⟨i+1,an,by simp,ag ⟨hw.O.1,hw.O.2.drew⟩,ag λ j y hj hy=>?_⟩;rw[List.getElem?_eq_none (cm HP.O)];simp
    case measure=>simp[intOf];omega
  ·obtain rfl:i=s.size:=an
   go_wp2_with fail
   go_ret;exact⟨by rw[ly.O mr.O];rfl,hw.O.1,hw.O.2⟩
structure iR(n₀ B:Nat)(W w':World):Prop where
 eG:∀j,j≠B->w'.heap[j]? =W.heap[j]?
 below:Below n₀ W w'
theorem iR.refl(n₀ B:Nat)(W:World):iR n₀ B W W:=⟨λ _ _=>rfl,gb⟩
theorem iR.T{n₀ B:Nat}{U V W:World}(h:iR n₀ B U V)(k:iR n₀ B V W):iR n₀ B U W:=⟨λ j hj=>(k.eG j hj).T (h.eG j hj),h.below.T k.below⟩
theorem iR.same(h:V.heap=U.heap)(hb:Below U U V)(hn:n₀<=U.heap.size):iR n₀ B U V:=⟨λ j _=>congrArg (·[j]?) h,hb.mono hn⟩
theorem iR.setCell{n₀ B:Nat}(U:World)(j:Nat)(v:Value)(hn:n₀<=B):iR n₀ B U (U.setCell ⟨B,j,none⟩ v):=⟨λ i hi=>aq _ _ _ _ hi,(gb).setCell hn _⟩
theorem iR.drew{n₀ B:Nat}{U V:World}(h:iR n₀ B U V):iR n₀ B U V.drew:=⟨h.eG,h.below.drew⟩
theorem aey{c:Nat}{a:az}(j x:Nat):(rdC pos a n c neg v)[j]? ≠some (.int .u8 (x:Int)):=by unfold rdC;rcases j with _|_|_|_|_|_|j<;>simp
theorem iR.bytes{c:Nat}{a:az}(h:iR n₀ B U V)(hB:iV U B pos a n c neg v)(hb:ay U a xs):ay V a xs:=gQ h.eG hB aey hb
theorem yy{c:Nat}{a:az}(hB:iV W B pos a xs.length c neg v)(hb:ay W a xs)(s:ByteArray)(hs:s.size<=20)(hlen:xs.length<=4096)(hn:n₀<=B):
 Calls Tryz.prog 277 (J8 (zp B) s) W λ e w'=>e= .returned (.bool (mI xs pos s))/\iV w' B (if mI xs pos s then pos+1 else pos) a xs.length c neg v/\iR n₀ B W w':=by
 have HS:=ag (NI hB hb s hs hlen);have hp:mI xs pos s=true->(pos:Int)<=4096:= λ h=>by
  unfold mI at h;cases hx:xs[pos]? with
  |none=>rw[hx]at h;cases h
  |some x=>have:=(aC.1 hx).1;omega
 have HB:=dO hB (show n₀<=W.heap.size by have:=(cS hB).1;omega);obtain⟨b,sc⟩:=bL (mI xs pos s);rw[<-sc]at HS hp⊢;clear hb hs hlen sc hB;cases b with
 |false=>
  clear hp;go_enter Tryz.func277,Tryz.ntmps277
  go_wp2_with first
   |((with_reducible refine HS.O.mono ?_);rintro e w2 ⟨rfl,hw,bG⟩;have h2:iV w2 B pos a xs.length c neg v:=(congrArg (·[B]?) hw).T HB.O.1;obtain⟨c0, -⟩:=h2.cells;have f0:=ax h2 0;have H2:=dO h2 (iR.same (n₀:=n₀) (B:=B) hw bG HB.O.2);clear h2 hw bG)
   |fail
  go_ret;exact⟨rfl,H2.O.1,H2.O.2⟩
 |true=>
  have hpi:=hp rfl;clear hp;go_enter Tryz.func277,Tryz.ntmps277
  go_wp2_with first
   |((with_reducible refine HS.O.mono ?_);rintro e w2 ⟨rfl,hw,bG⟩;have h2:iV w2 B pos a xs.length c neg v:=(congrArg (·[B]?) hw).T HB.O.1;obtain⟨c0, -⟩:=h2.cells;have f0:=ax h2 0;have H2:=dO h2 (iR.same (n₀:=n₀) (B:=B) hw bG HB.O.2);clear h2 hw bG)
   |fail
  go_ret;exact⟨rfl,aU (j:=0) _ H2.O.1,H2.O.2.T (iR.setCell _ _ _ hn)⟩
theorem aat{c:Nat}{a:az}(hB:iV W B pos a n c neg v)(d:Nat)(hd:d<10)(hv:10*v+d<=18446744073709551615)(hn:n₀<=B):
 Calls Tryz.prog 279 #[.pointer (zp B),.int .u64 (d:Int)] W λ e w'=>e= .returned (.tuple #[])/\iV w' B pos a n c neg (10*v+d)/\iR n₀ B W w':=by
 obtain⟨-, -, -,c3, -⟩:=hB.cells;have f3:=ax hB 3;obtain⟨g,hg⟩:=bL (18446744073709551615 - d);obtain⟨q,hq⟩:=bL (g/10);obtain⟨x,hx⟩:=bL (10*v);obtain⟨y,hy⟩:=bL (x+d);have w1:IntKind.u64.wrap (18446744073709551615 - (d:Int))=(g:Int):=by rw[bR];omega
 have w2:(g:Int)/10=(q:Int):=an;have w3:IntKind.u64.wrap (q:Int)=(q:Int):=by rw[bR];omega
 have w4:¬ ((q:Int)<(v:Int)):=an;have w4':¬ (q<v):=an;have w5:IntKind.u64.wrap (10*(v:Int))=(x:Int):=by rw[bR];omega
 have w6:IntKind.u64.wrap ((x:Int)+(d:Int))=(y:Int):=by rw[bR];omega
 have HY:Hid (10*v+d=y):=ag an;have HB:=ag hB;rw[HY.O];clear hg hq hx hy hd hv hB;go_enter Tryz.func279,Tryz.ntmps279
 go_wp2_with fail
 go_end0;exact⟨rfl,aU (j:=3) _ HB.O,iR.setCell _ _ _ hn⟩
def Ty:ByteArray:=⟨#[48,49,50,51,52,53,54,55,56,57]⟩
def jO(v:Nat)(ds:List Nat):Nat:=ds.foldl (λ v d=>10*v+d) v
theorem NJ{p:Nat}(h:xs[p]? =some (48+d))(hd:d<10):mI xs p Ty=true:=by
 unfold mI;rw[h];rcases d with _|_|_|_|_|_|_|_|_|_|d
 all_goals first|rfl|omega
theorem Jz:∀(ds:List Nat) (v:Nat),v<=jO v ds
 |[],v=>cH
 |d::ds,v=>by have:=Jz ds (10*v+d);unfold jO at*;simp only[cD];omega
theorem Tz{i:Nat}(v:Nat)(h:ds[i]? =some d):jO v (ds.take (i+1))=10*jO v (ds.take i)+d:=by unfold jO;rw[aL,h];simp
theorem KT(v:Nat)(ds:List Nat)(i:Nat):jO v (ds.take i)<=jO v ds:=by
 have:jO v ds=jO (jO v (ds.take i)) (ds.drop i):=by unfold jO;rw[<-dY,bj]
 rw[this];exact Jz _ _
theorem abU{c:Nat}{a:az}(hB:iV W B pos a xs.length c neg v)(hb:ay W a xs)(hlen:xs.length<=4096)(hn:n₀<=B)
 (Hu:∀i d,ds[i]? =some d->d<10/\xs[pos+i]? =some (48+d))(h0:ds≠[])(jD:mI xs (pos+ds.length) Ty=false)(hv:jO v ds<=18446744073709551615):
 Calls Tryz.prog 278 (BY (zp B) (.func (.func 279) (iS (zp B)) #[])) W λ e w'=>e= .returned (.tuple #[])/\iV w' B (pos+ds.length) a xs.length c neg (jO v ds)/\iR n₀ B W w':=by
 have LK:Hid (Calls Tryz.prog 281 (J8 (zp B) ⟨#[48,49,50,51,52,53,54,55,56,57]⟩) W λ e w'=>e= .returned (.bool true)/\w'.heap=W.heap/\Below W W w'):=ag (by
  have:=NI hB hb Ty de hlen;obtain⟨d,rest,rfl⟩:∃d r,ds=d::r:=by cases ds with|nil=>exact absurd rfl h0|cons d r=>exact⟨d,r,rfl⟩
  have h1:=Hu 0 d rfl
  rwa [show mI xs pos Ty=true from NJ (by simpa using h1.2) h1.1]at this)
 have HT:Hid (∀(i:Nat) (V:World),iV V B (pos+i) a xs.length c neg (jO v (ds.take i))->iR n₀ B W V->i<ds.length->Calls Tryz.prog 277 (J8 (zp B) ⟨#[48,49,50,51,52,53,54,55,56,57]⟩) V λ e w'=>e= .returned (.bool true)/\iV w' B (pos+i+1) a xs.length c neg (jO v (ds.take i))/\iR n₀ B W w'):=ag λ i V h1 h2 hi=>by have h3:=Hu i ds[i] (by simp[hi]);have hs:=NJ h3.2 h3.1;have:=yy (n₀:=n₀) h1 (h2.bytes hB hb) Ty de hlen hn;rw[hs]at this;exact this.mono λ e w' ⟨h4,h5,h6⟩=>⟨h4,h5,h2.T h6⟩
 have HT0:Hid (∀(V:World),iV V B (pos+ds.length) a xs.length c neg (jO v ds)->iR n₀ B W V->Calls Tryz.prog 277 (J8 (zp B) ⟨#[48,49,50,51,52,53,54,55,56,57]⟩) V λ e w'=>e= .returned (.bool false)/\iV w' B (pos+ds.length) a xs.length c neg (jO v ds)/\iR n₀ B W w'):=ag λ V h1 h2=>by have:=yy (n₀:=n₀) h1 (h2.bytes hB hb) Ty de hlen hn;rw[jD]at this;exact this.mono λ e w' ⟨h4,h5,h6⟩=>⟨h4,h5,h2.T h6⟩
 have HG:Hid (∀(i d:Nat) (V:World),ds[i]? =some d->iV V B (pos+i+1) a xs.length c neg (jO v (ds.take i))->iR n₀ B W V->Calls Tryz.prog 279 #[.pointer (zp B),.int .u64 (d:Int)] V λ e w'=>e= .returned (.tuple #[])/\iV w' B (pos+(i+1)) a xs.length c neg (jO v (ds.take (i+1)))/\iR n₀ B W w'):=ag λ i d V hd h1 h2=>by have hm:=KT v ds (i+1);rw[Tz v hd]at hm⊢;exact(aat (n₀:=n₀) h1 d (Hu i d hd).1 an hn).mono λ e w' ⟨h4,h5,h6⟩=>⟨h4,h5,h2.T h6⟩
 have HX:Hid (∀(i d:Nat) (V:World),ds[i]? =some d->iR n₀ B W V->d<10/\pos+i<4096/\pos+i<xs.length/\∃C o,a=some ⟨C,o,none⟩/\V.cell? ⟨C,o+(pos+i),none⟩=some (.int .u8 ((48+d:Nat):Int))):=ag λ i d V hd h2=>by
  have h3:=Hu i d hd;have h4:=(aC.1 h3.2).1;refine⟨h3.1,an,h4,?_⟩;rcases(h2.bytes hB hb).2 with h0|⟨C,o,e,hc⟩
  ·rw[h0]at h4;simp at h4
  ·exact⟨C,o,e,hc _ _ h3.2⟩
 have HB:=dO hB (show n₀<=W.heap.size by have:=(cS hB).1;omega);clear hB hb hlen Hu h0 jD hv;go_enter Tryz.func278,Tryz.ntmps278
 go_wp2_with fail
 go_step3
 go_wp2_with first
  |((with_reducible refine LK.O.mono ?_);rintro e w2 ⟨rfl,hw,bG⟩;have H2:=dO (show iV w2 B pos a xs.length c neg v from(congrArg (·[B]?) hw).T HB.O.1) (iR.same (n₀:=n₀) (B:=B) hw bG HB.O.2);clear hw bG)
  |fail
 go_step3
 go_wp2_with fail
 go_loopw [] (λ wr=>∃i:Nat,i<=ds.length/\Hid (iV wr B (pos+i) a xs.length c neg (jO v (ds.take i))/\iR n₀ B W wr)) (λ wr=>pos+ds.length - (intOf ((wr.cell? (za B 0)).getD (.bool false))).toNat)
 case atStart=>exact⟨0,aD _,H2⟩
 case round=>
  obtain⟨i,hi,hw⟩:=hrel;by_cases cL:i<ds.length
  ·have HTT:=ag (HT.O i wr hw.O.1 hw.O.2 cL);have hc0:wr.cell? (za B 0)=some (.int .i64 ((pos+i:Nat):Int)):=hw.O.1.cells.1;obtain⟨d,hd⟩:∃d,ds[i]? =some d:=⟨ds[i],by simp[cL]⟩;have HD:=ag hd;clear hd;have HC0:=ag hc0;clear hc0
   go_wp2_with first
    |((with_reducible refine HTT.O.mono ?_);rintro e w3 ⟨rfl,h3,Xj⟩;obtain⟨ajc,hp4,hpx,C,o,rfl,Ca⟩:=HX.O i d w3 HD.O Xj;have HGR:=ag (HG.O i d w3.drew HD.O h3 Xj.drew);obtain⟨y0,y1, -⟩:=h3.cells;obtain⟨p,hp⟩:=bL (pos+i);rw[<-hp]at y0 Ca hp4 hpx;obtain⟨x,hx⟩:=bL (48+d);rw[<-hx]at Ca;have UK:IntKind.u8.wrap ((x:Int) - 48)=(d:Int):=by rw[jK];omega
      have hd8:IntKind.u64.wrap (d:Int)=(d:Int):=by rw[bR];omega
      have hpi:(p:Int)<(xs.length:Int):=an;have ajd:(p:Int)<=4096:=an;have hpw:IntKind.i64.wrap (p:Int)=(p:Int):=by rw[aI];omega
      clear h3 Xj hp hx)
    |fail
   refine bP 16 ?_;refine tP [0,1,2,3,4,5,6,7,8,9,10,11,12,13,14] ?_
   iterate 15 refine tO ?_
   refine au 1 rfl ?_;refine sP 15 [0,1,2,3,4,5,6,7,8,9,10,11,12,13,14] λ K hK=>?_;go_simp;(with_reducible refine HGR.O.mono ?_);rintro e w4 ⟨rfl,h4,afy⟩;have H4:=dO h4 afy;clear h4 afy;refine nP hK ?_;clear hK K;refine dP ?_;go_simp
   go_roundw
   case rel=>
    repeat' (first|(apply Exists.intro))
    exact⟨⟨i+1,an,H4⟩,rfl⟩
   case measure=>
    have e1:w4.cell? (za B 0)=some (.int .i64 ((pos+(i+1):Nat):Int)):=H4.O.1.cells.1;simp only[e1,HC0.O,Option.getD_some,intOf,Int.toNat_natCast];omega
  ·obtain rfl:i=ds.length:=an;have h5:=hw.O.1;rw[bd]at h5;have HTT:=ag (HT0.O wr h5 hw.O.2);clear h5
   go_wp2_with first
    |((with_reducible refine HTT.O.mono ?_);rintro e w3 ⟨rfl,h3,Xj⟩)
    |fail
   rw[Exit.noGoto_normal];go_end0;exact⟨rfl,h3,Xj⟩
structure vy(xs ds:List Nat)(neg:Bool):Prop where
 text:xs=(if neg then[45]else[])++ds.map (48+·)
 lt:∀d∈ds,d<10
 ne:ds≠[]
 head:ds.head?=some 0->ds=[0]
 len:xs.length<=4096
 val:jO 0 ds<=18446744073709551615
def uN(neg:Bool):Nat:=if neg then 1 else 0
theorem vy.at(h:vy xs ds neg)(i d:Nat)(hd:ds[i]? =some d):d<10/\xs[uN neg+i]? =some (48+d):=by
 refine⟨h.lt d (ak hd),?_⟩;rw[h.text];cases neg
 ·simp[uN,hd]
 ·simp[uN,jt 1 i,hd]
theorem vy.length{xs ds:List Nat}{neg:Bool}(h:vy xs ds neg):xs.length=uN neg+ds.length:=by rw[h.text];cases neg<;>simp[uN,jt]
theorem Ga{p:Nat}(h:xs.length<=p)(s:ByteArray):mI xs p s=false:=by unfold mI;rw[List.getElem?_eq_none h]
theorem vy.sign(h:vy xs ds neg):mI xs 0 ⟨#[45]⟩=neg:=by
 cases neg with
 |true=>unfold mI;rw[h.text];rfl
 |false=>
  obtain⟨d,r,rfl⟩:∃d r,ds=d::r:=by cases ds with|nil=>exact absurd rfl h.ne|cons d r=>exact⟨d,r,rfl⟩
  have h1:=(h.at 0 d rfl);unfold mI;rw[show xs[0]? =some (48+d)from h1.2];rcases d with _|_|_|_|_|_|_|_|_|_|d
  all_goals first|rfl|(exfalso;have:=h1.1;omega)
theorem vy.zero(h:vy xs ds neg):mI xs (uN neg) ⟨#[48]⟩=decide (ds=[0]):=by
 obtain⟨d,r,rfl⟩:∃d r,ds=d::r:=by cases ds with|nil=>exact absurd rfl h.ne|cons d r=>exact⟨d,r,rfl⟩
 have h1:=(h.at 0 d rfl);unfold mI;rw[show xs[uN neg]? =some (48+d)from h1.2];by_cases h0:d=0
 ·subst h0;rw[decide_eq_true (h.head rfl)];rfl
 ·rw[decide_eq_false (by intro e;cases e;exact h0 rfl)];rcases d with _|_|_|_|_|_|_|_|_|_|d
  all_goals first|rfl|(exfalso;have:=h1.1;omega)
theorem abV{c:Nat}{a:az}(hD:vy xs ds neg)(hB:iV W B 0 a xs.length c false 0)(hb:ay W a xs)(hn:n₀<=B):
 Calls Tryz.prog 272 (iS (zp B)) W λ e w'=>e= .returned (.tuple #[])/\iV w' B (uN neg) a xs.length c neg 0/\iR n₀ B W w':=by
 have HT:=yy (n₀:=n₀) hB hb ⟨#[45]⟩ de hD.len hn;rw[hD.sign]at HT;replace HT:=ag HT;clear hB hb hD;go_enter Tryz.func272,Tryz.ntmps272
 go_wp2_with first
  |((with_reducible refine HT.O.mono ?_);rintro e w2 ⟨rfl,h2,CD⟩;obtain⟨-, -,c2, -⟩:=h2.cells;have f2:=ax h2 2;have H2:=dO h2 CD;clear h2 CD)
  |fail
 go_end0;refine⟨rfl,?_,H2.O.2.T (iR.setCell _ _ _ hn)⟩;have h:=aU (j:=2) (.bool neg) H2.O.1;cases neg<;>exact h
theorem aau{c:Nat}{a:az}(hD:vy xs ds neg)(hB:iV W B (uN neg) a xs.length c neg 0)(hb:ay W a xs)(hn:n₀<=B):
 Calls Tryz.prog 273 (iS (zp B)) W λ e w'=>e= .returned (.tuple #[])/\iV w' B xs.length a xs.length c neg (jO 0 ds)/\iR n₀ B W w':=by
 have HT:=yy (n₀:=n₀) hB hb ⟨#[48]⟩ de hD.len hn;rw[hD.zero]at HT;replace HT:=ag HT;have HL:=ag hD.length;have FA:=ag (λ (V:World) (h1:iV V B (uN neg) a xs.length c neg 0) (h2:iR n₀ B W V)=>abU (n₀:=n₀) h1 (h2.bytes hB hb) hD.len hn hD.at hD.ne (Ga (eC hD.length) _) hD.val);clear hB hb hD;by_cases hz:ds=[0]
 ·subst hz;rw[decide_eq_true rfl]at HT;clear FA;go_enter Tryz.func273,Tryz.ntmps273
  go_wp2_with first
   |((with_reducible refine HT.O.mono ?_);rintro e w2 ⟨rfl,h2,CD⟩;have H2:=dO h2 CD;clear h2 CD)
   |fail
  go_end0;refine⟨rfl,?_,H2.O.2⟩;have h:=H2.O.1;rw[HL.O];exact(by rw[HL.O]at h;exact h)
 ·rw[decide_eq_false hz]at HT;clear hz;go_enter Tryz.func273,Tryz.ntmps273
  go_wp2_with first
   |((with_reducible refine HT.O.mono ?_);rintro e w2 ⟨rfl,h2,CD⟩;have VM:=ag (FA.O w2 h2 CD);have HTO:=ag CD;clear h2 CD)
   |((with_reducible refine VM.O.mono ?_);rintro e w3 ⟨rfl,h3,A6⟩;have H3:=dO h3 A6;clear h3 A6)
   |fail
  go_end0;refine⟨rfl,?_,HTO.O.T H3.O.2⟩;have h:=H3.O.1;rw[<-HL.O]at h;exact h
theorem wW(h:p:=by
 go_wp2_with first
  |((with_reducible refine HT.O.mono ?_);rintro e w2 ⟨rfl,h2,CD⟩;have H2:=dO h2 CD;clear h2 CD)
  |fail
 go_end0;exact⟨rfl,H2.O.1,H2.O.2⟩
 ):p:=h
theorem P5{c:Nat}{a:az}(hlen:xs.length<=4096)(hB:iV W B xs.length a xs.length c neg v)(hb:ay W a xs)(hn:n₀<=B):
 Calls Tryz.prog 274 (iS (zp B)) W λ e w'=>e= .returned (.tuple #[])/\iV w' B xs.length a xs.length c neg v/\iR n₀ B W w':=by
 have HT:=yy (n₀:=n₀) hB hb ⟨#[46]⟩ de hlen hn;rw[Ga (cH)]at HT;replace HT:=ag HT;clear hB hb hlen;go_enter Tryz.func274,Tryz.ntmps274;exact wW
theorem P6{c:Nat}{a:az}(hlen:xs.length<=4096)(hB:iV W B xs.length a xs.length c neg v)(hb:ay W a xs)(hn:n₀<=B):
 Calls Tryz.prog 275 (iS (zp B)) W λ e w'=>e= .returned (.tuple #[])/\iV w' B xs.length a xs.length c neg v/\iR n₀ B W w':=by
 have HT:=yy (n₀:=n₀) hB hb ⟨#[101,69]⟩ de hlen hn;rw[Ga (cH)]at HT;replace HT:=ag HT;clear hB hb hlen;go_enter Tryz.func275,Tryz.ntmps275;exact wW
theorem P7{fn:Func}{p q:Tmp}(h:fn.results=#[.cell p tp,.cell q tq])(tmps:Array Value)(P:Program)(w:World):
 (results fn tmps).run P w=
   ((asAddr (tmps.getD p undef)).run P w).andThen λ a Ku=>((loadVar tp a).run P Ku).andThen λ x Pu=>((asAddr (tmps.getD q undef)).run P Pu).andThen λ b Xd=>((loadVar tq b).run P Xd).andThen λ y Xe=>.ok (.tuple #[x,y]) Xe:=by
 simp only[results,h];simp[eD,Result.andThen]
theorem P8(p q:Addr)(w:World):
 CallsD Tryz.prog 267 (oR (some p) (some q)) .returning w λ e u' w'=>e= .returned (.tuple #[])/\u'= .returning/\w'=w:=by
 refine callsD_of_wpS Tryz.func267 rfl λ ahG cs hu=>?_;apply wpS_seq;apply wpS_region;simp[wpOpsS,go_sem,recoverD,hu,Tryz.ntmps267,Exit.thenS];apply wpS_seq;apply wpS_region;simp[wpOpsS,go_sem,Exit.thenS];refine wpS_cond (t:=false) (by simp[Act.eval,Array.replicate]) ?_;simp only[ez,if_false];refine wpS_of_wp (wp_skip ?_);cases ahG;simp_all [bodyPostS,results,Tryz.results267]
theorem aav(w:World):Calls Tryz.prog 268 #[] w λ e w'=>e= .returned (.agg #[.func (.func 272) #[] #[],.func (.func 273) #[] #[],.func (.func 274) #[] #[],.func (.func 275) #[] #[]])/\Below w w w':=by
 go_enter Tryz.func268,Tryz.ntmps268
 go_wp2_with fail
 refine bodyPost_ret (v:=.agg #[.func (.func 272) #[] #[],.func (.func 273) #[] #[],.func (.func 274) #[] #[],.func (.func 275) #[] #[]]) iq bp ⟨rfl,?_⟩;go_grown
theorem aaw{c:Nat}{a:az}(hD:vy xs ds neg)(hB:iV W B 0 a xs.length c false 0)(hb:ay W a xs):
 Calls Tryz.prog 262 (iS (zp B)) W λ e w'=>e= .returned (.tuple (acS xs.length))/\iV w' B xs.length a xs.length c neg (jO 0 ds)/\Below B W w':=by
 have cL:=(cS hB).1;obtain⟨w1,bY⟩:=bL ((W.alloc (.cells zl 3)).alloc (.cells zl 50));have eb:=bu (w2:=w1) fq;have cN:Below W W w1:=by rw[bY];go_grown
 have rB:=ag (aav w1);rw[bY]at rB;have hmf:∀(fn:Fn) (first cap:Array Value) (w:World),(Instr.makeFunc fn first cap).run Tryz.prog w= .ok (.func fn first cap) w:= λ _ _ _ _=>rfl;have H1:=oT eb cN bY cL;have HD:=eS hD hB hb;have hli:(xs.length:Int)<=4096:=cm hD.len;clear hD hB hb bY eb cN cL
 go_enter_defers Tryz.func262,Tryz.ntmps262
 go_wp2_with first
  |((with_reducible refine rB.O.mono ?_);rintro e w2 ⟨rfl,bG⟩;rw[<-H1.O.2.2.1]at bG;have eJ:=ag bG;clear bG)
  |fail
 have HR2:Hid (iV w2 B 0 a xs.length c false 0):=ag ((eJ.O.block _ (aA H1.O.2.2.2 H1.O.2.1.size)).T ((H1.O.2.1.block _ H1.O.2.2.2).T HD.O.2.1));have acq:Hid (ay w2 a xs):=ag ((HD.O.2.2.below H1.O.2.1).below eJ.O);have HC0:Hid (∀V,iV V B 0 a xs.length c false 0->iR B B w2 V->Calls Tryz.prog 272 (iS (zp B)) V λ e V=>e= .returned (.tuple #[])/\iV V B (uN neg) a xs.length c neg 0/\iR B B w2 V):=ag λ V h CD=>
  (abV (n₀:=B) HD.O.1 h (CD.bytes HR2.O acq.O) (cH)).mono λ e w' ⟨h1,h2,h3⟩=>⟨h1,h2,CD.T h3⟩
 have aje:∀V,(Instr.index 423 (.agg #[.func (.func 272) #[] #[],.func (.func 273) #[] #[],.func (.func 274) #[] #[],.func (.func 275) #[] #[]]) (.int .i64 0)).run Tryz.prog V= .ok (.func (.func 272) #[] #[]) V:= λ V=>bU;have TA:Hid (∀V,iV V B (uN neg) a xs.length c neg 0->iR B B w2 V->Calls Tryz.prog 273 (iS (zp B)) V λ e V=>e= .returned (.tuple #[])/\iV V B xs.length a xs.length c neg (jO 0 ds)/\iR B B w2 V):=ag λ V h CD=>
  (aau (n₀:=B) HD.O.1 h (CD.bytes HR2.O acq.O) (cH)).mono λ e w' ⟨h1,h2,h3⟩=>⟨h1,h2,CD.T h3⟩
 have ajf:∀V,(Instr.index 423 (.agg #[.func (.func 272) #[] #[],.func (.func 273) #[] #[],.func (.func 274) #[] #[],.func (.func 275) #[] #[]]) (.int .i64 1)).run Tryz.prog V= .ok (.func (.func 273) #[] #[]) V:= λ V=>bU;have LN:Hid (∀V,iV V B xs.length a xs.length c neg (jO 0 ds)->iR B B w2 V->Calls Tryz.prog 274 (iS (zp B)) V λ e V=>e= .returned (.tuple #[])/\iV V B xs.length a xs.length c neg (jO 0 ds)/\iR B B w2 V):=ag λ V h CD=>
  (P5 (n₀:=B) HD.O.1.len h (CD.bytes HR2.O acq.O) (cH)).mono λ e w' ⟨h1,h2,h3⟩=>⟨h1,h2,CD.T h3⟩
 have ajg:∀V,(Instr.index 423 (.agg #[.func (.func 272) #[] #[],.func (.func 273) #[] #[],.func (.func 274) #[] #[],.func (.func 275) #[] #[]]) (.int .i64 2)).run Tryz.prog V= .ok (.func (.func 274) #[] #[]) V:= λ V=>bU;have HC3:Hid (∀V,iV V B xs.length a xs.length c neg (jO 0 ds)->iR B B w2 V->Calls Tryz.prog 275 (iS (zp B)) V λ e V=>e= .returned (.tuple #[])/\iV V B xs.length a xs.length c neg (jO 0 ds)/\iR B B w2 V):=ag λ V h CD=>
  (P6 (n₀:=B) HD.O.1.len h (CD.bytes HR2.O acq.O) (cH)).mono λ e w' ⟨h1,h2,h3⟩=>⟨h1,h2,CD.T h3⟩
 have ajh:∀V,(Instr.index 423 (.agg #[.func (.func 272) #[] #[],.func (.func 273) #[] #[],.func (.func 274) #[] #[],.func (.func 275) #[] #[]]) (.int .i64 3)).run Tryz.prog V= .ok (.func (.func 275) #[] #[]) V:= λ V=>bU;clear rB
 go_loopw [5,8] (λ _ iv wr=>(iv= .int .i64 0/\Hid (iV wr B 0 a xs.length c false 0/\iR B B w2 wr))\/(iv= .int .i64 1/\Hid (iV wr B (uN neg) a xs.length c neg 0/\iR B B w2 wr))\/(iv= .int .i64 2/\Hid (iV wr B xs.length a xs.length c neg (jO 0 ds)/\iR B B w2 wr))\/(iv= .int .i64 3/\Hid (iV wr B xs.length a xs.length c neg (jO 0 ds)/\iR B B w2 wr))\/(iv= .int .i64 4/\Hid (iV wr B xs.length a xs.length c neg (jO 0 ds)/\iR B B w2 wr))) (λ _ iv _=>4 - (intOf iv).toNat)
 case atStart=>exact .inl ⟨rfl,ag ⟨HR2.O,iR.refl _ _ _⟩⟩
 case round=>
  rcases hrel with⟨rfl,hw⟩|⟨rfl,hw⟩|⟨rfl,hw⟩|⟨rfl,hw⟩|⟨rfl,hw⟩
  ·have SJ:=ag (HC0.O wr hw.O.1 hw.O.2)
   go_wp2_with first
    |((with_reducible refine SJ.O.mono ?_);rintro e w3 ⟨rfl,h3,A6⟩;have H3:=dO h3 A6;clear h3 A6)
    |fail
   go_roundw
   case rel=>exact(.inr (.inl ⟨rfl,H3⟩))
   case measure=>simp[intOf]
  ·have SJ:=ag (TA.O wr hw.O.1 hw.O.2)
   go_wp2_with first
    |((with_reducible refine SJ.O.mono ?_);rintro e w3 ⟨rfl,h3,A6⟩;have H3:=dO h3 A6;clear h3 A6)
    |fail
   go_roundw
   case rel=>exact(.inr (.inr (.inl ⟨rfl,H3⟩)))
   case measure=>simp[intOf]
  ·have SJ:=ag (LN.O wr hw.O.1 hw.O.2)
   go_wp2_with first
    |((with_reducible refine SJ.O.mono ?_);rintro e w3 ⟨rfl,h3,A6⟩;have H3:=dO h3 A6;clear h3 A6)
    |fail
   go_roundw
   case rel=>exact(.inr (.inr (.inr (.inl ⟨rfl,H3⟩))))
   case measure=>simp[intOf]
  ·have SJ:=ag (HC3.O wr hw.O.1 hw.O.2)
   go_wp2_with first
    |((with_reducible refine SJ.O.mono ?_);rintro e w3 ⟨rfl,h3,A6⟩;have H3:=dO h3 A6;clear h3 A6)
    |fail
   go_roundw
   case rel=>exact(.inr (.inr (.inr (.inr ⟨rfl,H3⟩))))
   case measure=>simp[intOf]
  ·have c0:wr.cell? (za B 0)=some (.int .i64 (xs.length:Int)):=hw.O.1.cells.1;have y1:wr.heap[W.heap.size]? =some (.cells zl 3):=(hw.O.2.eG _ (cm H1.O.2.2.2)).T ((eJ.O.block _ (cS H1.O.1.1).1).T H1.O.1.1);have y2:wr.heap[W.heap.size+1]? =some (.cells zl 50):=(hw.O.2.eG _ (cm H1.O.2.2.2)).T ((eJ.O.block _ (cS H1.O.1.2).1).T H1.O.1.2);have d1:=dx y1;have d2:=dx y2;have f1:=ax y1 0;have f2:=ax y2 0;have HY:=dO y1 y2;clear y1 y2 HC0 TA LN HC3
   go_wp2_with fail
   refine leaves_cons (f:=267) (args:=(oR (zp W) (zp (W+1)))) cP (by simp[go_sem]) ?_;refine(P8 _ _ _).mono ?_;rintro e u' w' ⟨rfl,rfl,rfl⟩;obtain⟨y1,y2⟩:=HY.O;have JA:=H1.O.2.2.2;have z1:=aU (j:=0) (.int .i64 (xs.length:Int)) y1;have z2:(wr.setCell (za W 0) (.int .i64 (xs.length:Int))).heap[W.heap.size+1]? =some (.cells zl 50):=(aq _ _ _ _ cP).T y2;have z3:=aU (j:=0) (.int .i64 0) z2;have R1:=dx ((aq _ ⟨W.heap.size+1,0,none⟩ (.int .i64 0) _ cP).T z1);have R2:=dx z3;have KU:Hid (iV ((wr.setCell (za W 0) (.int .i64 (xs.length:Int))).setCell (za (W+1) 0) (.int .i64 0)) B xs.length a xs.length c neg (jO 0 ds)/\Below B W ((wr.setCell (za W 0) (.int .i64 (xs.length:Int))).setCell (za (W+1) 0) (.int .i64 0))):=ag ⟨(aq _ _ _ _ dt).T ((aq _ _ _ _ dt).T hw.O.1),
    ((((H1.O.2.1.mono (ff JA)).T (eJ.O.mono (aj (ff JA) H1.O.2.1.size))).T hw.O.2.below).setCell dt _).setCell dt _⟩
   clear y1 y2 z1 z2 z3 JA hw;refine⟨.tuple (acS xs.length),?_,rfl,KU.O⟩;rw[P7 rfl];go_simp
def Ef(neg:Bool)(ds:List Nat):Int:=if neg then-(jO 0 ds:Int)else jO 0 ds
theorem wX(h:p:=by
 go_enter Tryz.func250,Tryz.ntmps250
 go_wp2_with first
  |((with_reducible refine HR.O.mono ?_);rintro e w2 ⟨rfl,h2,bG⟩;obtain⟨-, -,c2,c3,c4,c5⟩:=h2.cells;have eJ:=ag (by rw[<-H1.O.2]at bG;exact H1.O.1.T bG);clear h2 bG)
  |fail
 refine bodyPost_ret (results_tmp3 rfl _ _ _) rfl ?_;exact⟨rfl,eJ.O⟩
 ):p:=h
theorem TB{c:Nat}{a:az}(hD:vy xs ds neg)(hb:ay w a xs)(RB:jO 0 ds<=(if neg then 9223372036854775808 else 9223372036854775807)):
 Calls Tryz.prog 250 (Lz a xs.length c) w λ e w'=>e= .returned (.tuple #[.int .i64 (Ef neg ds),.int .i64 (xs.length:Int),.int .i64 0])/\Below w w w':=by
 obtain⟨w1,bY⟩:=bL (w.alloc (.cells (rdC 0 a xs.length c false 0) 416));have cN:Below w w w1:=by rw[bY];go_grown
 have hB:iV w1 w 0 a xs.length c false 0:=qK bY;have HR:=ag (aaw hD hB (hb.below cN));rw[bY]at HR;have H1:=dO cN bY;unfold Ef;obtain⟨m,hm⟩:=bL (jO 0 ds);rw[<-hm]at RB HR⊢;have hlen:(xs.length:Int)<=4096:=cm hD.len;clear hD hb cN hB bY hm;replace HR:Hid (Calls Tryz.prog 262 (iS (zp w)) (w.alloc (.cells #[.int .i64 0,.slice a xs.length c,.bool false,.int .u64 0,.bool false,.bool false] 416)) λ e w'=>e= .returned (.tuple (acS xs.length))/\iV w' w xs.length a xs.length c neg m/\Below w (w.alloc (.cells (rdC 0 a xs.length c false 0) 416)) w'):=HR;cases neg with
 |true=>
  have hm:(m:Int)<=9223372036854775808:=by simp at RB;omega
  obtain⟨x,hx⟩:∃x:Int,x=IntKind.u64.wrap (-(m:Int)):=⟨_,rfl⟩;have e1:IntKind.u64.wrap (-(m:Int))=x:=hx.symm;have e2:IntKind.i64.wrap x= -(m:Int):=by rw[hx,bR,aI];omega
  have e3:IntKind.u64.wrap 9223372036854775808=9223372036854775808:=bU;have e4:¬ ((9223372036854775808:Int)<(m:Int)):=an;have e5:¬ (9223372036854775808<m):=an;clear hx RB hm;exact wX
 |false=>
  have hm:(m:Int)<=9223372036854775807:=by simp at RB;omega
  have e2:IntKind.i64.wrap (m:Int)=(m:Int):=by rw[aI];omega
  have e4:¬ ((9223372036854775807:Int)<(m:Int)):=an;have e5:¬ (9223372036854775807<m):=an;clear RB hm;exact wX
abbrev psC(pos:Nat)(a:az)(n c:Nat)(nC:Nat)(k v:Int):Array Value:=#[.int .i64 (pos:Int),.slice a n c,.int .i64 (nC:Int),.slice none 0 0,.int .i64 k,.int .i64 v,.string ⟨#[]⟩,.slice none 0 0,.slice none 0 0,.int .i64 0]
def uO(W:World)(B pos:Nat)(a:az)(n c nC:Nat)(k v:Int):Prop:=W.heap[B]? =some (.cells (psC pos a n c nC k v) 301)
theorem uO.cells{c:Nat}{v:Int}{a:az}(h:uO W B pos a n c nC k v):W.cell? (za B 0)=some (.int .i64 (pos:Int))/\W.cell? (za B 1)=some (.slice a n c)/\W.cell? (za B 2)=some (.int .i64 (nC:Int))/\W.cell? (za B 3)=some (.slice none 0 0)/\W.cell? (za B 4)=some (.int .i64 k)/\W.cell? (za B 5)=some (.int .i64 v)/\W.cell? (za B 6)=some (.string ⟨#[]⟩)/\W.cell? (za B 7)=some (.slice none 0 0)/\W.cell? (za B 8)=some (.slice none 0 0)/\W.cell? (za B 9)=some (.int .i64 0):=
 ⟨(af h 0).T rfl,(af h 1).T rfl,(af h 2).T rfl,(af h 3).T rfl,(af h 4).T rfl,(af h 5).T rfl,(af h 6).T rfl,(af h 7).T rfl,(af h 8).T rfl,(af h 9).T rfl⟩
theorem P9{C c:Nat}{v:Int}(hB:uO W B pos (some ⟨C,o,none⟩) n c nC k v)(hx:W.cell? (za C (o+pos))=some (.int .u8 (x:Int)))(hp:pos<n)(h32:32<x)(hn:n<=4096):
 Calls Tryz.prog 176 (iS (zp B)) W λ e w'=>e= .returned (.int .u8 (x:Int))/\w'=W.drew.drew:=by
 obtain⟨c0,c1, -⟩:=hB.cells;have hpi:(pos:Int)<(n:Int):=an;have hni:(n:Int)<=4096:=an;have n1:((x:Int)==32)=false:=dU;have n2:((x:Int)==9)=false:=dU;have n3:((x:Int)==10)=false:=dU;have n4:((x:Int)==13)=false:=dU;clear hB h32 hn;go_enter Tryz.func176,Tryz.ntmps176
 go_wp2_with fail
 go_loopw [3,28] (λ _ _ wr=>wr=W) (λ _ _ _=>0)
 case atStart=>rfl
 case round=>
  subst hrel
  go_wp2_with fail
  refine bP 11 ?_;refine tP [0,1,2,3,4,5,6,7,8,9,10] ?_
  iterate 11 refine tO ?_
  refine au 0 rfl ?_;refine dP ?_;go_simp
  go_wp2_with fail
  refine bP 12 ?_;refine tP [0,1,2,3,4,5,6,7,8,9,10,11] ?_
  iterate 12 refine tO ?_
  refine au 0 rfl ?_;refine dP ?_;go_simp
  go_wp2_with fail
  go_ret;exact⟨rfl,rfl⟩
theorem TC{c:Nat}{a:az}{v:Int}(hB:uO W B n a n c nC k v):
 Calls Tryz.prog 176 (iS (zp B)) W λ e w'=>e= .returned (.int .u8 0)/\w'=W.drew:=by
 obtain⟨c0,c1, -⟩:=hB.cells;have hpi:¬ ((n:Int)<(n:Int)):=an;clear hB;go_enter Tryz.func176,Tryz.ntmps176
 go_wp2_with fail
 go_loopw [3,28] (λ _ _ wr=>wr=W) (λ _ _ _=>0)
 case atStart=>rfl
 case round=>
  subst hrel
  go_wp2_with fail
  refine bP 11 ?_;refine tP [0,1,2,3,4,5,6,7,8,9,10] ?_
  iterate 11 refine tO ?_
  refine au 0 rfl ?_;refine dP ?_;go_simp
  go_wp2_with fail
  go_ret;exact⟨rfl,rfl⟩
theorem Xk(hx:x=45\/(48<=x/\x<58))(W:World):Calls Tryz.prog 246 (zk x) W λ e w'=>e= .returned (.bool true)/\w'=W:=by
 rcases hx with rfl|⟨h1,h2⟩
 ·go_enter Tryz.func246,Tryz.ntmps246
  go_wp2_with fail
  go_ret;exact⟨rfl,rfl⟩
 ·have n1:((x:Int)==34)=false:=dU;have n2:((x:Int)==91)=false:=dU;have n3:((x:Int)==123)=false:=dU;have n4:((x:Int)==45)=false:=dU;have n5:((x:Int)==110)=false:=dU;have n6:((x:Int)==116)=false:=dU;have n7:((x:Int)==102)=false:=dU;have n8:(48:Int)<=(x:Int):=an;have n8':decide ((48:Int)<=(x:Int))=true:=dU;have n9:(x:Int)<=57:=an;go_enter Tryz.func246,Tryz.ntmps246
  go_wp2_with fail
  go_ret;exact⟨by first|rfl|(simp;done),rfl⟩
theorem abW{c:Nat}{a:az}(hB:uO W B pos a n c nC 0 0)(v:Int)(hn:n₀<=B):
 Calls Tryz.prog 248 (BY (zp B) (.agg (gE v))) W λ e w'=>e= .returned (.int .i64 6)/\uO w' B pos a n c nC 3 v/\Below n₀ W w':=by
 have cL:=(cS hB).1;obtain⟨w1,bY⟩:=bL (W.alloc (.cells (gE v) 49));have h1:uO w1 B pos a n c nC 0 0:=by rw[bY];exact(gO W _ _ cL).T hB
 obtain⟨c0,c1,c2,c3,c4,c5,c6,c7,c8,c9⟩:=h1.cells;have f4:=ax h1 4;have h2:=aU (j:=4) (.int .i64 3) h1;have f5:=ax h2 5;have h3:=aU (j:=5) (.int .i64 v) h2;have f6:=ax h3 6;have h4:=aU (j:=6) (.string ⟨#[]⟩) h3;have f7:=ax h4 7;have h5:=aU (j:=7) (.slice none 0 0) h4;have f8:=ax h5 8;have h6:=aU (j:=8) (.slice none 0 0) h5;have hb:Below n₀ W w1:=by rw[bY];exact(ah _ W).alloc an _
 have HE:Hid (uO (((((w1.setCell (za B 4) (.int .i64 3)).setCell (za B 5) (.int .i64 v)).setCell (za B 6) (.string ⟨#[]⟩)).setCell (za B 7) (.slice none 0 0)).setCell (za B 8) (.slice none 0 0)) B pos a n c nC 3 v/\Below n₀ W (((((w1.setCell (za B 4) (.int .i64 3)).setCell (za B 5) (.int .i64 v)).setCell (za B 6) (.string ⟨#[]⟩)).setCell (za B 7) (.slice none 0 0)).setCell (za B 8) (.slice none 0 0))):=ag ⟨h6,((((hb.setCell hn _).setCell hn _).setCell hn _).setCell hn _).setCell hn _⟩;rw[bY]at f5 f6 f7 f8 HE;clear h2 h3 h4 h5 h6 hb;rw[bY]at c0 c1 c2 c3 c4 c5 c6 c7 c8 c9 f4;clear h1 bY cL hB;go_enter Tryz.func248,Tryz.ntmps248
 go_wp2_with fail
 go_ret;exact⟨rfl,HE.O.1,HE.O.2⟩
theorem vy.first(h:vy xs ds neg):∃x,xs[0]? =some x/\(x=45\/(48<=x/\x<58)):=by
 obtain⟨d,r,rfl⟩:∃d r,ds=d::r:=by cases ds with|nil=>exact absurd rfl h.ne|cons d r=>exact⟨d,r,rfl⟩
 cases neg with
 |true=>exact⟨45,by rw[h.text];rfl,.inl rfl⟩
 |false=>have h1:=h.at 0 d rfl;exact⟨48+d,h1.2,.inr an⟩
theorem Xl{c:Nat}{a:az}(hD:vy xs ds neg)(hB:uO W B 0 a xs.length c 0 0 0)(hb:ay W a xs)(hn:n₀<=B)(RB:jO 0 ds<=(if neg then 9223372036854775808 else 9223372036854775807)):
 Calls Tryz.prog 228 (iS (zp B)) W λ e w'=>e= .returned (.int .i64 6)/\uO w' B xs.length a xs.length c 1 3 (Ef neg ds)/\Below n₀ W w':=by
 obtain⟨x,hx,Rd⟩:=hD.first
 have G7:0<xs.length:=(aC.1 hx).1;obtain⟨C,o,rfl,Ca⟩:∃C o,a=some ⟨C,o,none⟩/\W.cell? (za C (o+0))=some (.int .u8 (x:Int)):=by
  rcases hb.2 with h0|⟨C,o,e,hc⟩
  ·rw[h0]at G7;simp at G7
  ·exact⟨C,o,e,hc 0 x hx⟩
 have PK:=ag (P9 hB Ca G7 an hD.len);have HBG:=ag (λ V=>Xk Rd V);obtain⟨w1,bY⟩:=bL (W.setCell (za B 2) (.int .i64 1));have h1:uO w1 B 0 (some ⟨C,o,none⟩) xs.length c 1 0 0:=by rw[bY];exact aU (j:=2) _ hB
 have cN:ay w1 (some ⟨C,o,none⟩) xs:=gQ (λ j hj=>by rw[bY];exact aq _ _ _ _ hj) hB (λ j x=>by unfold psC;rcases j with _|_|_|_|_|_|_|_|_|_|j<;>simp) hb;have HNR:=ag (TB (w:=w1.drew.drew.drew) (c:=c) hD (cN.below (((ah _ w1).drew).drew).drew) RB);have H1:=eS (show B<w1.drew.drew.drew.heap.size from(cS h1).1) (show uO w1.drew.drew.drew B 0 (some ⟨C,o,none⟩) xs.length c 1 0 0 from h1) (show Below n₀ W w1.drew.drew.drew by rw[bY];exact((((ah _ W).setCell hn _).drew).drew).drew);have HN:=ag hn;obtain⟨c0,c1,c2, -⟩:=hB.cells;have f2:=ax hB 2;obtain⟨y0,y1,y2, -⟩:=h1.cells;rw[bY]at y0 y1 y2;rw[bY]at HNR;have qj:=ag bY;have n1:((x:Int)==91)=false:=dU;have n2:((x:Int)==123)=false:=dU;have n3:((x:Int)==34)=false:=dU;have n4:((x:Int)==110)=false:=dU;have n5:((x:Int)==116)=false:=dU;have n6:((x:Int)==102)=false:=dU;clear hD hB hb hn RB hx Rd G7 Ca h1 cN bY;go_enter Tryz.func228,Tryz.ntmps228
 go_wp2_with first
  |((with_reducible refine PK.O.mono ?_);rintro e w2 ⟨rfl,fH⟩;rw[fH];clear fH w2)
  |((with_reducible refine(HBG.O _).mono ?_);rintro e w2 ⟨rfl,fH⟩;rw[fH];clear fH w2)
  |fail
 refine bP 17 ?_;refine tP [0,1,2,3,4,5,6,7,8] ?_
 iterate 9 refine tO ?_
 refine au 8 rfl ?_;refine sP 9 [0,1,2,3,4,5,6,7,8] λ K hK=>?_;go_simp;(with_reducible refine HNR.O.mono ?_);rintro e w4 ⟨rfl,dX⟩;rw[<-qj.O]at dX;have h4:uO w4 B 0 (some ⟨C,o,none⟩) xs.length c 1 0 0:=(dX.block B H1.O.1).T H1.O.2.1;have z0:=(af h4 0).T rfl;have g0:=ax h4 0;have h5:uO (w4.setCell (za B 0) (.int .i64 (xs.length:Int))) B xs.length (some ⟨C,o,none⟩) xs.length c 1 0 0:=aU (j:=0) _ h4;have KS:=ag (abW (n₀:=n₀) h5 (Ef neg ds) HN.O);have jE:=ag (show Below n₀ W (w4.setCell (za B 0) (.int .i64 (xs.length:Int)))from(H1.O.2.2.T (dX.mono (ff (Nat.lt_of_le_of_lt HN.O H1.O.1)))).setCell HN.O _);clear dX h4 h5;refine nP hK ?_;clear hK K;refine tP [10,11,12,13,14,15,16] ?_
 iterate 7 refine tO ?_
 refine au 0 rfl ?_;refine dP ?_;go_simp
 go_wp2_with first
  |((with_reducible refine KS.O.mono ?_);rintro e w6 ⟨rfl,h6,lP⟩;have H6:=dO h6 (jE.O.T lP);clear h6 lP)
  |fail
 go_ret;exact⟨rfl,H6.O.1,H6.O.2⟩
abbrev psF:Array Value:=#[.func (.func 228) #[] #[],.func (.func 229) #[] #[],.func (.func 230) #[] #[],.func (.func 231) #[] #[],.func (.func 232) #[] #[],.func (.func 233) #[] #[]]
theorem Xm(w:World):Calls Tryz.prog 207 #[] w λ e w'=>e= .returned (.agg psF)/\Below w w w':=by
 go_enter Tryz.func207,Tryz.ntmps207
 go_wp2_with fail
 refine bodyPost_ret (v:=.agg psF) iq bp ⟨rfl,?_⟩;go_grown
theorem abX{c:Nat}{a:az}(hD:vy xs ds neg)(hB:uO W B 0 a xs.length c 0 0 0)(hb:ay W a xs)(hn:n₀<=B)(RB:jO 0 ds<=(if neg then 9223372036854775808 else 9223372036854775807)):
 Calls Tryz.prog 175 (iS (zp B)) W λ e w'=>e= .returned (.tuple #[])/\uO w' B xs.length a xs.length c 1 3 (Ef neg ds)/\Below n₀ W w':=by
 have cL:=(cS hB).1;have HV:Hid (∀V,Below W W V->Calls Tryz.prog 228 (iS (zp B)) V λ e w'=>e= .returned (.int .i64 6)/\uO w' B xs.length a xs.length c 1 3 (Ef neg ds)/\Below n₀ W w'):=ag λ V hV=>
  (Xl hD ((hV.block B cL).T hB) (hb.below hV) hn RB).mono λ e w' ⟨h1,h2,h3⟩=>⟨h1,h2,(hV.mono an).T h3⟩
 have rB:=ag (Xm W);clear hD hB hb hn RB cL;go_enter Tryz.func175,Tryz.ntmps175
 go_wp2_with fail
 go_step3
 go_wp2_with first
  |((with_reducible refine rB.O.mono ?_);rintro e w2 ⟨rfl,bG⟩;have cu:Below W W (w2.alloc (.cells psF 339)):=bG.alloc bG.size _;have uX:=ai w2 (.cells psF 339);have p0:=(af uX 0).T rfl;have HVV:=ag (HV.O _ cu);unfold psF at HVV;clear bG cu uX)
  |fail
 go_step3
 go_wp2_with fail
 go_loopw [2] (λ iv wr=>(iv= .int .i64 0/\wr=w2.alloc (.cells psF 339))\/(iv= .int .i64 6/\Hid (uO wr B xs.length a xs.length c 1 3 (Ef neg ds)/\Below n₀ W wr))) (λ iv _=>6 - (intOf iv).toNat)
 case atStart=>exact .inl ⟨rfl,rfl⟩
 case round=>
  rcases hrel with⟨rfl,rfl⟩|⟨rfl,hw⟩
  ·unfold psF at p0;unfold psF
   go_wp2_with first
    |((with_reducible refine HVV.O.mono ?_);rintro e w4 ⟨rfl,h4,dX⟩;have H4:=dO h4 dX;clear h4 dX)
    |fail
   go_roundw
   case rel=>exact .inr ⟨rfl,H4⟩
   case measure=>simp[intOf]
  ·go_wp2_with fail
   rw[Exit.noGoto_normal];go_end0;exact⟨rfl,hw.O.1,hw.O.2⟩
theorem TD{c:Nat}{a:az}(hD:vy xs ds neg)(hb:ay w a xs)(RB:jO 0 ds<=(if neg then 9223372036854775808 else 9223372036854775807))(hlen:xs.length<=2048):
 Calls Tryz.prog 130 (sg a xs.length c) w λ e w'=>e= .returned (.tuple (acT (.agg (gE (Ef neg ds)))))/\Below w w w':=by
 obtain⟨w1,bY⟩:=bL ((w.alloc (.cells lX 49)).alloc (.cells (psC 0 a xs.length c 0 0 0) 301));have cN:Below w w w1:=by rw[bY];go_grown
 have eb:=bu (w2:=w1) fq;have HG:Hid (Calls Tryz.prog 175 (iS (zp (w+1))) ((w.alloc (.cells lX 49)).alloc (.cells #[.int .i64 0,.slice a xs.length c,.int .i64 0,.slice none 0 0,.int .i64 0,.int .i64 0,.string ⟨#[]⟩,.slice none 0 0,.slice none 0 0,.int .i64 0] 301)) λ e w'=>e= .returned (.tuple #[])/\uO w' (w+1) xs.length a xs.length c 1 3 (Ef neg ds)/\Below (w+1) w1 w'):=ag (by have:=abX (n₀:=w.heap.size+1) (W:=w1) hD eb.2 (hb.below cN) (cH) RB;rw[bY]at this⊢;exact this)
 have H1:=dO cN eb;have hl:¬ (2048:Int)<(xs.length:Int):=an;have hpi:¬ ((xs.length:Int)<(xs.length:Int)):=an;obtain⟨v,hv⟩:=bL (Ef neg ds);rw[<-hv]at HG⊢;clear hD hb RB hlen bY cN eb hv;go_enter Tryz.func130,Tryz.ntmps130
 go_wp2_with first
  |((with_reducible refine HG.O.mono ?_);rintro e w2 ⟨rfl,h2,bG⟩;have PK:=ag (TC h2);obtain⟨c0,c1,c2,c3,c4,c5,c6,c7,c8,c9⟩:=h2.cells;have h0:=(bG.block w (fJ _)).T H1.O.2.1;have s1:=aU (j:=0) (.int .i64 3) h0;have s2:=aU (j:=1) (.int .i64 v) s1;have s3:=aU (j:=2) (.string ⟨#[]⟩) s2;have s4:=aU (j:=3) (.slice none 0 0) s3;have s5:=aU (j:=4) (.slice none 0 0) s4;have f0:=ax h0 0;have f1:=ax s1 1;have f2:=ax s2 2;have f3:=ax s3 3;have f4:=ax s4 4;have d0:=(af h0 0).T rfl;have d1:=(af s1 1).T rfl;have d2:=(af s2 2).T rfl;have d3:=(af s3 3).T rfl;have d4:=(af s4 4).T rfl;have HS5:=ag s5;have eJ:=ag (show Below w w w2 from H1.O.1.T (bG.mono (bk _)));clear h2 bG h0 s1 s2 s3 s4 s5)
  |((with_reducible refine PK.O.mono ?_);rintro e w3 ⟨rfl,gV⟩;rw[gV];clear gV w3)
  |fail
 have hB5:Below w w (((((w2.setCell (za w 0) (.int .i64 3)).setCell (za w 1) (.int .i64 v)).setCell (za w 2) (.string ⟨#[]⟩)).setCell (za w 3) (.slice none 0 0)).setCell (za w 4) (.slice none 0 0)).drew:=
  (((((eJ.O.setCell (cH) _).setCell (cH) _).setCell (cH) _).setCell (cH) _).setCell (cH) _).drew
 have hs:=HS5.O;obtain⟨w5,kY⟩:=bL (((((w2.setCell (za w 0) (.int .i64 3)).setCell (za w 1) (.int .i64 v)).setCell (za w 2) (.string ⟨#[]⟩)).setCell (za w 3) (.slice none 0 0)).setCell (za w 4) (.slice none 0 0));rw[<-kY]at hB5 hs⊢;have e0:=(af hs 0).T rfl;have e1:=(af hs 1).T rfl;have e2:=(af hs 2).T rfl;have e3:=(af hs 3).T rfl;have e4:=(af hs 4).T rfl;simp only[gq,jX,eW,eV]at e0 e1 e2 e3 e4;clear hs kY HS5 d0 d1 d2 d3 d4 f0 f1 f2 f3 f4 HG PK c0 c1 c2 c3 c4 c5 c6 c7 c8 c9;refine bodyPost_ret (v:=.tuple (acT (.agg (qv v)))) ?_ bp ⟨rfl,hB5⟩;rw[C9 rfl];go_simp
def tR:Nat->Nat->List Nat
 |0,_=>[]
 |k+1,m=>tR k (m/10)++[m%10]
theorem NK:∀(k m:Nat),A5 k m=(tR k m).map (48+·)
 |0,_=>rfl
 |k+1,m=>by rw[A5,tR,NK k];simp
theorem Gb:∀(k m:Nat),(tR k m).length=k
 |0,_=>rfl
 |k+1,m=>by simp[tR,Gb k]
theorem RC:∀(k m:Nat),∀d∈tR k m,d<10
 |0,_,d,h=>by simp[tR]at h
 |k+1,m,d,h=>by
  rw[tR]at h;rcases aG.1 h with h|h
  ·exact RC k _ d h
  ·simp at h;omega
theorem Xn(v:Nat)(xs:List Nat)(d:Nat):jO v (xs++[d])=10*jO v xs+d:=by unfold jO;simp
theorem NM:∀(k m:Nat),jO 0 (tR k m)=m%10^k
 |0,m=>by simp[tR,jO,lL]
 |k+1,m=>by
  rw[tR,Xn,NM k,cK,dr (10^k) 10,Nat.mod_mul];omega
theorem JB:∀(k m:Nat),(tR (k+1) m).head?=some (m/10^k%10)
 |0,m=>by simp[tR]
 |k+1,m=>by
  have h:=JB k (m/10);rw[tR];have dN:tR (k+1) (m/10)≠[]:= λ e=>by have:=Gb (k+1) (m/10);rw[e]at this;simp at this
  obtain⟨x,r,hr⟩:∃x r,tR (k+1) (m/10)=x::r:=by
   cases hd:tR (k+1) (m/10)with
   |nil=>exact absurd hd dN
   |cons x r=>exact⟨x,r,rfl⟩
  rw[hr]at h⊢;rw[cQ,dr 10,<-cK]at h;simpa using h
theorem NN(n:Int)(kH: -9223372036854775808<=n)(pI:n<9223372036854775808):
 ∃ds,vy (ew n) ds (decide (n<0))/\Ef (decide (n<0)) ds=n/\jO 0 ds<=(if decide (n<0)then 9223372036854775808 else 9223372036854775807):=by
 obtain⟨m,hm⟩:=bL n.natAbs;have adz:m<=9223372036854775808:=an;obtain⟨h1,h2⟩:=uM 20 m an;have h3:=CE 20 m;have h19:=F8 m an;obtain⟨k,hk⟩:∃k,lR 20 m=k+1:=⟨lR 20 m - 1,an⟩;rw[hk]at h1 h2 h19;have cL:m<10^(k+1):=by
  rcases cX m (10^(k+1))with h|h
  ·exact h
  ·have:=Nat.div_pos h (lM de);omega
 have Eg:jO 0 (tR (k+1) m)=m:=by rw[NM,cl cL]
 have hd:rA m=(tR (k+1) m).map (48+·):=by unfold rA;rw[hk,NK]
 have hlen:=Gb (k+1) m;refine⟨tR (k+1) m,⟨?_,RC _ _, λ e=>by rw[e]at hlen;simp at hlen, λ h0=>?_,?_,by rw[Eg];omega⟩,?_,?_⟩
 ·unfold ew;rw[<-hm,hd];by_cases h:n<0
  ·simp[h]
  ·simp[h]
 ·rw[JB]at h0;have h0':m/10^k%10=0:=by simpa using h0
  have hq:m/10^k<10:=by rw[gy (lM de),dr,<-cK];exact cL
  have hz:m/10^k=0:=by rw[cl hq]at h0';exact h0'
  rcases k with _|k
  ·simp at hz;subst hz;rfl
  ·exact absurd hz (h2 (k+1) an an)
 ·have hl:(rA m).length=k+1:=by rw[hd];simp[hlen]
  unfold ew;rw[<-hm];split<;>simp[hl]<;>omega
 ·unfold Ef;rw[Eg];by_cases h:n<0
  ·simp[h];omega
  ·simp[h];omega
 ·rw[Eg];by_cases h:n<0
  ·simp[h];omega
  ·simp[h];omega
theorem TE(n:Int)(kH: -9223372036854775808<=n)(pI:n<9223372036854775808){c:Nat}{a:az}(hb:ay w a (ew n)):
 Calls Tryz.prog 130 (sg a (ew n).length c) w λ e w'=>e= .returned (.tuple (acT (.agg (gE n))))/\Below w w w':=by
 obtain⟨ds,h1,h2,h3⟩:=NN n kH pI;have hl:=lF n kH pI;have:=TD (c:=c) h1 hb h3 (by have h:(cE (ew n)).size=(ew n).length:=(by simp[cE,ByteArray.size]);omega)
 rwa [h2]at this
theorem JC(N:Nat):1<=db N/\db N<=N+1:=by unfold db;split<;>omega
theorem KW(n:Int)(h2: -9223372036854775808<=n)(h3:n<9223372036854775808):∀x∈ew n,x<256:=by
 obtain⟨ds,hd,_,_⟩:=NN n h2 h3;intro x hx;obtain⟨j,hj⟩:=dE.1 hx;by_cases h:j<uN (decide (n<0))
 ·have hn:n<0:=by
   unfold uN at h;by_cases hn:n<0
   ·exact hn
   ·simp[hn]at h
  have h0:j=0:=by unfold uN at h;simp[hn]at h;exact h
  subst h0;unfold ew at hj;rw[if_pos hn]at hj;simp at hj;omega
 ·have hl:=(aC.1 hj).1;rw[hd.length]at hl;obtain⟨d,hdd⟩:∃d,ds[j - uN (decide (n<0))]? =some d:=⟨_,aB an⟩;have:=hd.at _ d hdd;rw[show uN (decide (n<0))+(j - uN (decide (n<0)))=j by omega,hj]at this;have h2:x=48+d:=by simpa using this.2
  omega
abbrev stC(b:az)(k c a1 d1 c1 a2 d2 c2 q:Nat):Array Value:=(O8 b k c a1 d1 c1 a2 d2 c2 q)
def jV(W:World)(B:Nat)(b:az)(k c a1 d1 c1 a2 d2 c2 q:Nat):Prop:=W.heap[B]? =some (.cells (stC b k c a1 d1 c1 a2 d2 c2 q) 84)
theorem wY(h:∀j,j≠B->V.heap[j]? =W.heap[j]?)(i:Nat)(v:Value):∀j,j≠B->(V.setCell ⟨B,i,none⟩ v).heap[j]? =W.heap[j]? := λ j hj=>(aq _ _ _ _ hj).T (h j hj)
theorem TF{c a1 d1 c1 a2 d2 c2 q:Nat}{b:az}(hS:jV w B b ps.length c a1 d1 c1 a2 d2 c2 q)(hF:aQ w b c ps)(hm:Marks (aw ps))(at_:Nat)(n:Int)(kH: -9223372036854775808<=n)(pI:n<9223372036854775808)(hr:iy (aw ps) at_ (ew n)):
 Calls Tryz.prog 92 (acR (zp B) at_) w λ e w'=>e= .returned (.tuple (zo (.agg (gE n))))/\Below w w w':=by
 obtain⟨w1,bY⟩:=bL (w.alloc (.cells lX 49));have cN:Below w w w1:=by rw[bY];go_grown
 have eb:w1.heap[w.heap.size]? =some (.cells lX 49):=qK bY;have HG:=ag (Kq (hF.below cN) hm at_ _ hr);have hs:= λ j=>af ((cN.block B (cS hS).1).T hS) j;have y0:=(hs 0).T rfl;have y1:=(hs 1).T rfl;have y2:=(hs 2).T rfl;have y3:=(hs 3).T rfl;have y4:=(hs 4).T rfl;simp only[cW]at y0 y1 y2 y3 y4;rw[bY]at HG y0 y1 y2 y3 y4;unfold bN at HG;have H1:=eS cN eb bY;have HN:=dO kH pI;obtain⟨l,hl⟩:=bL ((ew n).length);have HL:=ag hl;rw[<-hl]at HG;clear hS hF hm hr kH pI bY cN eb hs hl;go_enter Tryz.func92,Tryz.ntmps92
 go_wp2_with first
  |((with_reducible refine HG.O.mono ?_);rintro e w2 ⟨a,k,z,rfl, -, -,iL,bG⟩;rw[<-H1.O.2.2]at bG;have HP:=ag (TE n HN.O.1 HN.O.2 (c:=k) iL);rw[<-HL.O]at HP;have eJ:=dO bG iL;clear bG iL)
  |((with_reducible refine HP.O.mono ?_);rintro e w3 ⟨rfl,cu⟩;have ek:=ag cu;have HPR:=ag (CG n HN.O.1 HN.O.2 (w3.alloc (.cells (gE n) 49)));clear cu)
  |((with_reducible refine HPR.O.mono ?_);rintro e w4 ⟨rfl,dX⟩;have acr:Below w3 w3 w4:=((ah _ w3).alloc (cH) _).T (dX.mono cP);have hv:=(dX.block w3 cP).T (ai w3 (.cells (gE n) 49));have u0:=(af hv 0).T rfl;have u1:=(af hv 1).T rfl;have u2:=(af hv 2).T rfl;have u3:=(af hv 3).T rfl;have u4:=(af hv 4).T rfl;simp only[cW]at u0 u1 u2 u3 u4;have S8:ay w4 a (ew n):=(eJ.O.2.below ek.O).below acr;have hz:w4.heap[w.heap.size]? =some (.cells lX 49):=by
     have g1:=(cS H1.O.2.1).1;have g2:=eJ.O.1.size;have g3:=ek.O.size;exact(acr.block _ an).T ((ek.O.block _ an).T ((eJ.O.1.block _ g1).T H1.O.2.1))
    have hcv:=fu (c:=k) (S8.below (ah _ w4).drew) HL.O.symm;have s1:=aU (j:=0) (.int .i64 3) hz;have s2:=aU (j:=1) (.int .i64 n) s1;have s3:=aU (j:=2) (.string ⟨#[]⟩) s2;have s4:=aU (j:=3) (.slice none 0 0) s3;have s5:=aU (j:=4) (.slice none 0 0) s4;have f0:=ax hz 0;have f1:=ax s1 1;have f2:=ax s2 2;have f3:=ax s3 3;have f4:=ax s4 4;have d0:=(af hz 0).T rfl;have d1:=(af s1 1).T rfl;have d2:=(af s2 2).T rfl;have d3:=(af s3 3).T rfl;have d4:=(af s4 4).T rfl;have afz:ay (((((w4.setCell (za w 0) (.int .i64 3)).setCell (za w 1) (.int .i64 n)).setCell (za w 2) (.string ⟨#[]⟩)).setCell (za w 3) (.slice none 0 0)).setCell (za w 4) (.slice none 0 0)) a (ew n):=
     gQ (wY (wY (wY (wY (wY (λ _ _=>rfl) 0 _) 1 _) 2 _) 3 _) 4 _) hz (λ j x=>by rcases j with _|_|_|_|_|j<;>simp) S8
    have ahH:=fu (c:=k) (afz.below (gb).drew) HL.O.symm;have mz:Below w w w4:=H1.O.1.T ((eJ.O.1.mono H1.O.1.size).T ((ek.O.mono (iX H1.O.1.size eJ.O.1.size)).T (acr.mono (Ig H1.O.1.size eJ.O.1.size ek.O.size))));have HE:=dO mz s5;clear dX acr hv S8 hz s1 s2 s3 s4 s5 afz mz)
  |fail
 refine bP 11 ?_;refine tP [0,1,2,3,4,5,6,7,8] ?_
 iterate 9 refine tO ?_
 refine au 2 rfl ?_;refine sP 9 [0,1,2,3] λ K hK=>?_;go_simp;refine nP hK ?_;clear hK K;refine tP [10] ?_;refine tO ?_;refine au 0 rfl ?_;refine dP ?_;go_simp
 go_wp2_with fail
 have hB5:Below w w (((((w4.setCell (za w 0) (.int .i64 3)).setCell (za w 1) (.int .i64 n)).setCell (za w 2) (.string ⟨#[]⟩)).setCell (za w 3) (.slice none 0 0)).setCell (za w 4) (.slice none 0 0)).drew:=
  (((((HE.O.1.setCell (cH) _).setCell (cH) _).setCell (cH) _).setCell (cH) _).setCell (cH) _).drew
 have hs:=HE.O.2;obtain⟨w5,kY⟩:=bL (((((w4.setCell (za w 0) (.int .i64 3)).setCell (za w 1) (.int .i64 n)).setCell (za w 2) (.string ⟨#[]⟩)).setCell (za w 3) (.slice none 0 0)).setCell (za w 4) (.slice none 0 0));rw[<-kY]at hB5 hs⊢;have e0:=(af hs 0).T rfl;have e1:=(af hs 1).T rfl;have e2:=(af hs 2).T rfl;have e3:=(af hs 3).T rfl;have e4:=(af hs 4).T rfl;simp only[gq,jX,eW,eV]at e0 e1 e2 e3 e4;clear hs kY HE d0 d1 d2 d3 d4 f0 f1 f2 f3 f4 hcv ahH u0 u1 u2 u3 u4 y0 y1 y2 y3 y4 HG HP HPR;refine bodyPost_ret (v:=.tuple (zo (.agg (qv n)))) ?_ bp ⟨rfl,hB5⟩;rw[results_cell_tmp rfl];go_simp
end
section
attribute [-go_sem] Builtin.append_
def pY(x:Nat):Bool:=decide (97<=x)&&decide (x<=122)||decide (48<=x)&&decide (x<=57)||decide (x=45)
theorem oC(h:p:=by
 go_enter Tryz.func64,Tryz.ntmps64
 go_wp2_with fail
 go_ret;exact⟨by rw[HQ.O];rfl,rfl⟩
 ):p:=h
theorem TO(x:Nat)(w:World):Calls Tryz.prog 64 (zk x) w λ e w'=>e= .returned (.bool (pY x))/\w'=w:=by
 have HP:Hid (pY x=(decide (97<=x)&&decide (x<=122)||decide (48<=x)&&decide (x<=57)||decide (x=45))):=ag rfl;by_cases h1:97<=x
 ·have d1:decide ((97:Int)<=(x:Int))=true:=dU;have e1:decide (97<=x)=true:=dU;by_cases h2:x<=122
  ·have d2:decide ((x:Int)<=122)=true:=dU;have e2:decide (x<=122)=true:=dU;rw[e1,e2]at HP;go_enter Tryz.func64,Tryz.ntmps64
   go_wp2_with fail
   go_ret;exact⟨by rw[HP.O];rfl,rfl⟩
  ·have d2:decide ((x:Int)<=122)=false:=dU;have d3:decide ((48:Int)<=(x:Int))=true:=dU;have d4:decide ((x:Int)<=57)=false:=dU;have d5:((x:Int)==45)=false:=dU;have HQ:Hid (pY x=false):=ag (by unfold pY;simp;omega);clear h1 h2 e1 HP;exact oC
 ·have d1:decide ((97:Int)<=(x:Int))=false:=dU;by_cases h3:48<=x/\x<=57
  ·have d3:decide ((48:Int)<=(x:Int))=true:=dU;have d4:decide ((x:Int)<=57)=true:=dU;have HQ:Hid (pY x=true):=ag (by unfold pY;simp;omega);clear h1 h3 HP;exact oC
  ·obtain⟨p,hp⟩:=bL (((x:Int)==45));have HQ:Hid (pY x=p):=ag (by
    unfold pY;rw[hp];by_cases h5:x=45
    ·subst h5;rfl
    ·have:((x:Int)==45)=false:=dU;rw[this];simp;omega)
   have d5:((x:Int)==45)=p:=hp.symm;clear hp HP;by_cases h4:48<=x
   ·have d3:decide ((48:Int)<=(x:Int))=true:=dU;have d4:decide ((x:Int)<=57)=false:=dU;clear h1 h3 h4;exact oC
   ·have d3:decide ((48:Int)<=(x:Int))=false:=dU;clear h1 h3 h4;exact oC
def K3(s:ByteArray):Bool:=decide (1<=s.size)&&decide (s.size<=24)
def oD(s:ByteArray)(i:Nat):Bool:=K3 s&&(List.range i).all λ j=>if h:j<s.size then pY (s[j]'h).toNat else false
def vz(s:ByteArray):Bool:=oD s s.size
def yR(s:ByteArray):Int:=if vz s then 0 else 290
theorem Gp(s:ByteArray)(hs:s.size<=4611686018427387904)(w:World):Calls Tryz.prog 36 #[.string s] w λ e w'=>e= .returned (.int .i64 (yR s))/\w'=w:=by
 have HPL:=ag TO;have h62:(s.size:Int)<=4611686018427387904:=an;have N7:∀(i:Nat) (h:i<s.size),oD s (i+1)=(oD s i&&pY (s[i]'h).toNat):= λ i h=>by unfold oD;rw[lI,List.all_append];simp[Bool.and_assoc,h]
 have rB:=ag N7;clear N7;have HE0:Hid (oD s s.size=false->(290:Int)=yR s):=ag λ h=>by unfold yR vz;rw[h];rfl
 have HE1:Hid (oD s s.size=true->(0:Int)=yR s):=ag λ h=>by unfold yR vz;rw[h];rfl
 have hd:(decide ((1:Int)<=(s.size:Int))=true/\decide ((s.size:Int)<=24)=true/\Hid (oD s 0=true))\/(decide ((1:Int)<=(s.size:Int))=true/\decide ((s.size:Int)<=24)=false/\Hid (oD s 0=false))\/(decide ((1:Int)<=(s.size:Int))=false/\Hid (oD s 0=false)):=by
  by_cases h1:1<=s.size
  ·by_cases h2:s.size<=24
   ·exact .inl ⟨by simp;omega,by simp;omega,ag (by simp[oD,K3,h1,h2])⟩
   ·exact .inr (.inl ⟨by simp;omega,by simp;omega,ag (by simp[oD,K3,h2])⟩)
  ·exact .inr (.inr ⟨by simp;omega,ag (by simp[oD,K3,h1])⟩)
 rcases hd with⟨d1,d2,H0⟩|⟨d1,d2,H0⟩|⟨d1,H0⟩
 all_goals
  go_enter Tryz.func36,Tryz.ntmps36
  go_wp2_with fail
  go_loopw [4,16] (λ ov iv wr=>∃i:Nat,i<=s.size/\iv= .int .i64 (i:Int)/\ov= .bool (oD s i)/\Hid (wr=w)) (λ _ iv _=>s.size - (intOf iv).toNat)
  case atStart=>exact⟨0,aD _,rfl,by rw[H0.O],ag rfl⟩
  case round=>
   obtain⟨i,hi,rfl,rfl,hw⟩:=hrel;by_cases cL:i<s.size
   ·have SK:((i:Int)<(s.size:Int)):=an;have ahK:(i:Int)<4611686018427387904:=an;have gC:=rB.O i cL;have HS1:=ag gC;clear gC;cases kD:oD s i with
    |false=>
     go_wp2_with fail
     exact⟨⟨i+1,an,by simp,by rw[HS1.O,kD];rfl,hw⟩,by simp[intOf];omega⟩
    |true=>
     have HPI:=ag (HPL.O (s[i]'cL).toNat wr)
     go_wp2_with first
      |((with_reducible refine HPI.O.mono ?_);rintro e w3 ⟨rfl,gV⟩;rw[gV];clear gV w3)
      |fail
     exact⟨⟨i+1,an,by simp,by rw[HS1.O,kD];simp,hw⟩,by simp[intOf];omega⟩
   ·have hie:i=s.size:=an;subst hie;have vW:¬ ((s.size:Int)<(s.size:Int)):=an;generalize oD s s.size=bo at HE0 HE1⊢;cases bo with
    |false=>
     go_wp2_with fail
     go_ret;exact⟨congrArg (λ c=>Ending.returned (.int .i64 c)) (HE0.O qN),hw.O⟩
    |true=>
     go_wp2_with fail
     go_ret;exact⟨congrArg (λ c=>Ending.returned (.int .i64 c)) (HE1.O qN),hw.O⟩
end
section
attribute [local go_sem] Oper.semAt_some
attribute [-go_sem] Builtin.append_
theorem T5{a:az}{n:Nd}(k:Nat)(h:n.At w a)(ho:n.Ok):
 Calls Tryz.prog 217 #[n.v a k] w λ e w'=>∃a' k',e= .returned (.tuple (Lz a' n.enc.length k'))/\ay w' a' n.enc/\Below w w w':=by
 cases n with
 |leaf xs=>
  refine(Dd k h ho.1 ho.2 none 0).mono ?_;rintro e w' ⟨a',k',rfl,_,_,h1,h2⟩;exact⟨a',k',rfl,h1,h2⟩
 |inner xs=>
  refine(AR k h ho none 0).mono ?_;rintro e w' ⟨a',k',rfl,_,_,h1,h2⟩;exact⟨a',k',rfl,h1,h2⟩
theorem aaC(n:Nd):1<=n.enc.length:=by cases n<;>simp[Nd.enc,dc,cz]
section
variable {R : Nat} {W W' : World} {cs : Array Value} {t : TypeId}
theorem T6(ho:dI R W W')(hR:W.heap[R]? =some (.cells cs t)){v:Value}(hv:∀j:Nat,cs[j]? ≠some v)(h:W.cell? ⟨B,o,none⟩=some v):W'.cell? ⟨B,o,none⟩=some v:=by
 have dN:B≠R:=by rintro rfl;rw[af hR]at h;exact hv _ h
 exact(bq (w:=W) (ho.block B (aZ W _ h) dN)).T h
theorem mj(ho:dI R W W')(hR:W.heap[R]? =some (.cells cs t))(h8:∀(j x:Nat),cs[j]? ≠some (.int .u8 (x:Int))){a:az}(h:ay W a xs):ay W' a xs:=by
 refine⟨h.1,?_⟩;rcases h.2 with h0|⟨C,o,e,hc⟩
 ·exact .inl h0
 ·exact .inr ⟨C,o,e, λ j x hx=>T6 ho hR (λ i=>h8 i x) (hc j x hx)⟩
theorem tV{β:Type}{f:β->List Value}{sz:Nat}(ho:dI R W W')(hR:W.heap[R]? =some (.cells cs t))(hf:∀o x,¬ W.rangeAt R o (f x))(hp:∀x,f x≠[]){a:az}{xs:List β}(h:cV f sz W a xs):cV f sz W' a xs:=by
 rcases h with h|⟨B,o,e,h⟩
 ·exact .inl h
 ·refine .inr ⟨B,o,e, λ j x hx=>?_⟩;have h1:=h j x hx;have dN:B≠R:=by rintro rfl;exact hf _ _ h1
  obtain⟨v,l,hv⟩:∃v l,f x=v::l:=by
   cases hfx:f x with
   |nil=>exact absurd hfx (hp x)
   |cons v l=>exact⟨v,l,rfl⟩
  have cL:B<W.heap.size:=aZ W ⟨B,o+j*sz+0,none⟩ (h1 0 v (by rw[hv];rfl));exact λ i u hu=>(bq (w:=W) (ho.block B cL dN)).T (h1 i u hu)
end
theorem Gx{k c:Nat}{b:az}{vs:List Value}(h:lB W Bw b k c)(hv:7<=vs.length):¬ W.rangeAt Bw o vs:= λ hr=>by have:=hr 6 _ (aB an);rw[af h]at this;have:=(cS this).1;simp at this;omega
theorem RN{k c:Nat}{b:az}(x:aH)(h:lB W Bw b k c):¬ W.rangeAt Bw o x.cells:= λ hr=>by have h2:=hr 2 _ rfl;have h0:=hr 0 _ rfl;rw[af h]at h2 h0;rcases o with _|_|_|_|_|_|o<;>simp at h2 h0
theorem BB{b:az}{k c:Nat}:∀(j x:Nat),(wkC b k c)[j]? ≠some (.int .u8 (x:Int)):= λ j x=>by rcases j with _|_|_|_|_|_|j<;>simp
theorem JP{b:az}{c:Nat}(hF:aQ w b c ps)(hm:Marks (aw ps))(hW:lB w Bw b ps.length c){n:Nd}{a:az}(ka:Nat)(hA:n.At w a)(ho:n.Ok)(kA:n.enc.length<=4096)(jN:(aw ps).length+(ed (aw ps).length (ft n.enc)).length<=524288)(h:Nat)(key:List Nat)(hk:n.keys[0]? =some key):
 Calls Tryz.prog 199 #[.pointer (zp Bw),n.v a ka,.int .i64 (h:Int)] w λ e w'=>∃b' c' pc kc,e= .returned (.agg (tM n.UM key.length kc (db (aw ps).length) n.red h))/\lB w' Bw b' (ps.length+1) c'/\aQ w' b' c' (ps++[pc])/\pc.2.1=ed (aw ps).length (ft n.enc)/\(eZ w b'/\eZ w pc.1)/\dI Bw w w':=by
 obtain⟨w1,bY⟩:=bL ((w.alloc (.cells (oS n.is (n.a1 a) n.n1 (n.k1 ka) (n.a2 a) n.n2 (n.k2 ka)) 147)).alloc (.cells U4 273));have cN:Below w w w1:=by rw[bY];go_grown
 have eb:=bu (w2:=w1) fq;have gC:w1.heap.size=w.heap.size+1+1:=by rw[bY];simp
 have ze:=(cS hW).1;have hWt:= λ (V:World) (hV:Below w1 w1 V)=>(hW.below cN).below hV;have HE:=ag (T5 ka (hA.below cN) ho);have KS:=ag (λ (V:World) (p:az) (k:Nat) (hV:Below w1 w1 V) (hp:ay V p n.enc)=>MC ((hF.below cN).below hV) hm n.enc p k hp (aaC n) kA jN);have HFI:=ag (λ (V:World) (hV:n.At V a)=>Jp (k:=ka) hV ho key hk);have Zq:=ag (λ (V:World) (hV:n.At V a)=>Wq (k:=ka) hV ho);have HA:=ag (hA.below cN);have y:= λ j=>af (hW.below cN) j;have y5:=(y 5).T rfl;simp only[cW]at y5;have ahP:=aF eb.1;have H1:=oT cN eb gC bY;have HW:=dO ze @hWt;obtain⟨N,hN⟩:=bL ps.length;obtain⟨L,hL⟩:=bL n.enc.length;obtain⟨at_,mU⟩:=bL (db (aw ps).length);rw[<-mU];have HN:=eS hN hL mU;unfold Nd.v at HE HFI Zq⊢;unfold bN at KS;rw[<-hL]at HE KS;rw[<-hN]at KS⊢;rw[<-mU]at KS;rw[bY]at HE y5 ahP;clear hF hm hW hA ho kA jN hk cN eb gC bY ze hWt y hN hL mU;go_enter Tryz.func199,Tryz.ntmps199
 go_wp2_with first
  |(refine dG 147 ?_)
  |(refine dG 33 ?_)
  |(refine lU 33 ?_)
  |((with_reducible refine HE.O.mono ?_);rintro e w2 ⟨p,kp,rfl,hbp,bG⟩;rw[<-H1.O.2.2.2]at bG;have hW2:=HW.O.2 _ bG;rw[<-HN.O.1]at hW2;have v:= λ j=>af hW2 j;have v0:=(v 0).T rfl;have v1:=(v 1).T rfl;have v2:=(v 2).T rfl;have v3:=(v 3).T rfl;have v4:=(v 4).T rfl;simp only[cW]at v0 v1 v2 v3 v4;have HP:=ag (KS.O _ _ kp bG hbp);have eJ:=ag bG;have DV:=ag hW2;clear bG hbp hW2 v)
  |((with_reducible refine HP.O.mono ?_);rintro e w3 ⟨b',c',pc,rfl,VS,vY,nH,cu⟩;have P1:=lB.below DV.O cu;have ek:=ag (eJ.O.T (cu.mono eJ.O.size));have Hy:=G2 VS vY nH eJ.O.size cu.size;have nE:=ag P1;clear VS vY nH cu P1)
  |(refine fT 31 rfl _ _ rfl _ _ _ _ _ rfl rfl nE.O cP bU bz (λ w4 h1 h2 h3=>?_);have HON:Hid (dI Bw w1 w4):=ag ((dI.bH ek.O).T ⟨(h3 0 w3 (aD _) (gb)).os,(h3 0 w3 (aD _) (gb)).tape,(h3 0 w3 (aD _) (gb)).output,(h3 0 w3 (aD _) (gb)).size, λ k _ hk=>h2 k hk⟩);have hxn:=(HON.O.block _ (cm H1.O.2.2.1) (cm HW.O.1)).T H1.O.2.1.1;have hxr:=(HON.O.block _ (cm H1.O.2.2.1) (cm HW.O.1)).T H1.O.2.1.2;have afL:=aF hxn;have kd:lB w4 Bw b' (N+1) c':=h1;have OY:=fQ h2 nE.O BB Hy.O.1 (λ G o e=>by
     have q1:w2.heap.size<=G:=Hy.O.2.2.1.1 _ e;have:=HW.O.1;have:=H1.O.2.2.1;have:=Hy.O.2.2.2.1;omega)
    have hA4:n.At w4 a:=by
     have hR:=H1.O.1.size;cases n with
     |leaf xs=>
      have UQ:=kN.1 HA.O;exact kN.2 ⟨tV HON.O (HW.O.2 _ (ah _ w1)) (λ o x=>RN x (HW.O.2 _ (ah _ w1))) (λ x=>by simp[aH.cells]) UQ.1, λ x hx=>⟨mj HON.O (HW.O.2 _ (ah _ w1)) BB (UQ.2 x hx).1,mj HON.O (HW.O.2 _ (ah _ w1)) BB (UQ.2 x hx).2⟩⟩
     |inner xs=>
      have UQ:=KG.1 HA.O;exact KG.2 ⟨tV HON.O (HW.O.2 _ (ah _ w1)) (λ o x=>Gx (HW.O.2 _ (ah _ w1)) (by simp[a8.cells])) (λ x=>by simp[a8.cells]) UQ.1, λ x hx=>mj HON.O (HW.O.2 _ (ah _ w1)) BB (UQ.2 x hx)⟩
    have HF:=ag (HFI.O _ hA4);have HH4:=G2 kd OY hA4 hxn hxr;clear h1 h2 h3 hxn hxr kd OY hA4)
  |((with_reducible refine HF.O.mono ?_);rintro e w5 ⟨kc,rfl,LP,dV⟩;have afG:=aF ((dV.block _ (cS HH4.O.2.2.2.1).1).T HH4.O.2.2.2.1);have HR:=ag (Zq.O _ (HH4.O.2.2.1.below dV));have jE:=dO LP dV;clear LP dV)
  |((with_reducible refine HR.O.mono ?_);rintro e w6 ⟨rfl,lP⟩;have n6:=ai w6 (.cells (qp n.red) 33);have afM:=aF n6;have vL:Below w4 w4 (w6.alloc (.cells (qp n.red) 33)):=(jE.O.2.T (lP.mono jE.O.2.size)).alloc (aj jE.O.2.size lP.size) _;have hxr:=(vL.block _ (cS HH4.O.2.2.2.2).1).T HH4.O.2.2.2.2;have HXR:=ag hxr;have HB7:=dO vL trivial;clear n6 lP vL hxr)
  |(refine fT 273 rfl _ _ rfl _ _ _ _ _ rfl rfl HXR.O cP bU bz (λ w8 h1 h2 h3=>?_);have x0:=(af h1 0).T rfl;have x1:=(af h1 1).T rfl;have x2:=(af h1 2).T rfl;have x3:=(af h1 3).T rfl;have x4:=(af h1 4).T rfl;have x5:=(af h1 5).T rfl;have x6:=(af h1 6).T rfl;have x7:=(af h1 7).T rfl;have x8:=(af h1 8).T rfl;simp only[eu,jX,cW]at x0 x1 x2 x3 x4 x5 x6 x7 x8;have Qk:=HH4.O.1.below HB7.O.1;have hW8:lB w8 Bw b' (N+1) c':=(h2 Bw (cm HW.O.1)).T Qk;have hF8:=fQ h2 HXR.O (λ j x=>by rcases j with _|_|_|_|_|_|_|_|_|j<;>simp) (HH4.O.2.1.below HB7.O.1) (λ G o e=>by
     have q1:w2.heap.size<=G:=Hy.O.2.2.1.1 _ e;have:=H1.O.2.2.1;have:=Hy.O.2.2.2.1;omega)
    have ZC:dI Bw w w8:=by have q:=((dI.bH H1.O.1).T HON.O).T (dI.bH HB7.O.1);have q2:=h3 0 _ (aD _) (gb);exact⟨q2.os.T q.os,q2.tape.T q.tape,q2.output.T q.output,aj q.size q2.size, λ k hk dN=>(h2 k an).T (q.block k hk dN)⟩
    have HZ:=eS hW8 hF8 ZC;clear h1 h2 h3 Qk hW8 hF8 ZC)
  |fail
 refine bodyPost_ret (v:=.agg (tM n.UM key.length kc at_ n.red h)) iq bp ⟨b',c',pc,kc,rfl,HZ.O.1,HZ.O.2.1,Hy.O.2.1,⟨Hy.O.2.2.1.1.mono (aj H1.O.1.size Hy.O.2.2.2.1),Hy.O.2.2.1.2.mono (aj H1.O.1.size Hy.O.2.2.2.1)⟩,HZ.O.2.2⟩
end
section
attribute [local go_sem] Oper.semAt_some
theorem yE(w:World):Calls Tryz.prog 9 (BX (.agg lX)) w λ e w'=>e= .returned (.bool true)/\Below w w w':=by
 go_enter Tryz.func9,Tryz.ntmps9
 go_wp2_with fail
 go_ret;exact⟨rfl,by go_grown⟩
theorem Qu(n:Int)(w:World):Calls Tryz.prog 66 #[.agg (gE n)] w λ e w'=>e= .returned (.bool true)/\Below w w w':=by
 obtain⟨w1,bY⟩:=bL (w.alloc (.cells (gE n) 49));have cN:Below w w w1:=by rw[bY];go_grown
 have eb:w1.heap[w.heap.size]? =some (.cells (gE n) 49):=qK bY;have x0:w1.cell? (za w 0)=some (.int .i64 3):=(af eb 0).T rfl;have x2:w1.cell? (za w 2)=some (.string ⟨#[]⟩):=(af eb 2).T rfl;have x3:w1.cell? (za w 3)=some (.slice none 0 0):=(af eb 3).T rfl;have x4:w1.cell? (za w 4)=some (.slice none 0 0):=(af eb 4).T rfl;have H1:=dO cN eb;have qj:=ag bY;unfold gE at qj⊢;clear cN eb bY;go_enter Tryz.func66,Tryz.ntmps66
 go_wp2_with fail
 rw[<-qj.O]
 go_loopw [3] (λ iv wr=>iv= .int .i64 0/\wr=w1) (λ iv _=>1 - (intOf iv).toNat)
 case atStart=>exact⟨rfl,rfl⟩
 case round=>
  obtain⟨rfl,rfl⟩:=hrel
  go_wp2_with fail
  refine bP 8 ?_;refine tP [0,1,2,3,4,5,6,7] ?_
  iterate 8 refine tO ?_
  refine au 0 rfl ?_;refine dP ?_;go_simp
  go_wp2_with fail
  go_ret;exact⟨rfl,H1.O.1.drew⟩
theorem Qw(n:Int)(w:World):Calls Tryz.prog 66 (BX (.agg (qv n))) w λ e w'=>e= .returned (.bool true)/\Below w w w':=Qu n w
theorem OA(n:Int)(w:World):Calls Tryz.prog 38 #[.agg (qv n),.int .i64 8,.int .i64 256] w λ e w'=>e= .returned (.int .i64 1)/\Below w w w':=by
 obtain⟨w1,bY⟩:=bL (w.alloc (.cells (qv n) 49));have cN:Below w w w1:=by rw[bY];go_grown
 have eb:w1.heap[w.heap.size]? =some (.cells (qv n) 49):=qK bY;have H1:=dO cN eb;have qj:=ag bY;have ZB:=ag (λ W=>Qw n W);clear cN eb bY;go_enter Tryz.func38,Tryz.ntmps38
 go_wp2_with first
  |((with_reducible refine(ZB.O _).mono ?_);rintro e V ⟨rfl,hv⟩;rw[<-qj.O]at hv;have jP:=(hv.block _ (cS H1.O.2).1).T H1.O.2;have x0:V.cell? (za w 0)=some (.int .i64 3):=(af jP 0).T rfl;have HV:=dO (H1.O.1.T (hv.mono H1.O.1.size)) jP;clear hv jP)
  |fail
 go_loopw [7,8] (λ nv iv wr=>nv= .int .i64 1/\iv= .int .i64 0/\wr=V) (λ _ iv _=>1 - (intOf iv).toNat)
 case atStart=>exact⟨rfl,rfl,rfl⟩
 case round=>
  obtain⟨rfl,rfl,rfl⟩:=hrel;have x3:wr.cell? (za w 3)=some (.slice none 0 0):=(af HV.O.2 3).T rfl
  go_wp2_with fail
  go_ret;exact⟨rfl,HV.O.1⟩
theorem Qx(n:Int)(w:World):Calls Tryz.prog 19 (BX (.agg (qv n))) w λ e w'=>e= .returned (.bool true)/\Below w w w':=by
 have HB:Hid (Below w w (w.alloc (.cells (qv n) 49))):=ag bW;have ZB:=ag (λ W=>OA n W);go_enter Tryz.func19,Tryz.ntmps19
 go_wp2_with first
  |((with_reducible refine(ZB.O _).mono ?_);rintro e V ⟨rfl,hv⟩;have HV:=ag (HB.O.T (hv.mono HB.O.size));clear hv)
  |fail
 go_ret;exact⟨rfl,HV.O⟩
theorem Qy(n:Int)(w:World):Calls Tryz.prog 20 (Ii (.agg (qv n)) (.agg (qv n))) w λ e w'=>e= .returned (.bool true)/\Below w w w':=by
 obtain⟨w1,bY⟩:=bL ((w.alloc (.cells (qv n) 49)).alloc (.cells (qv n) 49));have cN:Below w w w1:=by rw[bY];go_grown
 obtain⟨e0,e1⟩:=bu (w2:=w1) fq;have x3:w1.cell? (za w 3)=some (.slice none 0 0):=(af e0 3).T rfl;have HB:=ag cN;have qj:=ag bY;clear cN bY e0 e1;go_enter Tryz.func20,Tryz.ntmps20
 go_wp2_with fail
 rw[<-qj.O]
 go_loopw [5] (λ iv wr=>iv= .int .i64 0/\wr=w1) (λ iv _=>1 - (intOf iv).toNat)
 case atStart=>exact⟨rfl,rfl⟩
 case round=>
  obtain⟨rfl,rfl⟩:=hrel
  go_wp2_with fail
  go_ret;exact⟨rfl,HB.O⟩
theorem DF(n:Int)(w:World):Calls Tryz.prog 10 (Ii (.agg (qv n)) (.agg (qv n))) w λ e w'=>e= .returned (.bool true)/\Below w w w':=by
 obtain⟨w1,bY⟩:=bL ((w.alloc (.cells (qv n) 49)).alloc (.cells (qv n) 49));have cN:Below w w w1:=by rw[bY];go_grown
 obtain⟨e0,e1⟩:=bu (w2:=w1) fq;have HX:=ag (λ (V:World) (hV:Below w1 w1 V)=>Sm ((hV.block _ (cS e0).1).T e0) ((hV.block _ (cS e1).1).T e1));have HR:=ag (λ W=>Qx n W);have HO:=ag (λ W=>Qy n W);have HB:=ag cN;have qj:=ag bY;have B1:=ag (ah w1 w1);clear cN bY e0 e1;go_enter Tryz.func10,Tryz.ntmps10
 go_wp2_with first
  |((with_reducible refine(HR.O _).mono ?_);rintro e V ⟨rfl,hv⟩
    try rw[<-qj.O]at hv
    have B2:=ag (show Below w1 w1 V from B1.O.T (hv.mono B1.O.size));clear hv B1;have B1:=B2;clear B2;obtain⟨b0,b1⟩:=HX.O V B1.O;have p0:=(af b0 0).T rfl;have p1:=(af b0 1).T rfl;have p2:=(af b0 2).T rfl;have p3:=(af b0 3).T rfl;have p4:=(af b0 4).T rfl;have r0:=(af b1 0).T rfl;have r1:=(af b1 1).T rfl;have r2:=(af b1 2).T rfl;have r3:=(af b1 3).T rfl;have r4:=(af b1 4).T rfl;simp only[cW]at p0 p1 p2 p3 p4 r0 r1 r2 r3 r4;clear b0 b1)
  |((with_reducible refine(HO.O _).mono ?_);rintro e V ⟨rfl,hv⟩;have B2:=ag (show Below w1 w1 V from B1.O.T (hv.mono B1.O.size));clear hv)
  |(refine dG 49 ?_)
  |fail
 go_ret;exact⟨rfl,HB.O.T (B2.O.mono HB.O.size)⟩
end
theorem GI:∀(f m:Nat),m<10^(f+1)->lR (f+1) m=lR f m
 |0,m,h=>by
  show(if m<10 then 1 else lR 0 (m/10)+1)=1;rw[if_pos an]
 |f+1,m,h=>by
  show(if m<10 then 1 else lR (f+1) (m/10)+1)=(if m<10 then 1 else lR f (m/10)+1);split
  ·rfl
  ·rw[GI f (m/10) EP]
theorem GJ(h:m<10):rA m=[48+m]:=by
 have e:lR 20 m=1:=by show(if m<10 then 1 else lR 19 (m/10)+1)=1;rw[if_pos h]
 unfold rA;rw[e];show[]++[48+m%10]=_;rw[cl h];rfl
theorem JV(h1:10<=m)(h2:m<10^20):rA m=rA (m/10)++[48+m%10]:=by
 have e:lR 20 m=lR 19 (m/10)+1:=by show(if m<10 then 1 else lR 19 (m/10)+1)=_;rw[if_neg an]
 have e2:=GI 19 (m/10) (by rw[gy de];omega);unfold rA;rw[e,e2];rfl
theorem GK(a b:List Nat):cE (a++b)=cE a++cE b:=by apply ByteArray.ext;unfold cE;simp
theorem ua(m:Nat):ew (m:Int)=rA m:=by unfold ew;rw[if_neg an];rfl
theorem GL(h:1<=m):ew (-(m:Int))=45::rA m:=by unfold ew;rw[if_pos an];simp
theorem R8{a b:Int}(ha1: -9223372036854775808<=a)(ha2:a<9223372036854775808)(cN: -9223372036854775808<=b)(bG:b<9223372036854775808):¬ 9223372036854775807<(cE (ew a)).size+(cE (ew b)).size:=by have:=lF a ha1 ha2;have:=lF b cN bG;omega
theorem GM:∀(k:Nat) (n:Int) (w:World),2*n.natAbs+(if n<0 then 1 else 0)<k-> -9223372036854775808<=n->n<9223372036854775808->Calls Tryz.prog 56 #[.int .i64 n] w λ e w'=>e= .returned (.string (cE (ew n)))/\Below w w w'
 |0,n,w,h,_,_=>an
 |k+1,n,w,h,h1,h2=>by
  have ih:= λ n' w' (hk:2*n'.natAbs+(if n'<0 then 1 else 0)<k) (g1: -9223372036854775808<=n') (g2:n'<9223372036854775808)=>GM k n' w' hk g1 g2;by_cases yM:n<0
  ·obtain⟨m,rfl⟩:∃m:Nat,n= -(m:Int):=⟨n.natAbs,an⟩;rw[if_pos yM]at h;have e1:decide (-(m:Int)<0)=true:=by simpa using yM
   by_cases ZG:m<10
   ·have IH:=ag (λ W=>ih (m:Int) W ux an an);have e2:decide ((-10:Int)< -(m:Int))=true:=dU;have HD:Hid (cE (ew (-(m:Int)))=cE [45]++cE (ew (m:Int))):=ag (by rw[GL an,ua,<-GK];rfl);have hm9:(m:Int)<10:=an;have hz:¬ 9223372036854775807<1+(cE (ew (m:Int))).size:=cm (lF (m:Int) an an);clear ih h h1 h2 ZG;go_enter Tryz.func56,Tryz.ntmps56
    go_wp2_with first
     |((with_reducible refine(IH.O _).mono ?_);rintro e w2 ⟨rfl,hb⟩;have HB:=ag hb;clear hb)
     |fail
    go_ret;exact⟨by rw[HD.O];rfl,HB.O⟩
   ·obtain⟨a,ha⟩:=bL (m/10);obtain⟨b,hb⟩:=bL (m%10);have IA:=ag (λ W=>ih (-(a:Int)) W (by rw[if_pos an];omega) an an);have IB:=ag (λ W=>ih (b:Int) W ux an an);have e2:decide ((m:Int)<10)=false:=dU;have e20:¬ (m:Int)<10:=an;have e21:0<m:=an;have ha9:(a:Int)<=922337203685477581:=an;have e3:Int.tdiv (-(m:Int)) 10= -(a:Int):=by rw[Int.neg_tdiv,ha];rfl
    have e4:Int.tmod (-(m:Int)) 10= -(b:Int):=by rw[Int.neg_tmod,hb];rfl
    have HD:Hid (cE (ew (-(m:Int)))=cE (ew (-(a:Int)))++cE (ew (b:Int))):=ag (by rw[GL an,GL an,ua,<-GK,JV an an,<-ha,<-hb,GJ (m:=b) an];rfl);have hz:=R8 (a:= -(a:Int)) (b:=(b:Int)) an an an an;have hm9:(m:Int)<=9223372036854775808:=an;have ug:(b:Int)<10:=an;clear ih h h1 h2 ZG ha hb;go_enter Tryz.func56,Tryz.ntmps56
    go_wp2_with first
     |((with_reducible refine(IA.O _).mono ?_);rintro e w2 ⟨rfl,hb⟩;have HB:=ag hb;clear hb)
     |((with_reducible refine(IB.O _).mono ?_);rintro e w3 ⟨rfl,hb⟩;have HC:=ag (HB.O.T (hb.mono HB.O.size));clear hb)
     |fail
    go_ret;exact⟨by rw[HD.O];rfl,HC.O⟩
  ·obtain⟨m,rfl⟩:∃m:Nat,n=(m:Int):=⟨n.natAbs,an⟩;rw[if_neg yM]at h;have e0:decide ((m:Int)<0)=false:=by simp
   have e00:¬ ((m:Int)<0):=an;by_cases ZG:m<10
   ·have hm9:(m:Int)<10:=an;have hcv:(convert 28 9 (.slice (zp w) 1 1)).run Tryz.prog (w.alloc (.cells #[.int .u8 (48+(m:Int))] 5))= .ok (.string (cE (ew (m:Int)))) (w.alloc (.cells #[.int .u8 (48+(m:Int))] 5)):=by
     rw[ua,GJ ZG];refine fu ⟨λ x hx=>by rw[aE]at hx;omega,.inr ⟨_,_,rfl, λ j x hj=>?_⟩⟩ rfl;rw[bO]
     match j,hj with
     |0,hj=>cases hj;simp
     |j+1,hj=>simp at hj
    clear ih h h1 h2 ZG yM;go_enter Tryz.func56,Tryz.ntmps56
    go_wp2_with fail
    go_ret;exact⟨rfl,by go_grown⟩
   ·have IA:= λ W=>ih ((m/10:Nat):Int) W ux an an;have IB:= λ W=>ih ((m%10:Nat):Int) W ux an an;have hz:=R8 (a:=((m/10:Nat):Int)) (b:=((m%10:Nat):Int)) an an an an;have HD:Hid (cE (ew (m:Int))=cE (ew ((m/10:Nat):Int))++cE (ew ((m%10:Nat):Int))):=ag (by rw[ua,ua,ua,<-GK,JV an an,GJ (m:=m%10) an]);have e1:((m/10:Nat):Int)=(m:Int)/10:=an;have e2:((m%10:Nat):Int)=(m:Int)%10:=an;rw[e1]at IA hz HD;rw[e2]at IB hz HD;have HIA:=ag IA;have HIB:=ag IB;have e3:¬ (m:Int)<10:=an;have hm9:(m:Int)<=9223372036854775808:=an;clear ih h h1 h2 ZG yM IA IB e1 e2;go_enter Tryz.func56,Tryz.ntmps56
    go_wp2_with first
     |((with_reducible refine(HIA.O _).mono ?_);rintro e w2 ⟨rfl,hb⟩;have HB:=ag hb;clear hb)
     |((with_reducible refine(HIB.O _).mono ?_);rintro e w3 ⟨rfl,hb⟩;have HC:=ag (HB.O.T (hb.mono HB.O.size));clear hb)
     |fail
    go_ret;exact⟨by rw[HD.O];rfl,HC.O⟩
theorem QC(n:Int)(h1: -9223372036854775808<=n)(h2:n<9223372036854775808)(w:World):Calls Tryz.prog 56 #[.int .i64 n] w λ e w'=>e= .returned (.string (cE (ew n)))/\Below w w w':=
 GM _ n w (fJ _) h1 h2
theorem Uj(n:Int)(h1: -9223372036854775808<=n)(h2:n<9223372036854775808)(w:World):Calls Tryz.prog 30 #[.agg (gE n)] w λ e w'=>e= .returned (.string (cE (ew n)))/\Below w w w':=by
 have H:=ag (λ W=>QC n h1 h2 W);have H0:Hid (Below w w (w.alloc (.cells (gE n) 49))):=ag bW;unfold gE;unfold gE at H0;clear h1 h2;go_enter Tryz.func30,Tryz.ntmps30
 go_wp2_with first
  |((with_reducible refine(H.O _).mono ?_);rintro e w2 ⟨rfl,hb⟩;have HB:=ag (H0.O.T (hb.mono H0.O.size));clear hb)
  |fail
 go_ret;exact⟨rfl,HB.O⟩
section
attribute [local go_sem] Oper.semAt_some
attribute [-go_sem] Builtin.append_
structure Oct(W:World)(R q i:Nat):Prop where
 arr:∃M:Array Value,W.heap[R]? =some (.cells M 5)/\M.size=8/\∀j,j<i->M[j]? =some (.int .u8 ((q/2^(56 - 8*j)%256:Nat):Int))
theorem px(q:Nat)(hq:q<18446744073709551616)(w:World):
 Calls Tryz.prog 51 #[.int .u64 (q:Int)] w λ e w'=>e= .returned (.slice (zp w) 8 8)/\ay w' (zp w) ((List.range 8).map λ j=>q/2^(56 - 8*j)%256)/\Below w w w':=by
 obtain⟨M,hM1,hM2,G5⟩:=Po 8 8 de de;have agY:∀W:World,(Instr.makeSlice 28 (.int .i64 8) (.int .i64 8)).run Tryz.prog W= .ok (.slice (zp W) 8 8) (W.alloc (.cells M 5)):= λ W=>G5 W;have Mv:Hid (Oct (w.alloc (.cells M 5)) w q 0):=ag ⟨M,ai _ _,hM1, λ j hj=>an⟩;have O4:Hid (∀(i:Nat) (W:World),i<8->Oct W w q i->Below w w W->(∃v,W.cell? ⟨w.heap.size,i,none⟩=some v)/\W.frozen? ⟨w.heap.size,i,none⟩=false/\Hid (Oct (W.setCell ⟨w.heap.size,i,none⟩ (.int .u8 ((q/2^(56 - 8*i)%256:Nat):Int))) w q (i+1)/\Below w w (W.setCell ⟨w.heap.size,i,none⟩ (.int .u8 ((q/2^(56 - 8*i)%256:Nat):Int))))):=ag λ i W hi hd hb=>by
  obtain⟨M,h1,h2,h3⟩:=hd.arr;refine⟨⟨M[i]'an,by rw[af h1];exact br an⟩,ax h1 i,ag ⟨⟨M.setIfInBounds i (.int .u8 ((q/2^(56 - 8*i)%256:Nat):Int)),aU _ h1,by rw[eN];exact h2, λ j hj=>?_⟩,hb.setCell (p:=⟨w.heap.size,i,none⟩) (cH) _⟩⟩;by_cases mn:j=i
  ·subst mn;rw[bZ an]
  ·rw[cT an];exact h3 j an
 clear hM1 hM2 G5 hq;go_enter Tryz.func51,Tryz.ntmps51
 go_wp2_with fail
 go_loopw [4,8] (λ _ iv wr=>∃i:Nat,i<=8/\iv= .int .i64 (i:Int)/\Hid (Oct wr w q i/\Below w w wr)) (λ _ iv _=>8 - (intOf iv).toNat)
 case atStart=>exact⟨0,an,rfl,ag ⟨Mv.O,(ah _ w).alloc (cH) _⟩⟩
 case round=>
  obtain⟨i,hi,rfl,hw⟩:=hrel;by_cases cL:i<8
  ·obtain⟨⟨v0,PZ⟩,hf0,nW⟩:=O4.O i wr cL hw.O.1 hw.O.2;obtain⟨x,hx⟩:=bL (q/2^(56 - 8*i)%256);rw[<-hx]at nW;have HX:=ag hx;clear hx;rcases(show i=0\/i=1\/i=2\/i=3\/i=4\/i=5\/i=6\/i=7 by omega)with rfl|rfl|rfl|rfl|rfl|rfl|rfl|rfl
   ·have e:(q:Int)/72057594037927936%256=(x:Int):=by have h:=HX.O;simp only[Nat.reduceMul,Nat.reduceSub,Nat.reducePow]at h;omega
    go_wp2_with fail
    exact⟨⟨1,an,rfl,nW⟩,by simp[intOf]⟩
   ·have e:(q:Int)/281474976710656%256=(x:Int):=by have h:=HX.O;simp only[Nat.reduceMul,Nat.reduceSub,Nat.reducePow]at h;omega
    go_wp2_with fail
    exact⟨⟨2,an,rfl,nW⟩,by simp[intOf]⟩
   ·have e:(q:Int)/1099511627776%256=(x:Int):=by have h:=HX.O;simp only[Nat.reduceMul,Nat.reduceSub,Nat.reducePow]at h;omega
    go_wp2_with fail
    exact⟨⟨3,an,rfl,nW⟩,by simp[intOf]⟩
   ·have e:(q:Int)/4294967296%256=(x:Int):=by have h:=HX.O;simp only[Nat.reduceMul,Nat.reduceSub,Nat.reducePow]at h;omega
    go_wp2_with fail
    exact⟨⟨4,an,rfl,nW⟩,by simp[intOf]⟩
   ·have e:(q:Int)/16777216%256=(x:Int):=by have h:=HX.O;simp only[Nat.reduceMul,Nat.reduceSub,Nat.reducePow]at h;omega
    go_wp2_with fail
    exact⟨⟨5,an,rfl,nW⟩,by simp[intOf]⟩
   ·have e:(q:Int)/65536%256=(x:Int):=by have h:=HX.O;simp only[Nat.reduceMul,Nat.reduceSub,Nat.reducePow]at h;omega
    go_wp2_with fail
    exact⟨⟨6,an,rfl,nW⟩,by simp[intOf]⟩
   ·have e:(q:Int)/256%256=(x:Int):=by have h:=HX.O;simp only[Nat.reduceMul,Nat.reduceSub,Nat.reducePow]at h;omega
    go_wp2_with fail
    exact⟨⟨7,an,rfl,nW⟩,by simp[intOf]⟩
   ·have e:(q:Int)%256=(x:Int):=by have h:=HX.O;simp only[Nat.reduceMul,Nat.reduceSub,Nat.reducePow]at h;omega
    go_wp2_with fail
    exact⟨⟨8,an,rfl,nW⟩,by simp[intOf]⟩
  ·obtain rfl:i=8:=an;have ly:Hid (ay wr (zp w) ((List.range 8).map λ j=>q/2^(56 - 8*j)%256)):=ag (by
    obtain⟨M,h1,h2,h3⟩:=hw.O.1.arr;refine⟨λ x hx=>?_,.inr ⟨_,_,rfl, λ j x hx=>?_⟩⟩
    ·obtain⟨j, -,rfl⟩:=aM.1 hx;omega
    ·rw[af h1,aN];have hj:j<8:=by have:=(aC.1 hx).1;simpa using this
     rw[aW,List.getElem?_range hj]at hx;cases hx;exact h3 j hj)
   go_wp2_with fail
   go_ret;exact⟨rfl,ly.O,hw.O.2⟩
theorem QG(q:Nat)(hq:q<18446744073709551616)(w:World):
 Calls Tryz.prog 51 #[.int .u64 (q:Int)] w λ e w'=>∃a,e= .returned (.slice a 8 8)/\ay w' a ((List.range 8).map λ j=>q/2^(56 - 8*j)%256)/\Below w w w':=
 (px q hq w).mono λ _ _ ⟨h1,h2,h3⟩=>⟨_,h1,h2,h3⟩
end
end Go.Proofs.YtbiififbfefkjaaGreatDoor

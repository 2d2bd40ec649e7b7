/- The store, part 21. -/
import Derived.Test.YtbiififbfefkjaaGreatDoorMAr
import Derived.Test.YtbiififbfefkjaaGreatDoorMAs
set_option linter.unusedSimpArgs false
set_option linter.unusedVariables false
set_option maxRecDepth 100000
set_option maxHeartbeats 16000000
namespace Go.Proofs.YtbiififbfefkjaaGreatDoor
open Go.RowKit Go.Shelf
variable{W w:World}{g c at_ d cf ce:Nat}{ps ey:List Piece}{cs:Array Value}{t:TypeId}{items its:List KV}{l:List eH}
section
attribute [local go_sem] Oper.semAt_some
attribute [-go_sem] Builtin.append_
theorem fE.of{b:az}(h:aQ W b c ps)(hg:W.heap[g]? =some (.cells cs t))(h8:∀(j x:Nat),cs[j]? ≠some (.int .u8 (x:Int)))(hs:∀(j:Nat) (a:az) (n k:Nat),cs[j]? ≠some (.slice a n k)):fE g b ps:=by
 constructor
 ·rcases h.pieces.1 with h0|⟨B,o,e,hc⟩
  ·exact .inl h0
  ·cases ps with
   |nil=>exact .inl rfl
   |cons p0 T3=>
    refine .inr λ G o2 e2=>?_;rw[e]at e2;cases e2;rintro rfl;have:=hc 0 p0 rfl;rw[af hg]at this;exact hs _ _ _ _ this
 ·intro p hp G o e;obtain⟨h1,_,h2⟩:=h.pieces.2 p hp;rcases h2.2 with h0|⟨C,o2,e2,hc⟩
  ·exact absurd h0 h1
  ·rw[e]at e2;cases e2;cases C0:p.2.1 with
   |nil=>exact absurd C0 h1
   |cons x l=>
    rintro rfl;have:=hc 0 x mP;rw[af hg]at this;exact h8 _ _ this
theorem OS{w1 W7:World}{Bw R n:Nat}{b:az}(hb:Below w w w1)(ho:dI Bw w1 W)(hw:lB W Bw b ps.length c)(hF:aQ W b c ps)(hR:W.heap[R]? =some (.cells (vf at_ d n) t))(dN:Bw≠R)(hRw:w.heap.size<=R)(g2:∀j,j≠R->W7.heap[j]? =W.heap[j]?)(g3:∀U,w.heap.size<=R->Below w U W->Below w U W7):lB W7 Bw b ps.length c/\aQ W7 b c ps/\dI Bw w W7:=by have h7:Below w W W7:=g3 W hRw (gb);have h0:dI Bw w W:=(dI.bH hb).T ho;exact⟨(g2 Bw dN).T hw,dZ (g:=R) (λ j _ hj=>g2 j hj) hF (fE.of hF hR (λ j x=>by rcases j with _|_|_|_|_|_|_|_|j<;>simp) (λ j a m k=>by rcases j with _|_|_|_|_|_|_|_|j<;>simp)),⟨h7.os.T h0.os,h7.tape.T h0.tape,h7.output.T h0.output,aj h0.size h7.size, λ k hk hn=>(h7.block k hk).T (h0.block k hk hn)⟩⟩
theorem rW{p:Prop}(h:p:=by
 have rB:=dO ly.O Ib.O
 go_loopw [10,11] (λ rv hv wr=>∃(h hh:Nat) (rs:List cF) (q:az) (k:Nat) (b':az) (iC:Nat) (eR:List Piece),hv= .int .i64 (h:Int)/\rv= .slice q rs.length k/\Hid (h=hh+1)/\Hid (DB Bw w1 wr b' iC eR q rs)/\Hid (Ia (aw ey) (aw eR) hh rs its)) (λ _ hv _=>100 - (intOf hv).toNat)
 case atStart=>exact⟨1,0,_,_,_,_,_,_,by simp,rfl,ag rfl,ag rB.O.1,ag rB.O.2⟩
 case round=>
  obtain⟨Wr,rfl⟩:=bL wr;obtain⟨h,hh,rs,q,k,b',iC,eR,rfl,rfl,HH,HE,HT⟩:=hrel;have hrl:rs.length<=200:=iX HT.O.LB qb.O.1;have ajO:(rs.length:Int)<=200:=an;have c5:Wr.cell? (za Bw 5)=some (.int .i64 0):=(af HE.O.wk 5).T rfl;by_cases C8:1<rs.length
  ·have hgt:(1:Int)<(rs.length:Int):=an;have ais:decide ((1:Int)<(rs.length:Int))=true:=dU;obtain⟨oK,agA⟩:=HT.O.many C8;have agB:hh<=10:=aeE agA qb.O.1;have hh6:(h:Int)<=11:=cm HH.O;have bY:IntKind.i64.wrap ((h:Int) - 1)=(hh:Int):=by have:=HH.O;rw[aI];omega
   have HPA:=ag (T7 k hh HE.O.roots an);have FA:=eS oK agB C8;clear oK agA agB C8
   go_wp2_with first
    |((with_reducible refine HPA.O.mono ?_);rintro e w5 ⟨YC,q5,k5,rfl,hv5,hp5,dV⟩;have FI:YC.length=rs.length:=by have:=congrArg List.length hv5;simpa using this
      have HLK:=ag (QQ Bw eR HE.O.marks h hh HH.O (HE.O.file.below dV) (HE.O.wk.below dV) hp5 (its:=its) (by rw[hv5];exact Oq FA.O.1) an qb.O.1 qb.O.2.1 qb.O.2.2.1 (iX HT.O.cost qb.O.2.2.2) (by rw[hv5,GA];have:=FA.O.2.2;omega));have jE:=ag dV;clear hv5 hp5 dV FI)
    |((with_reducible refine HLK.O.mono ?_);rintro e w6 ⟨ZN,q6,k6,b6,cf6,QT,n6,rfl,IX,uV⟩;have HE6:Hid (DB Bw w1 w6 b6 cf6 QT q6 ZN):=ag ⟨(HE.O.only.T (dI.bH jE.O)).T IX.only,IX.wk,IX.file,IX.marks,IX.roots⟩;have HT6:Hid (Ia (aw ey) (aw QT) h ZN its):=ag (by have e:=HH.O;rw[e]at uV⊢;exact HT.O.next uV);clear IX uV)
    |fail
   exact⟨⟨h+1,h,ZN,_,_,b6,cf6,QT,by simp,rfl,ag rfl,HE6,HT6⟩,by simp[intOf];omega⟩
  ·have hgt:¬ (1:Int)<(rs.length:Int):=an;have ais:decide ((1:Int)<(rs.length:Int))=false:=dU;have kH:=(HE.O.only.block (w+1) (by rw[fW.O.2.2.1];omega) (cm fW.O.2.2.2)).T fW.O.2.1.2;rcases HT.O.fin an qb.O.2.2.1 qb.O.1 with⟨rfl,htr⟩|⟨r,rfl,htr⟩
   ·have QD:=dO htr kH;clear C8 htr kH hrl
    go_wp2_with first
     |(refine fT 35 rfl _ _ rfl _ _ _ _ _ rfl rfl QD.O.2 cP bU bz (λ W7 g1 g2 g3=>?_);have x0:=(af g1 0).T rfl;have x1:=(af g1 1).T rfl;have x2:=(af g1 2).T rfl;have x3:=(af g1 3).T rfl;have x4:=(af g1 4).T rfl;have x5:=(af g1 5).T rfl;have x6:=(af g1 6).T rfl;have x7:=(af g1 7).T rfl;simp only[eu,jX,cW]at x0 x1 x2 x3 x4 x5 x6 x7;have SO:=ag (OS fW.O.1 HE.O.only HE.O.wk HE.O.file QD.O.2 (cm fW.O.2.2.2) (bk _) g2 (g3 w));clear g1 g2 g3)
     |fail
    refine bodyPost_ret (v:=ij 0 0 0) (by rw[lC rfl];go_simp;rfl) bp ⟨0,0,0,rfl,b',iC,eR,SO.O.1,SO.O.2.1,HE.O.marks,QD.O.1,HT.O.ext,HT.O.cost,SO.O.2.2⟩
   ·obtain⟨Bq,oq,rfl⟩:=HE.O.roots.row.some_ cP;have bA:=HE.O.roots.row.get (j:=0) (x:=r) rfl;rw[cY,bb]at bA;have q1:Wr.cell? (za Bq (oq+1))=some (.int .i64 (r.k.at_:Int)):=bA 1 _ rfl;have q2:Wr.cell? (za Bq (oq+2))=some (.int .i64 (r.k.count:Int)):=bA 2 _ rfl;have q3:Wr.cell? (za Bq (oq+3))=some (.int .i64 0):=bA 3 _ rfl;have q4:Wr.cell? (za Bq (oq+4))=some (.int .i64 0):=bA 4 _ rfl;have q5:Wr.cell? (za Bq (oq+5))=some (.int .u64 0):=bA 5 _ rfl;have q6:Wr.cell? (za Bq (oq+6))=some (.int .i64 0):=bA 6 _ rfl;have q7:Wr.cell? (za Bq (oq+7))=some (.int .i64 0):=bA 7 _ rfl;have q8:Wr.cell? (za Bq (oq+8))=some (.int .i64 (r.h:Int)):=bA 8 _ rfl;have QD:=dO htr kH;clear C8 htr kH hrl bA
    go_wp2_with fail
    refine bP 16 ?_;refine tP [0,1,2,3,4,5,6,7,8,9,10,11,12,13,14] ?_
    iterate 15 refine tO ?_
    refine au 1 rfl ?_;refine sP 15 [0,1,2,3,4,5,6,7,8,9,10,11,12,13,14] λ K hK=>?_;refine DO ?_;have QS:Wr.drew.heap[w.heap.size+1]? =some (.cells vp 35):=QD.O.2;refine iG 35 _ _ rfl (w+1) 0 vp (qt r.k.at_ r.h r.k.count) 35 rfl rfl QS cP bU bz (λ W7 g1 g2 g3=>?_);have x0:=(af g1 0).T rfl;have x1:=(af g1 1).T rfl;have x2:=(af g1 2).T rfl;have x3:=(af g1 3).T rfl;have x4:=(af g1 4).T rfl;have x5:=(af g1 5).T rfl;have x6:=(af g1 6).T rfl;have x7:=(af g1 7).T rfl;simp only[eu,jX,cW]at x0 x1 x2 x3 x4 x5 x6 x7;have SO:=ag (OS fW.O.1 HE.O.only HE.O.wk HE.O.file QD.O.2 (cm fW.O.2.2.2) (bk _) g2 (λ U h1 h2=>g3 w U h1 h2.drew));clear g1 g2 g3;refine nP hK ?_;clear hK K;refine dP ?_;go_simp
    go_wp2_with fail
    refine bodyPost_ret (v:=ij r.k.at_ r.h r.k.count) (by rw[lC rfl];go_simp;rfl) bp ⟨r.k.at_,r.h,r.k.count,b',iC,eR,rfl,SO.O.1,SO.O.2.1,HE.O.marks,QD.O.1,HT.O.ext,HT.O.cost,SO.O.2.2⟩
 ):p:=h
theorem YF(Bw:Nat)(ey:List Piece)(hm:Marks (aw ey)){b:az}(hF:aQ w b cf ey)(hW:lB w Bw b ey.length cf)(ht:fx (aw ey) at_ d c items)(Ha:items.length<=200){ea:az}(he:je w ea l)(N6:l.length<=ce)(kD:∀x∈l,sZ x)(LY:cR (l.map eH.key))(hl:l.length<=200)(kz:its=iH items (l.map Ac))(hlen:its.length<=200)(jN:ee its)(gk:(aw ey).length+200*its.length<=524288):
 Calls Tryz.prog 121 #[.pointer (zp Bw),ij at_ d c,.slice ea l.length ce] w λ e w'=>∃(at' d' c':Nat) (b':az) (iC:Nat) (eR:List Piece),e= .returned (ij at' d' c')/\lB w' Bw b' eR.length iC/\aQ w' b' iC eR/\Marks (aw eR)/\fx (aw eR) at' d' c' its/\(∃m,aw eR=aw ey++m)/\(aw eR).length<=(aw ey).length+120*its.length/\dI Bw w w':=by
 have Em:cR (its.map Prod.fst):=by rw[kz];exact uI.2 (A1 (uI.1 ht.zM) (Gz LY)).1
 have qb:=oT hlen jN Em gk;obtain⟨w1,bY⟩:=bL ((w.alloc (.cells (qt at_ d c) 35)).alloc (.cells vp 35));have cN:Below w w w1:=by rw[bY];go_grown
 have eb:=bu (w2:=w1) fq;have gC:w1.heap.size=w.heap.size+1+1:=by rw[bY];simp
 have ze:=(cS hW).1;have fW:=oT cN eb gC ze;have CX:=dO (hF.below cN) (hW.below cN);have HM:=ag hm;have qj:=ag bY;have p0:w1.cell? (za w 0)=some (.int .i64 (at_:Int)):=(af eb.1 0).T rfl;have p1:w1.cell? (za w 1)=some (.int .i64 (d:Int)):=(af eb.1 1).T rfl;have Qi:w1.rangeAt w 2 (qp c):=pk [.int .i64 (at_:Int),.int .i64 (d:Int)] (qp c) [] (aF eb.1);unfold ij;by_cases h0:items=[]
 ·obtain⟨ha0,ait⟩:=ht.none_ h0;subst h0;have hz:((at_:Int)==0)=true:=by simp[ha0]
  have Zs:Hid (Calls Tryz.prog 157 #[.slice none 0 0,.slice ea l.length ce] w1 λ e' w'=>∃a' c',e'= .returned (.tuple (Lz a' (dW [] l).length c'))/\w'.ownsRow w1 101 4 (.slice a' (dW [] l).length c') (dW [] l).length ((dW [] l).flatMap aH.cells)/\Below w1 w1 w'):=ag (Np (xs:=[]) ce ⟨.inl rfl, λ y hy=>(by cases hy),cH, λ _=>rfl,.inl rfl,by simp, λ y hy=>(by cases hy)⟩ (λ j a b h=>by simp at h) (he.below cN) kD LY an);have sh:=ag (he.below cN);have HKV:Hid (its=(dW [] l).map fF):=ag (by rw[kz,EA];rfl);rw[bY]at Zs p0 p1 Qi;clear hm hF hW ht Ha he N6 kD LY hl kz hlen jN gk Em bY cN eb gC ze ha0 ait;go_enter Tryz.func121,Tryz.ntmps121
  go_wp2_with first
   |((with_reducible refine Zs.O.mono ?_);rintro e w2 ⟨a',c',rfl,kW,bG⟩;rw[<-qj.O]at kW bG;obtain⟨V,hV⟩:=bL (w2.alloc (.cells (qu a' (dW [] l).length c') 275));have pD:V.heap[w2.heap.size]? =some (.cells (qu a' (dW [] l).length c') 275):=qK hV;have ad9:Below w2 w2 V:=by rw[hV];go_grown
     have IW:Below w1 w1 V:=bG.T (ad9.mono bG.size);have IV:jg r9 V a' c' (dW [] l):=jg.PN (dC.row (n₀:=w1.heap.size) ad9 kW) (λ z hz=>by
      rcases yD hz with h|⟨x,hx,rfl⟩
      ·cases h
      ·exact⟨((sh.O.below IW).2 x hx).1,((sh.O.below IW).2 x hx).2⟩)
     have zh:eU r9 V (zp w2) 1 [.loose a' c' (dW [] l)]:=⟨.inr ⟨_,_,rfl, λ j x hj=>by
      rcases j with _|j
      ·cases hj;rw[cY,bb];exact aF pD
      ·simp at hj⟩, λ p hp=>by rw[aE]at hp;subst hp;exact IV,cH, λ e=>fS,.inr ⟨_,_,rfl⟩⟩
     have h8:=(GU Bw ey HM.O 0 rfl (CX.O.1.below IW) (CX.O.2.below IW) zh (its:=its) (cq.one.2 (cq.its.2 HKV.O)) cP qb.O.1 qb.O.2.1 qb.O.2.2.1 (cm qb.O.2.2.2));have jG:=ag IW;rw[show((0:Nat):Int)=0 from rfl]at h8;simp only[aK,bK,aN]at h8;have HLI:=ag h8;clear h8;rw[hV]at HLI;have HV:=ag hV;clear kW bG hV pD ad9 IW IV zh)
   |((with_reducible refine HLI.O.mono ?_);rintro e w6 ⟨ZN,q6,k6,b6,cf6,QT,n6,rfl,IX,uV⟩;rw[<-HV.O]at IX;have ly:Hid (DB Bw w1 w6 b6 cf6 QT q6 ZN):=ag ⟨(dI.bH jG.O).T IX.only,IX.wk,IX.file,IX.marks,IX.roots⟩;have Ib:=ag (Ia.start uV);clear IX uV)
   |fail
  exact rW
 ·obtain⟨ha1,hd8,n,jn⟩:=ht.some_ h0;have hz:((at_:Int)==0)=false:=by rw[beq_eq_false_iff_ne];omega
  have JW:Hid (Calls Tryz.prog 158 (ac2 (zp Bw) (.agg (agR at_ c d)) ea l.length ce) w1 λ e w'=>∃(ps:List (Pc aH)) (q:az) (k:Nat),e= .returned (.slice q ps.length k)/\eU r9 w' q k ps/\(∀p∈ps,St (λ _=>False) w' λ V=>Ab r9 V p)/\Ua (aw ey) ⟨⟨none,[],0,at_,c⟩,d⟩ items (l.map Ac) (ps.map Pc.val)/\Below w1 w1 w'):=ag (OO Bw ey hm d (hF.below cN) (hW.below cN) (r:=⟨⟨none,[],0,at_,c⟩,d⟩) (λ _=>False) (λ _ h=>h.elim) rfl an (St.free λ V _=>ay.nil V none) jn ht.zM Ha (St.free λ V hV=>(he.below cN).below hV) N6 kD LY hl);have aiu:Hid (IM (aw ey) ⟨⟨none,[],0,at_,c⟩,d⟩ items):=ag ⟨n,jn,by rw[jn.count];exact ht.count⟩;have HIL:=eS Ha kz jn.count;rw[bY]at JW p0 p1 Qi;clear hm hF hW ht Ha he N6 kD LY hl kz hlen jN gk Em bY cN eb gC ze ha1 hd8 jn h0;go_enter Tryz.func121,Tryz.ntmps121
  go_wp2_with first
   |(refine dG 33 ?_)
   |((with_reducible refine JW.O.mono ?_);rintro e w2 ⟨GO,q2,k2,rfl,hP2,aeN,agC,bG⟩;rw[<-qj.O]at bG;have LN:=eS hP2 agC bG;clear hP2 aeN agC bG)
   |fail
  rcases LN.O.2.1 with⟨hv,hd⟩|⟨oK,Ru,Ub⟩
  ·have h8:=Lx (.int .i64 0) (.func (.func 160) (iS (zp Bw)) #[]) (.pointer (zp Bw)) LN.O.1 hv;have h9:=h8.mono (R':= λ e w'=>∃(rs:List cF) (q:az) (k:Nat),e=Ending.returned (.slice q rs.length k)/\rs=[⟨⟨none,[],0,at_,c⟩,d⟩]/\pC w' q rs/\Below w2 w2 w') λ e w' ⟨q,k,h1,h2,h3⟩=>⟨[⟨⟨none,[],0,at_,c⟩,d⟩],q,k,h1,rfl,h2,h3⟩;have HLI:=ag h9;clear h9;have HIO:Hid (its=items):=ag (HIL.O.2.1.T hd);clear h8 hv hd
   go_wp2_with first
    |((with_reducible refine HLI.O.mono ?_);rintro e w6 ⟨ZN,q6,k6,rfl,Ce,C7,lP⟩;have acJ:Below w1 w1 w6:=LN.O.2.2.T (lP.mono LN.O.2.2.size);have ly:Hid (DB Bw w1 w6 b cf ey q6 ZN):=ag ⟨dI.bH acJ,CX.O.2.below acJ,CX.O.1.below acJ,HM.O,C7⟩;have Ib:Hid (Ia (aw ey) (aw ey) 0 ZN its):=ag (by rw[Ce];exact Ia.kept (by have e:=HIO.O;rw[e];exact aiu.O));clear Ce C7 lP acJ)
    |fail
   exact rW
  ·have hlp:GO.length<=200:=by rw[aR]at Ru;have:=HIL.O.1;omega
   have h8:=GU Bw ey HM.O 0 rfl (CX.O.1.below LN.O.2.2) (CX.O.2.below LN.O.2.2) LN.O.1 (its:=its) (by have e:=HIL.O.2.1;rw[e];exact oK) hlp qb.O.1 qb.O.2.1 qb.O.2.2.1 (cm qb.O.2.2.2);rw[show((0:Nat):Int)=0 from rfl]at h8;have HLI:=ag h8;clear h8 oK Ru hlp Ub
   go_wp2_with first
    |((with_reducible refine HLI.O.mono ?_);rintro e w6 ⟨ZN,q6,k6,b6,cf6,QT,n6,rfl,IX,uV⟩;have ly:Hid (DB Bw w1 w6 b6 cf6 QT q6 ZN):=ag ⟨(dI.bH LN.O.2.2).T IX.only,IX.wk,IX.file,IX.marks,IX.roots⟩;have Ib:=ag (Ia.start uV);clear IX uV)
    |fail
   exact rW
theorem OT{fn:Func}{p q u:Tmp}{ty tz:TypeId}(h:fn.results=#[.cell p ty,.cell q tz,.tmp u])(tmps:Array Value)(P:Program)(w:World):
 (results fn tmps).run P w=
   ((asAddr (tmps.getD p undef)).run P w).andThen λ a Ku=>((loadVar ty a).run P Ku).andThen λ x Pu=>((asAddr (tmps.getD q undef)).run P Pu).andThen λ b Xd=>((loadVar tz b).run P Xd).andThen λ y Xe=>.ok (.tuple #[x,y,tmps.getD u undef]) Xe:=by
 simp only[results,h];simp[eD,Result.andThen]
theorem fE.Uu{b:az}(h:aQ W b c ps)(hg:W.heap[g]? =some (.cells cs t))(h8:∀(j x:Nat),cs[j]? ≠some (.int .u8 (x:Int)))(hs:∀(j:Nat) (a:az) (n k:Nat),cs[j]? =some (.slice a n k)->n=0):fE g b ps:=by
 constructor
 ·rcases h.pieces.1 with h0|⟨B,o,e,hc⟩
  ·exact .inl h0
  ·cases ps with
   |nil=>exact .inl rfl
   |cons p0 T3=>
    refine .inr λ G o2 e2=>?_;rw[e]at e2;cases e2;rintro rfl;have:=hc 0 p0 rfl;rw[af hg]at this;exact absurd (cw.1 (hs _ _ _ _ this)) (h.pieces.2 p0 bD).1
 ·intro p hp G o e;obtain⟨h1,_,h2⟩:=h.pieces.2 p hp;rcases h2.2 with h0|⟨C,o2,e2,hc⟩
  ·exact absurd h0 h1
  ·rw[e]at e2;cases e2;cases C0:p.2.1 with
   |nil=>exact absurd C0 h1
   |cons x l=>
    rintro rfl;have:=hc 0 x mP;rw[af hg]at this;exact h8 _ _ this
theorem alloc_old(W:World)(o:Obj){k:Nat}(hk:k<W.heap.size):(W.alloc o).heap[k]? =W.heap[k]? :=((ah W W).alloc (cH) o).block k hk
theorem DL(w:World)(cs ds es fs:Array Value)(t u v x:TypeId):((((w.alloc (.cells cs t)).alloc (.cells ds u)).alloc (.cells es v)).alloc (.cells fs x)).heap[w.heap.size]? =some (.cells cs t)/\((((w.alloc (.cells cs t)).alloc (.cells ds u)).alloc (.cells es v)).alloc (.cells fs x)).heap[w.heap.size+1]? =some (.cells ds u)/\((((w.alloc (.cells cs t)).alloc (.cells ds u)).alloc (.cells es v)).alloc (.cells fs x)).heap[w.heap.size+1+1]? =some (.cells es v)/\((((w.alloc (.cells cs t)).alloc (.cells ds u)).alloc (.cells es v)).alloc (.cells fs x)).heap[w.heap.size+1+1+1]? =some (.cells fs x):=by
 have n1:=ai w (.cells cs t);have n2:=ai (w.alloc (.cells cs t)) (.cells ds u);have n3:=ai ((w.alloc (.cells cs t)).alloc (.cells ds u)) (.cells es v);have n4:=ai (((w.alloc (.cells cs t)).alloc (.cells ds u)).alloc (.cells es v)) (.cells fs x);simp only[bt]at n2 n3 n4;refine⟨?_,?_,?_,n4⟩
 ·rw[alloc_old _ _ dU,alloc_old _ _ dU,alloc_old _ _ cP];exact n1
 ·rw[alloc_old _ _ cP,alloc_old _ _ cP];exact n2
 ·rw[alloc_old _ _ cP];exact n3
theorem OU{b:az}(hF:aQ w b cf ey)(hm:Marks (aw ey))(ht:fx (aw ey) at_ d c items):
 Calls Tryz.prog 119 #[bN b ey.length cf,ij at_ d c] w λ e w'=>e= .returned (.int .i64 0)/\Below w w w':=by
 obtain⟨w1,bY⟩:=bL ((w.alloc (.cells (fA b ey.length cf) 31)).alloc (.cells (qt at_ d c) 35));have cN:Below w w w1:=by rw[bY];go_grown
 have eb:=bu (w2:=w1) fq;have zK:=aF eb.1;have HC:=ag (mA (hF.below cN));have HT:=ag (λ (V:World) (hV:Below w1 w1 V)=>Ae ((hF.below cN).below hV) hm ht);have H1:=eS cN eb bY;unfold bN ij at*;rw[bY]at HC zK;clear hF hm ht cN eb bY;go_enter Tryz.func119,Tryz.ntmps119
 go_wp2_with first
  |(refine dG 31 ?_)
  |(refine dG 35 ?_)
  |((with_reducible refine HC.O.mono ?_);rintro e w2 ⟨rfl,bG⟩;rw[<-H1.O.2.2]at bG;have ri:=aF ((bG.block _ (cS H1.O.2.1.1).1).T H1.O.2.1.1);have pA:=aF ((bG.block _ (cS H1.O.2.1.2).1).T H1.O.2.1.2);have HT2:=ag (HT.O _ bG);have eJ:=ag bG;clear bG)
  |((with_reducible refine HT2.O.mono ?_);rintro e w3 ⟨rfl,cu⟩;have ek:=ag cu;clear cu)
  |fail
 go_ret;exact⟨rfl,H1.O.1.T ((eJ.O.T (ek.O.mono eJ.O.size)).mono H1.O.1.size)⟩
theorem J2{b:az}(hF:aQ w b cf ey)(hm:Marks (aw ey))(ht:fx (aw ey) at_ d c items)(Ha:items.length<=200){ea:az}(he:je w ea l)(N6:l.length<=ce)(kD:∀x∈l,sZ x)(LY:cR (l.map eH.key))(hl:l.length<=200)(kz:its=iH items (l.map Ac))(hlen:its.length<=200)(jN:ee its)(gk:(aw ey).length+200*its.length<=524288):
 Calls Tryz.prog 88 #[bN b ey.length cf,ij at_ d c,.slice ea l.length ce] w λ e w'=>∃(at' d' c':Nat) (b':az) (iC:Nat) (eR:List Piece),e= .returned (.tuple #[bN b' eR.length iC,ij at' d' c',.int .i64 0])/\aQ w' b' iC eR/\Marks (aw eR)/\fx (aw eR) at' d' c' its/\(∃m,aw eR=aw ey++m)/\(aw eR).length<=(aw ey).length+120*its.length/\Below w w w':=by
 obtain⟨w1,bY⟩:=bL ((((w.alloc (.cells (fA b ey.length cf) 31)).alloc (.cells (qt at_ d c) 35)).alloc (.cells kF 31)).alloc (.cells vp 35));have cN:Below w w w1:=by rw[bY];go_grown
 have gC:w1.heap.size=w.heap.size+1+1+1+1:=by rw[bY];simp
 have eb:w1.heap[w.heap.size]? =some (.cells (fA b ey.length cf) 31)/\w1.heap[w.heap.size+1]? =some (.cells (qt at_ d c) 35)/\w1.heap[w.heap.size+1+1]? =some (.cells kF 31)/\w1.heap[w.heap.size+1+1+1]? =some (.cells vp 35):=by rw[bY];exact DL _ _ _ _ _ _ _ _ _
 have zK:=aF eb.1;have ri:=aF eb.2.1;have HC:=ag (OU (hF.below cN) hm ht);have HE:=ag (λ (V:World) (hV:Below w1 w1 V)=>Dn ce ((he.below cN).below hV) kD LY an);have HGO:=ag (λ (V:World) (Bw:Nat) (hV:Below w1 w1 V) (hW:lB V Bw b ey.length cf)=>YF Bw ey hm ((hF.below cN).below hV) hW ht Ha ((he.below cN).below hV) N6 kD LY hl kz hlen jN gk);have H1:=oT cN gC eb bY;unfold bN at*;unfold ij at HC HGO⊢;rw[bY]at HC zK ri;clear hF hm ht Ha he N6 kD LY hl kz hlen jN gk cN gC eb bY;go_enter Tryz.func88,Tryz.ntmps88
 go_wp2_with first
  |(refine dG 31 ?_)
  |(refine dG 35 ?_)
  |(refine lU 35 ?_)
  |((with_reducible refine HC.O.mono ?_);rintro e w2 ⟨rfl,bG⟩;rw[<-H1.O.2.2.2]at bG;have HE2:=ag (HE.O _ bG);have eJ:=ag bG;clear bG)
  |((with_reducible refine HE2.O.mono ?_);rintro e w3 ⟨rfl,cu⟩;have Ec:Below w1 w1 w3:=eJ.O.T (cu.mono eJ.O.size);have pA:=aF ((Ec.block _ (cS H1.O.2.2.1.1).1).T H1.O.2.2.1.1);obtain⟨w4,kd⟩:=bL (w3.alloc (.cells (acO b ey.length cf) 230));have hn4:w4.heap[w3.heap.size]? =some (.cells (acO b ey.length cf) 230):=qK kd;have dX:Below w1 w1 w4:=by rw[kd];exact Ec.alloc Ec.size _
    have Fm:=aF ((dX.block _ (cS H1.O.2.2.1.2.1).1).T H1.O.2.2.1.2.1);have HG:=ag (HGO.O w4 w3 dX hn4);have pB:=eS dX Ec (show w4.heap.size=w3.heap.size+1 by rw[kd];simp);rw[kd]at HG Fm;have Aj:=ag kd;clear cu Ec kd hn4 dX)
  |((with_reducible refine HG.O.mono ?_);rintro e w8 ⟨at',d',c',b',iC,eR,rfl,hwk,hF8,hm8,ht8,UK,hc8,ZC⟩;rw[<-Aj.O]at ZC;obtain⟨w9,hw9⟩:=bL (w8.alloc (.cells (qt at' d' c') 35));have ug:Below w8 w8 w9:=by rw[hw9];go_grown
    have ZO:w9.heap[w8.heap.size]? =some (.cells (qt at' d' c') 35):=qK hw9;have ho9:dI w3 w4 w9:=ZC.T (dI.bH ug);have mK:=pB.O.2.1.size;have uh:=pB.O.2.2;have hs8:=ZC.size;have gC:=H1.O.2.1;have e2:=(ho9.block (w+1+1) an an).T ((pB.O.1.block _ an).T H1.O.2.2.1.2.2.1);have e3:=(ho9.block (w+1+1+1) an an).T ((pB.O.1.block _ an).T H1.O.2.2.1.2.2.2);have QU:=hwk.below ug;have k0:=(af QU 0).T rfl;have k1:=(af QU 1).T rfl;have k2:=(af QU 2).T rfl;have k3:=(af QU 3).T rfl;have k4:=(af QU 4).T rfl;have k5:=(af QU 5).T rfl;simp only[eu,jX,cW]at k0 k1 k2 k3 k4 k5;have t0:=(af ZO 0).T rfl;have t1:=(af ZO 1).T rfl;have t2:=(af ZO 2).T rfl;have t3:=(af ZO 3).T rfl;have t4:=(af ZO 4).T rfl;have t5:=(af ZO 5).T rfl;have t6:=(af ZO 6).T rfl;have t7:=(af ZO 7).T rfl;simp only[eu,jX,cW]at t0 t1 t2 t3 t4 t5 t6 t7;have HN9:=eS e2 e3 ZO;have HS8:Hid (w.heap.size+1+1+1+1<w8.heap.size):=ag an;have agD:Below w w w9:=by have h5:Below w w w4:=H1.O.1.T (pB.O.1.mono an);exact h5.T (ho9.below an an)
    have HF9:=dO (show aQ w9.drew b' iC eR from(hF8.below ug).below (ah _ w9).drew) agD;have HM8:=oT hm8 ht8 UK hc8;rw[hw9]at k0 k1 k2 k3 k4 k5 t0 t1 t2 t3 t4 t5 t6 t7;have HW9:=ag hw9;clear hwk hF8 hm8 ht8 UK hc8 ZC hw9 ug ZO ho9 mK uh hs8 gC e2 e3 QU agD)
  |fail
 rw[<-HW9.O]at k0 k1 k2 k3 k4 k5 t0 t1 t2 t3 t4 t5 t6 t7⊢;refine bP 9 ?_;refine tP [0,1,2,3,4,5] ?_
 iterate 6 refine tO ?_
 refine au 3 rfl ?_;refine sP 6 [0,1,2,3,4] λ K hK=>?_;refine DO ?_;have QS:w9.drew.heap[w.heap.size+1+1]? =some (.cells kF 31):=HN9.O.1;refine iG 31 _ _ rfl (w+1+1) 0 kF (fA b' eR.length iC) 31 rfl rfl QS cP bU bz (λ W7 g1 g2 g3=>?_);have Zz:=(g2 (w+1+1+1) an).T HN9.O.2.1;have ht7:=(g2 w8 (cm HS8.O)).T HN9.O.2.2;have t0:=(af ht7 0).T rfl;have t1:=(af ht7 1).T rfl;have t2:=(af ht7 2).T rfl;have t3:=(af ht7 3).T rfl;have t4:=(af ht7 4).T rfl;have t5:=(af ht7 5).T rfl;have t6:=(af ht7 6).T rfl;have t7:=(af ht7 7).T rfl;simp only[eu,jX,cW]at t0 t1 t2 t3 t4 t5 t6 t7;have Sg:=G2 g1 g2 g3 Zz QS;clear g1 g2 g3 Zz ht7 QS;refine nP hK ?_;clear hK K;refine sP 7 [0,1,2,3,4,5,6] λ K hK=>?_;refine DO ?_;refine iG 35 _ _ rfl (w+1+1+1) 0 vp (qt at' d' c') 35 rfl rfl Sg.O.2.2.2.1 cP bU bz (λ W10 g1 g2 g3=>?_);have Uv:=(g2 (w+1+1) an).T Sg.O.1;have x0:=(af Uv 0).T rfl;have x1:=(af Uv 1).T rfl;have x2:=(af Uv 2).T rfl;have x3:=(af Uv 3).T rfl;have x4:=(af Uv 4).T rfl;simp only[eu,jX,cW]at x0 x1 x2 x3 x4;have y0:=(af g1 0).T rfl;have y1:=(af g1 1).T rfl;have y2:=(af g1 2).T rfl;have y3:=(af g1 3).T rfl;have y4:=(af g1 4).T rfl;have y5:=(af g1 5).T rfl;have y6:=(af g1 6).T rfl;have y7:=(af g1 7).T rfl;simp only[eu,jX,cW]at y0 y1 y2 y3 y4 y5 y6 y7;have hFD:aQ W7 b' iC eR:=dZ (W:=w9.drew) (g:=w.heap.size+1+1) (λ j _ hj=>Sg.O.2.1 j hj) HF9.O.1 (fE.Uu HF9.O.1 Sg.O.2.2.2.2 (λ j x=>by rcases j with _|_|_|_|_|j<;>simp) (λ j a n k h=>by rcases j with _|_|_|_|_|j<;>simp at h<;>first|exact h.2.1.symm|exact h.2.1));have hFE:aQ W10 b' iC eR:=dZ (g:=w.heap.size+1+1+1) (λ j _ hj=>g2 j hj) hFD (fE.Uu hFD Sg.O.2.2.2.1 (λ j x=>by rcases j with _|_|_|_|_|_|_|_|j<;>simp) (λ j a n k h=>by rcases j with _|_|_|_|_|_|_|_|j<;>simp at h));have OV:Below w w W10:=g3 w w an (Sg.O.2.2.1 w w an HF9.O.2.drew);have HZ:=dO hFE OV;clear g1 g2 g3 Uv hFD hFE OV;refine nP hK ?_;clear hK K;refine tP [8] ?_;refine tO ?_;refine au 0 rfl ?_;refine dP ?_;go_simp
 go_wp2_with fail
 refine bodyPost_ret (v:=.tuple (ZZ (.agg (fA b' eR.length iC)) (.agg (qt at' d' c')))) (by rw[OT rfl];go_simp) bp ⟨at',d',c',b',iC,eR,rfl,HZ.O.1,HM8.O.1,HM8.O.2.1,HM8.O.2.2.1,HM8.O.2.2.2,HZ.O.2⟩
end
end Go.Proofs.YtbiififbfefkjaaGreatDoor

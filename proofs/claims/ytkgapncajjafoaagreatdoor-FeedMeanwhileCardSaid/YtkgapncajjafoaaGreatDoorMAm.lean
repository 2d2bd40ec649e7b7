/- The store, part 13. -/
import Derived.Test.YtkgapncajjafoaaGreatDoorMAa
import Derived.Test.YtkgapncajjafoaaGreatDoorMAk
import Derived.Test.YtkgapncajjafoaaGreatDoorMAl
import Derived.Test.YtkgapncajjafoaaGreatDoorMAg
import Derived.Lib.AppendZeros
set_option linter.unusedSimpArgs false
set_option linter.unusedVariables false
set_option maxRecDepth 100000
set_option maxHeartbeats 16000000
namespace Go.Proofs.YtkgapncajjafoaaGreatDoor
open Go.RowKit Go.Shelf
variable{p:Prop}{w:World}{a b:Option Addr}{c cf:Nat}{its:List KV}{r:aN}
section
attribute [local go_sem] Oper.semAt_some
attribute [-go_sem] Builtin.append_
theorem aaP(h:p:=by
 have Ap:=af Dd
 clear Dd
 intro d
 induction d with
 |zero=>
  intro w b cf hF hW a c ps hP A B r its hv hr hd h50 hl i hi
  obtain⟨v1,v2,v3,v4⟩:=JD hv
  rw[<-hi]at v1 v2 v3 v4
  obtain⟨B0,o0,rfl⟩:=hP.row.some_ ag
  have hg:=hP.row.get v1
  simp only[Pc.cells]at hg
  obtain⟨i1,tZ⟩:=aK (i+1)
  rw[<-tZ]at v3
  have ja:=hP.cap
  have HI:=af (show i<ps.length/\i1=i+1/\ps.length<=c/\ps.length<=500 from⟨v4,tZ,ja,ag⟩)
  have hii:(i:Int)<(ps.length:Int):=ag
  have hi5:(i:Int)<=500:=ag
  have hde:((r.h:Int)==(ht:Int))=true:=bV
  obtain⟨w2,da⟩:=aK ((w.alloc (.cells (oT r.k.ka r.k.key.length r.k.kc r.k.at_ r.k.count r.h) wy)).alloc (.cells fe wy))
  have aC:Below w w w2:=by rw[da];go_grown
  have ek:=aS (w2:=w2) (by rw[da];exact dp)
  have O0:w2.heap.size=w.heap.size+1+1:=by rw[da];simp
  have p9:w2.cell? (za w 9)=some (.int .i64 (r.h:Int)):=(aa ek.1 9).T rfl
  have Il:w2.rangeAt w 1 (fI r.k.ka r.k.key.length r.k.kc r.k.at_ r.k.count r.h):=bp [.bool true] (fI r.k.ka r.k.key.length r.k.kc r.k.at_ r.k.count r.h) [.slice none 0 0] (aj ek.1)
  first
   |(have:=zA;clear this
     obtain⟨xs,Ac,oC⟩:=Ly hr (aM Ap.O))
   |(obtain⟨xs,Ac,oC⟩:=yK (d:=hh) hr (aM Ap.O))
  have HG:=cj Ac oC
  have Vq:=af (aaQ ((hF.below aC)) hm (hW.below aC) r.k.ka r.k.key.length r.k.kc r.k.at_ r.k.count r.h (aM Ap.O) Ac.node.1 Ac.node.2.1)
  clear Ac oC
  have HV:=cj v2 v3
  have bR:=jo aC ek O0 da
  have HP:=af hP
  rw[da]at Vq p9 Il
  clear hF hW hP hv hr hd hl hi v1 v2 v3 v4 tZ ja aC ek O0 da
  go_enter WL,WM
  go_wp2_with first
   |(refine bh wy ?_)
   |(refine et wy ?_)
   |(refine bh 285 ?_)
   |((with_reducible refine Vq.O.mono ?_);rintro e w3 ⟨ys,ya,yk,cS,rfl,hR,aL⟩
     rw[<-bR.O.2.2.2]at aL hR
     have mK:=cV cS hR aL
     have n3:=(aL.block (w.heap.size+1) (by rw[bR.O.2.2.1];omega)).T bR.O.2.1.2
     have f10:w3.frozen? ⟨w.heap.size+1,10,none⟩=false:=ak n3 10
     have c10:w3.cell? (za (w.heap.size+1) 10)=some (.slice none 0 0):=(aa n3 10).T rfl
     have HN3:=af n3
     clear cS hR aL n3)
   |fail
  obtain⟨W4,SE⟩:=aK (w3.setCell (za (w.heap.size+1) 10) (.slice ya ys.length yk))
  rw[<-SE]
  have aL:Below w2 w2 w3:=mK.O.2.2
  have bH:Below w w W4:=by rw[SE];exact(bR.O.1.T (aL.mono bR.O.1.size)).setCell (Nat.le_succ _) _
  have hn4:W4.heap[w.heap.size+1]? =some (.cells (j6 ya ys.length yk) wy):=by rw[SE,aq _ HN3.O];rfl
  have HP4:=af (HP.O.below bH)
  have hR4:aaR W4 w2.heap.size ya yk ys:=by rw[SE];exact aaS (λ j hj=>Below.heap_setCell w3 ⟨w.heap.size+1,10,none⟩ _ j hj) HN3.O bd (λ j x=>by rcases j with _|_|_|_|_|_|_|_|_|_|_|j<;>simp) mK.O.2.1
  have zH:ec CQ W4 ya yk ys:=ec.GV hR4.1 (λ y hy=>(hR4.2 y hy).1)
  have WN:Hid (bU CQ W4 (zp (w.heap.size+1)) 1 [.loose ya yk ys]):=af ⟨.inr ⟨_,_,rfl, λ j x hj=>by
   rcases j with _|j
   ·cases hj;rw[Nat.zero_mul,Nat.add_zero];exact aj hn4
   ·simp at hj⟩, λ p hp=>by rw[List.mem_singleton]at hp;subst hp;exact zH,aW, λ e=>(by cases e),.inr ⟨_,_,rfl⟩⟩
  have Yh:Hid ([Pc.loose ya yk ys].length=[Pc.loose ya yk ys].length):=af rfl
  have HML:Hid ([Pc.loose ya yk ys].length<=500/\1<=[Pc.loose ya yk ys].length):=af aR
  have HC:Hid (∀(V:World) (R:Nat),V.rangeAt R 0 (YL (some ⟨B0,o0,none⟩) i c (zp (w.heap.size+1)) [Pc.loose ya yk ys].length 1 (if c=i1 then some ⟨B0,o0,none⟩else some ⟨B0,o0+i1*11,none⟩) (ps.length - i1) (c - i1))->Below W4 W4 V->Calls Tryz.prog WO (jE (zp R) 3 3) V λ e w'=>∃(q:Option Addr) (k:Nat),e= .returned (.slice q (i+[Pc.loose ya yk ys].length+(ps.length - i1)) k)/\bU CQ w' q k (ps.take i++([Pc.loose ya yk ys]++ps.drop i1))/\Below W4 W4 w'):=af (by
   intro V R hR hV
   have O1:([⟨some ⟨B0,o0,none⟩,c,ps.take i⟩,⟨(zp (w.heap.size+1)),1,[Pc.loose ya yk ys]⟩,⟨if c=i1 then some ⟨B0,o0,none⟩else some ⟨B0,o0+i1*11,none⟩,c - i1,ps.drop i1⟩]:List (eR wD)).map eR.v=[.slice (some ⟨B0,o0,none⟩) i c,.slice (zp (w.heap.size+1)) [Pc.loose ya yk ys].length 1,.slice (if c=i1 then some ⟨B0,o0,none⟩else some ⟨B0,o0+i1*11,none⟩) (ps.length - i1) (c - i1)]:=by
    simp only[List.map_cons,List.map_nil,eR.v,List.length_take,List.length_drop]
    rw[Nat.min_eq_left (aM HI.O),Yh.O]
   have hlen:du ([⟨some ⟨B0,o0,none⟩,c,ps.take i⟩,⟨(zp (w.heap.size+1)),1,[Pc.loose ya yk ys]⟩,⟨if c=i1 then some ⟨B0,o0,none⟩else some ⟨B0,o0+i1*11,none⟩,c - i1,ps.drop i1⟩]:List (eR wD))=i+[Pc.loose ya yk ys].length+(ps.length - i1):=by
    simp only[du,List.map_cons,List.map_nil,List.sum_cons,List.sum_nil,List.length_take,List.length_drop]
    rw[Nat.min_eq_left (aM HI.O),Yh.O];omega
   have qq:([⟨some ⟨B0,o0,none⟩,c,ps.take i⟩,⟨(zp (w.heap.size+1)),1,[Pc.loose ya yk ys]⟩,⟨if c=i1 then some ⟨B0,o0,none⟩else some ⟨B0,o0+i1*11,none⟩,c - i1,ps.drop i1⟩]:List (eR wD)).flatMap eR.ps=ps.take i++([Pc.loose ya yk ys]++ps.drop i1):=by simp
   have h5:=WQ (w:=V) (R:=R) (rows:=[⟨some ⟨B0,o0,none⟩,c,ps.take i⟩,⟨(zp (w.heap.size+1)),1,[Pc.loose ya yk ys]⟩,⟨if c=i1 then some ⟨B0,o0,none⟩else some ⟨B0,o0+i1*11,none⟩,c - i1,ps.drop i1⟩]) (by rw[O1];exact hR) (λ r hr=>by
    simp only[List.mem_cons,List.not_mem_nil,or_false]at hr
    rcases hr with rfl|rfl|rfl
    ·exact(HP4.O.take i).below hV
    ·exact WN.O.below hV
    ·exact(HP4.O.JC i1 (aM HI.O)).below hV) aR (by rw[hlen];have:=HI.O;have:=HML.O;omega) (by rw[hlen];have:=HI.O;have:=HML.O;omega)
   rw[qq]at h5
   refine h5.mono ?_
   rintro e w' ⟨q,k,rfl,h6,h7⟩
   refine⟨q,k,?_,h6,hV.T (h7.mono hV.size)⟩
   rw[<-qq,iD,hlen])
  have dm:(i:Int)<=(c:Int):=aM HI.O
  have fZ:(i1:Int)<=(ps.length:Int):=aM HI.O
  have iU:IntKind.i64.wrap ((i:Int)+1)=(i1:Int):=by have:=HI.O;rw[IntKind.wrap_i64];omega
  have Aw:(ps.length:Int)<=(c:Int):=aM HI.O
  have hc0:¬ c=0:=aM HI.O
  have p9':W4.cell? (za w 9)=some (.int .i64 (r.h:Int)):=by
   rw[SE,World.cell?_setCell_other _ _ _ _ (by intro e;injection e;omega)]
   exact carry aL ((aa bR.O.2.1.1 9).T rfl)
  have iJ:=af bH
  simp only[List.length_cons,List.length_nil,Nat.zero_add]at HC
  clear SE aL bH hn4 hR4 zH p9 c10 f10
  refine bP 11 ?_
  refine tP [0,1,2,3,4,5,6,7] ?_
  iterate 8 refine tO ?_
  refine ah 3 rfl ?_
  refine sP 8 [0,1,2,3,4,5,6,7] λ K hK=>?_
  go_simp
  refine nP hK ?_
  clear hK K
  refine sP 9 [0,1,2,3,4,5,6,7,8] λ K hK=>?_
  go_simp
  with_reducible refine(HC.O _ _ ?_ ?_).mono ?_
  ·exact aj (World.alloc_heap_new W4 _)
  ·exact Below.drew (Below.alloc (Below.refl _ W4) (aW) _)
  rintro e w5 ⟨q,k,rfl,hQ,bJ⟩;have HQ:=cj hQ bJ;clear hQ bJ
  refine nP hK ?_
  clear hK K
  refine tP [10] ?_
  refine tO ?_
  refine ah 0 rfl ?_
  refine dP ?_
  go_simp
  generalize(if c=i1 then some (⟨B0,o0,none⟩:Addr)else some ⟨B0,o0+i1*11,none⟩)=tb
  have p9:=carry HQ.O.2 p9'
  go_wp2_with fail
  go_ret
  first
   |(have:=zA;clear this
     have lh:=Lx HG.O.1 mK.O.1.1 mK.O.1.2)
   |(have lh:=yJ HG.O.1 mK.O.1.1 mK.O.1.2.1 mK.O.1.2.2)
  have hlen:3<=ys.length:=by have:=congrArg List.length mK.O.1.1;simp at this;have:=HG.O.2;omega
  refine⟨ps.take i++([Pc.loose ya yk ys]++ps.drop i1),q,k,?_,[.loose ys],?_,HQ.O.1,iz.leaf hlen lh,iJ.O.T (HQ.O.2.mono iJ.O.size)⟩
  ·have:(ps.take i++([Pc.loose ya yk ys]++ps.drop i1)).length=i+1+(ps.length - i1):=by
    simp only[List.length_append,List.length_take,List.length_drop,List.length_cons,List.length_nil]
    rw[Nat.min_eq_left (aM HI.O)];omega
   rw[this];rfl
  ·rw[List.map_append,List.map_append,HV.O.1,HV.O.2];rfl
 |succ d ih=>
  intro w b cf hF hW a c ps hP A B r its hv hr hd h50 hl i hi
  obtain⟨v1,v2,v3,v4⟩:=JD hv
  rw[<-hi]at v1 v2 v3 v4
  obtain⟨B0,o0,rfl⟩:=hP.row.some_ ag
  have hg:=hP.row.get v1
  simp only[Pc.cells]at hg
  obtain⟨i1,tZ⟩:=aK (i+1)
  rw[<-tZ]at v3
  have ja:=hP.cap
  have HI:=af (show i<ps.length/\i1=i+1/\ps.length<=c/\ps.length<=500/\ps.length+6*(d+1)<=500/\i=A.length from⟨v4,tZ,ja,ag,hl,hi⟩)
  have hii:(i:Int)<(ps.length:Int):=ag
  have hi5:(i:Int)<=500:=ag
  have hde:((r.h:Int)==(ht:Int))=false:=bV
  obtain⟨w2,da⟩:=aK ((w.alloc (.cells (oT r.k.ka r.k.key.length r.k.kc r.k.at_ r.k.count r.h) wy)).alloc (.cells fe wy))
  have aC:Below w w w2:=by rw[da];go_grown
  have ek:=aS (w2:=w2) (by rw[da];exact dp)
  have O0:w2.heap.size=w.heap.size+1+1:=by rw[da];simp
  have p9:w2.cell? (za w 9)=some (.int .i64 (r.h:Int)):=(aa ek.1 9).T rfl
  have Il:w2.rangeAt w 1 (fI r.k.ka r.k.key.length r.k.kc r.k.at_ r.k.count r.h):=bp [.bool true] (fI r.k.ka r.k.key.length r.k.kc r.k.at_ r.k.count r.h) [.slice none 0 0] (aj ek.1)
  obtain⟨dd,Ss⟩:=aK (ht+d)
  obtain⟨xs,Ac,oC⟩:=yK (d:=dd) hr ag
  have kD:=dt.kT Ac.node.2.1
  have HG:=BM Ac oC kD Ss (show r.h=dd+1/\r.h<=50 by omega)
  have Vq:=af (xP (hF.below aC) hm (hW.below aC) r.k.ka r.k.key.length r.k.kc r.k.at_ r.k.count dd r.h ag ag Ac.node.1 Ac.node.2.1)
  have Yi:=af (λ (V:World) (hV:Below w w V) (a':Option Addr) (c':Nat) (bY:List (Pc wD)) (h1:bU CQ V a' c' bY) (A' B':List (Pv wD)) (r':aN) (acs:List KV) (h2:bY.map Pc.val=A'++.kept r'::B') (h3:cW (al bK) r' acs) (h4:r'.h=ht+d) (h50:r'.h<=50) (h5:bY.length+6*d<=500) (i':Nat) (h6:i'=A'.length)=>ih (hF.below hV) (hW.below hV) h1 h2 h3 h4 h50 h5 i' h6)
  have HV:=cj v2 v3
  have bR:=jo aC ek O0 da
  have HP:=af hP
  rw[da]at Vq p9 Il
  clear hF hW hP hv hr hd hl hi v1 v2 v3 v4 tZ ja aC ek O0 da Ac oC kD ih Ss
  go_enter WL,WM
  go_wp2_with first
   |(refine bh wy ?_)
   |(refine et wy ?_)
   |(refine bh 285 ?_)
   |((with_reducible refine Vq.O.mono ?_);rintro e w3 ⟨ys,ya,yk,cS,rfl,hR,aL⟩
     rw[<-bR.O.2.2.2]at aL hR
     have mK:=cV cS (xM.at hR) aL
     clear cS hR aL)
   |fail
  have CG:ys.length=xs.length:=by have:=congrArg List.length mK.O.1.1;simpa using this
  have Kx:(ys.length:Int)<=6:=aM HG.O.2.2.1
  have HYX:=af CG
  clear CG
  go_loopw [14,41] (λ rv iv wr=>∃(j:Nat) (ms:List (Pc wD)) (q:Option Addr) (k':Nat),j<=ys.length/\iv= .int .i64 (j:Int)/\rv= .slice q j k'/\Hid (ms.length=j)/\Hid (ms.map Pc.val=dZ ((ys.take j).map λ y=>⟨y,dd⟩))/\Hid (mq CQ O2 wy w3 wr q k' ms)) (λ _ iv _=>ys.length - (intOf iv).toNat)
  case atStart=>exact⟨0,[],none,0,ag,rfl,rfl,af rfl,af rfl,af ⟨dp,World.ownsRow_nil _ _ _ _, λ p hp=>by cases hp⟩⟩
  case round=>
   obtain⟨j,ms,q,k',hj,rfl,rfl,wH,zG,SF⟩:=hrel
   by_cases bg:j<ys.length
   ·obtain⟨y,hy⟩:∃y,ys[j]? =some y:=⟨ys[j],by simp[bg]⟩
    have T9:(ys.map λ y=>(⟨y,dd⟩:aN))[j]? =some ⟨y,dd⟩:=by rw[List.getElem?_map,hy];rfl
    obtain⟨Br,o,rfl⟩:=mK.O.2.1.row.some_ (by rw[List.length_map];omega)
    have hg:wr.rangeAt Br (o+j*9) (fI y.ka y.key.length y.kc y.at_ y.count dd):=(mK.O.2.1.row.below SF.O.base).get T9
    have gy:(j:Int)<(ys.length:Int):=ag
    have rj:(j:Int)<=6:=ag
    obtain⟨V,hV⟩:=aK (wr.alloc (.cells (fI y.ka y.key.length y.kc y.at_ y.count dd) 285))
    have jA:Below wr wr V:=by rw[hV];go_grown
    have vu:V.heap.size=wr.heap.size+1:=by rw[hV];simp
    have jI:V.heap[wr.heap.size]? =some (.cells (fI y.ka y.key.length y.kc y.at_ y.count dd) 285):=jJ hV
    have gR:=aj (W:=V) (B:=wr.heap.size) (cs:=(fI y.ka y.key.length y.kc y.at_ y.count dd)) (t:=285) jI
    have qi:=SF.O.other jA
    have eK:=mK.O.2.1.keys _ (List.mem_of_getElem? T9)
    obtain⟨g',c',w',bt,qj⟩:=qi.put (P:=Tryz.prog) (TS:=Ua) (z:=(.agg fe)) (bytes:=120) aO Ub rfl bd bd (.kept ⟨y,dd⟩) eK (by rw[wH.O];omega)
    have HN:Hid (mq CQ O2 wy w3 w' (zp g') c' (ms++[.kept ⟨y,dd⟩])):=af qj
    have vp:Hid ((ms++[(.kept ⟨y,dd⟩:Pc wD)]).map Pc.val=dZ ((ys.take (j+1)).map λ y=>⟨y,dd⟩)):=af (by rw[List.take_add_one,hy,List.map_append,zG.O];simp[dZ,Pc.val])
    have qL:Hid ((ms++[(.kept ⟨y,dd⟩:Pc wD)]).length=j+1):=af (by rw[List.length_append,wH.O];rfl)
    rw[wH.O,vu]at bt
    simp only[Pc.cells,List.toArray]at bt
    rw[hV]at gR bt
    clear hy T9 hV jA vu jI qi eK qj
    go_wp2_with first
     |(refine bh 285 ?_)
     |(refine et 285 ?_)
     |fail
    exact⟨⟨j+1,_,_,_,ag,by simp,rfl,qL,vp,HN⟩,by simp[intOf];omega⟩
   ·obtain rfl:j=ys.length:=ag
    obtain⟨W4,SE⟩:=aK wr
    rw[<-SE]at SF⊢
    clear SE
    have aL:Below w2 w2 w3:=mK.O.2.2
    have fH:Below w2 w2 W4:=aL.T (SF.O.base.mono aL.size)
    have bH:Below w w W4:=bR.O.1.T (fH.mono bR.O.1.size)
    have HP4:=af (HP.O.below bH)
    have cu:=SF.O.fin
    have WN:Hid (bU CQ W4 q k' ms):=af cu
    obtain⟨m,CJ⟩:=aK ys.length
    rw[<-CJ]at wH⊢
    have hm6:m<=6/\3<=m:=zI HYX.O HG.O.2.1 HG.O.2.2.1
    have Yh:Hid (ms.length=m):=wH
    have HML:Hid (m<=500/\1<=m):=af ag
    have WR:=zG.O
    rw[List.take_length]at WR
    have HPV:=af WR
    have HM6:=cj hm6 CJ
    have HC:Hid (∀(V:World) (R:Nat),V.rangeAt R 0 (YL (some ⟨B0,o0,none⟩) i c q m k' (if c=i1 then some ⟨B0,o0,none⟩else some ⟨B0,o0+i1*11,none⟩) (ps.length - i1) (c - i1))->Below W4 W4 V->Calls Tryz.prog WO (jE (zp R) 3 3) V λ e w'=>∃(q:Option Addr) (k:Nat),e= .returned (.slice q (i+m+(ps.length - i1)) k)/\bU CQ w' q k (ps.take i++(ms++ps.drop i1))/\Below W4 W4 w'):=af (by
     intro V R hR hV
     have O1:([⟨some ⟨B0,o0,none⟩,c,ps.take i⟩,⟨q,k',ms⟩,⟨if c=i1 then some ⟨B0,o0,none⟩else some ⟨B0,o0+i1*11,none⟩,c - i1,ps.drop i1⟩]:List (eR wD)).map eR.v=[.slice (some ⟨B0,o0,none⟩) i c,.slice q m k',.slice (if c=i1 then some ⟨B0,o0,none⟩else some ⟨B0,o0+i1*11,none⟩) (ps.length - i1) (c - i1)]:=by
      simp only[List.map_cons,List.map_nil,eR.v,List.length_take,List.length_drop]
      rw[Nat.min_eq_left (aM HI.O),Yh.O]
     have hlen:du ([⟨some ⟨B0,o0,none⟩,c,ps.take i⟩,⟨q,k',ms⟩,⟨if c=i1 then some ⟨B0,o0,none⟩else some ⟨B0,o0+i1*11,none⟩,c - i1,ps.drop i1⟩]:List (eR wD))=i+m+(ps.length - i1):=by
      simp only[du,List.map_cons,List.map_nil,List.sum_cons,List.sum_nil,List.length_take,List.length_drop]
      rw[Nat.min_eq_left (aM HI.O),Yh.O];omega
     have qq:([⟨some ⟨B0,o0,none⟩,c,ps.take i⟩,⟨q,k',ms⟩,⟨if c=i1 then some ⟨B0,o0,none⟩else some ⟨B0,o0+i1*11,none⟩,c - i1,ps.drop i1⟩]:List (eR wD)).flatMap eR.ps=ps.take i++(ms++ps.drop i1):=by simp
     have h5:=WQ (w:=V) (R:=R) (rows:=[⟨some ⟨B0,o0,none⟩,c,ps.take i⟩,⟨q,k',ms⟩,⟨if c=i1 then some ⟨B0,o0,none⟩else some ⟨B0,o0+i1*11,none⟩,c - i1,ps.drop i1⟩]) (by rw[O1];exact hR) (λ r hr=>by
      simp only[List.mem_cons,List.not_mem_nil,or_false]at hr
      rcases hr with rfl|rfl|rfl
      ·exact(HP4.O.take i).below hV
      ·exact WN.O.below hV
      ·exact(HP4.O.JC i1 (aM HI.O)).below hV) aR (by rw[hlen];have:=HI.O;have:=HML.O;omega) (by rw[hlen];have:=HI.O;have:=HML.O;omega)
     rw[qq]at h5
     refine h5.mono ?_
     rintro e w' ⟨q,k,rfl,h6,h7⟩
     refine⟨q,k,?_,h6,hV.T (h7.mono hV.size)⟩
     rw[<-qq,iD,hlen])
    have dm:(i:Int)<=(c:Int):=aM HI.O
    have fZ:(i1:Int)<=(ps.length:Int):=aM HI.O
    have iU:IntKind.i64.wrap ((i:Int)+1)=(i1:Int):=by have:=HI.O;rw[IntKind.wrap_i64];omega
    have Aw:(ps.length:Int)<=(c:Int):=aM HI.O
    have hc0:¬ c=0:=aM HI.O
    have p9':W4.cell? (za w 9)=some (.int .i64 (r.h:Int)):=carry fH ((aa bR.O.2.1.1 9).T rfl)
    have iJ:=af bH
    have tJ:((m:Int)==0)=false:=bV
    obtain⟨i2,XI⟩:=aK (i+m)
    obtain⟨i3,AE⟩:∃i3,i3+1=i2:=⟨i2 - 1,ag⟩
    have nb:IntKind.i64.wrap ((i:Int)+(m:Int))=(i2:Int):=by have:=HI.O;rw[IntKind.wrap_i64];omega
    have kC:IntKind.i64.wrap ((i2:Int) - 1)=(i3:Int):=by have:=HI.O;rw[IntKind.wrap_i64];omega
    have HI3:=cj XI AE
    clear aL fH bH cu p9 wH zG hm6 CJ WR XI AE SF Kx
    go_wp2_with fail
    refine bP 11 ?_
    refine tP [0,1,2,3,4,5,6,7] ?_
    iterate 8 refine tO ?_
    refine ah 3 rfl ?_
    refine sP 8 [0,1,2,3,4,5,6,7] λ K hK=>?_
    go_simp
    refine nP hK ?_
    clear hK K
    refine sP 9 [0,1,2,3,4,5,6,7,8] λ K hK=>?_
    go_simp
    with_reducible refine(HC.O _ _ ?_ ?_).mono ?_
    ·exact aj (World.alloc_heap_new W4 _)
    ·exact Below.drew (Below.alloc (Below.refl _ W4) (aW) _)
    rintro e w5 ⟨q,k,rfl,hQ,bJ⟩;have HQ:=cj hQ bJ;clear hQ bJ
    refine nP hK ?_
    clear hK K
    refine tP [10] ?_
    refine tO ?_
    refine ah 0 rfl ?_
    refine dP ?_
    go_simp
    generalize(if c=i1 then some (⟨B0,o0,none⟩:Addr)else some ⟨B0,o0+i1*11,none⟩)=tb
    have p9:=carry HQ.O.2 p9'
    have hVQ:(ps.take i++(ms++ps.drop i1)).map Pc.val=A++(dZ (ys.map λ y=>⟨y,dd⟩)++B):=by
     rw[List.map_append,List.map_append,HV.O.1,HV.O.2,HPV.O]
    have hLQ:(ps.take i++(ms++ps.drop i1)).length=i+m+(ps.length - i1):=by
     simp only[List.length_append,List.length_take,List.length_drop]
     rw[Nat.min_eq_left (aM HI.O),Yh.O];omega
    have SG:(ps.take i++(ms++ps.drop i1)).length+6*d<=500:=by
     rw[hLQ];have:=HI.O;have:=HM6.O;omega
    have lh:aT (qO (al bK) dd) ys its:=yJ HG.O.1 mK.O.1.1 mK.O.1.2.1 mK.O.1.2.2
    have bJ:Below w w w5:=iJ.O.T (HQ.O.2.mono iJ.O.size)
    first
     |(have:=zA;clear this
       have O3:0<=dd:=cG HG.O.2.2.2.1 Ap.O)
     |(have O3:(hh+1)<=dd:=cG HG.O.2.2.2.1 Ap.O)
    have Uc:ys.length=m:=HM6.O.2.symm
    cases first with
    |true=>
     rcases ys with _|⟨y0,yr⟩
     ·have:=HM6.O.1;simp at Uc;omega
     obtain⟨s0,sr,RS,JI,rfl⟩:=lh
     have HR:=af (Yi.O _ bJ _ _ _ HQ.O.1 A (dZ (yr.map λ y=>⟨y,dd⟩)++B) ⟨y0,dd⟩ s0 (by rw[hVQ];rfl) RS HG.O.2.2.2.1 (by have:=HG.O.2.2.2.2;show dd<=50;omega) SG i HI.O.2.2.2.2.2)
     rw[hLQ]at HR
     have HS:=cV JI bJ O3
     clear hVQ hLQ SG RS JI bJ O3
     go_wp2_with first
      |((with_reducible refine HR.O.mono ?_);rintro e w6 ⟨qs,q',kq,ky,rfl,j7,ny,ko,wE⟩
        have HZ:=jo j7 ny ko wE
        clear j7 ny ko wE)
      |fail
     go_ret
     exact⟨qs,q',kq,ky++dZ (yr.map λ y=>⟨y,dd⟩),rfl,by rw[HZ.O.1];simp,HZ.O.2.1,iz.first HS.O.2.2 HZ.O.2.2.1 HS.O.1,HS.O.2.1.T (HZ.O.2.2.2.mono HS.O.2.1.size)⟩
    |false=>
     rcases List.eq_nil_or_concat ys with h0|⟨yr,y0,rfl⟩
     ·subst h0;have:=HM6.O.1;simp at Uc;omega
     rw[List.concat_eq_append]at*
     obtain⟨sr,s0,JI,aaT,rfl⟩:=aT.app.1 lh
     have RS:=aT.one.1 aaT
     have HR:=af (Yi.O _ bJ _ _ _ HQ.O.1 (A++dZ (yr.map λ y=>⟨y,dd⟩)) B ⟨y0,dd⟩ s0 (by rw[hVQ];simp[dZ]) RS HG.O.2.2.2.1 (by have:=HG.O.2.2.2.2;show dd<=50;omega) SG i3 (by have:=HI3.O;have:=HI.O.2.2.2.2.2;simp[dZ]at Uc⊢;omega))
     rw[hLQ]at HR
     have HS:=cV JI bJ O3
     clear hVQ hLQ SG RS aaT JI bJ O3
     go_wp2_with first
      |((with_reducible refine HR.O.mono ?_);rintro e w6 ⟨qs,q',kq,ky,rfl,j7,ny,ko,wE⟩
        have HZ:=jo j7 ny ko wE
        clear j7 ny ko wE)
      |fail
     go_ret
     exact⟨qs,q',kq,dZ (yr.map λ y=>⟨y,dd⟩)++ky,rfl,by rw[HZ.O.1];simp,HZ.O.2.1,iz.last HS.O.2.2 HZ.O.2.2.1 HS.O.1,HS.O.2.1.T (HZ.O.2.2.2.mono HS.O.2.1.size)⟩):p:=h
namespace zsaA
abbrev wy:=Mk.mk 287
abbrev WO:=Mk.mk 221
abbrev O2:=Mk.mk 114
abbrev Ua:=Mk.mk 282
theorem zA:True:=trivial
end zsaA
section
open zsaA
open Go.Proofs.YtkgapncajjafoaaGreatDoor renaming GQ → aaQ, dU → aaR, lC → CQ, an → wD, Fc → WQ, nJ → Ub
open Go.Proofs.Tryz renaming func208 → WL, ntmps208 → WM
open Go.Proofs.YtkgapncajjafoaaGreatDoor.dU renaming AR → aaS
theorem vL(Bw:Nat)(bK:List Piece)(hm:Marks (al bK))(first:Bool)(ht:Nat)(Dd:ht=0):∀(d:Nat) {w:World} {b:Option Addr} {cf:Nat} (_:au w b cf bK) (_:fp w Bw b bK.length cf) {a:Option Addr} {c:Nat} {ps:List (Pc an)} (_:bU lC w a c ps) {A B:List (Pv an)} {r:aN} {its:List KV} (_:ps.map Pc.val=A++.kept r::B) (_:cW (al bK) r its) (_:r.h=ht+d) (_:r.h<=50) (_:ps.length+6*d<=500) (i:Nat) (_:i=A.length),
 Calls Tryz.prog 208 (YK (zp Bw) a ps.length c i ht first (.func (.func 144) (dW (zp Bw)) #[])) w λ e w'=>∃(qs:List (Pc an)) (q:Option Addr) (k:Nat) (ky:List (Pv an)),e= .returned (.slice q qs.length k)/\qs.map Pc.val=A++(ky++B)/\bU lC w' q k qs/\iz (al bK) zE 0 first its ky/\Below w w w':=aaP
end
theorem aaU(h:p:=by
 have HP:=af hP
 have C9:=af hb
 have Kx:(ps.length:Int)<=1000:=ag
 clear hP hb
 go_enter aaV,aaW
 go_wp2_with fail
 go_loopw [3,10] (λ rv iv wr=>∃(j:Nat) (qs:List (Pc pL)) (q:Option Addr) (k' n:Nat),j<=ps.length/\iv= .int .i64 (j:Int)/\rv= .slice q n k'/\Hid (qs.length=n)/\Hid (qs.map Pc.val=((ps.take j).map Pc.val).foldl bk [])/\Hid (mq yU SH lq w wr q k' qs)/\Hid (n<=j)) (λ _ iv _=>ps.length - (intOf iv).toNat)
 case atStart=>exact⟨0,[],none,0,0,ag,rfl,rfl,af rfl,af rfl,af ⟨dp,World.ownsRow_nil _ _ _ _, λ p hp=>by cases hp⟩,af (aW)⟩
 case round=>
  obtain⟨j,qs,q,k',n,hj,rfl,rfl,wM,QL,hP,QM⟩:=hrel
  by_cases bg:j<ps.length
  ·obtain⟨p,hp⟩:∃p,ps[j]? =some p:=⟨ps[j],by simp[bg]⟩
   obtain⟨B,o,rfl⟩:=HP.O.row.some_ ag
   have gy:(j:Int)<(ps.length:Int):=ag
   have rj:(j:Int)<=1000:=ag
   have Fe:=List.mem_of_getElem? hp
   have HJ:=af bg
   have HT:Hid ((ps.take (j+1)).map Pc.val=(ps.take j).map Pc.val++[p.val]):=af (by rw[List.take_add_one,hp];simp)
   rcases p with r|⟨pa,pc,ys⟩
   ·have hg:wr.rangeAt B (o+j*11) (oT r.k.ka r.k.key.length r.k.kc r.k.at_ r.k.count r.h):=(HP.O.row.below hP.O.base).get hp
    obtain⟨V,hV⟩:=aK (wr.alloc (.cells (oT r.k.ka r.k.key.length r.k.kc r.k.at_ r.k.count r.h) lq))
    have jA:Below wr wr V:=by rw[hV];go_grown
    have vu:V.heap.size=wr.heap.size+1:=by rw[hV];simp
    have jI:V.heap[wr.heap.size]? =some (.cells (oT r.k.ka r.k.key.length r.k.kc r.k.at_ r.k.count r.h) lq):=jJ hV
    have gR:=aj (W:=V) (B:=wr.heap.size) (cs:=(oT r.k.ka r.k.key.length r.k.kc r.k.at_ r.k.count r.h)) (t:=lq) jI
    have p0:V.cell? (za wr 0)=some (.bool true):=(aa jI 0).T rfl
    have xb:V.cell? (za wr 10)=some (.slice none 0 0):=(aa jI 10).T rfl
    have qi:=hP.O.other jA
    clear hp
    obtain⟨g',c',w',bt,qj⟩:=qi.put (P:=Tryz.prog) (TS:=SI) (z:=(.agg fe)) (bytes:=120) aO SJ rfl bd bd (.kept r) (Jm.of (HP.O.each _ Fe)) (cG wM.O QM.O)
    have HN:=af qj
    have vp:Hid ((qs++[(.kept r:Pc pL)]).map Pc.val=((ps.take (j+1)).map Pc.val).foldl bk []):=af (by rw[HT.O,List.foldl_append,<-QL.O,List.map_append];exact rfl)
    have qL:Hid ((qs++[(.kept r:Pc pL)]).length=n+1):=af (by rw[List.length_append,wM.O];rfl)
    rw[wM.O,vu]at bt
    simp only[Pc.cells,List.toArray]at bt
    rw[hV]at gR bt p0 xb
    clear hV jA vu jI qi Fe qj
    go_wp2_with first
     |(refine bh lq ?_)
     |(refine et lq ?_)
     |fail
    exact⟨⟨j+1,_,_,_,_,ag,by simp,rfl,qL,vp,HN,af (aM QM.O)⟩,by have:=HJ.O;simp[intOf];omega⟩
   ·rcases ys with _|⟨y0,ys0⟩
    ·have hg:wr.rangeAt B (o+j*11) (j6 pa 0 pc):=(HP.O.row.below hP.O.base).get hp
     obtain⟨V,hV⟩:=aK (wr.alloc (.cells (j6 pa 0 pc) lq))
     have jA:Below wr wr V:=by rw[hV];go_grown
     have HPV:=af (hP.O.other jA)
     have vp:Hid (qs.map Pc.val=((ps.take (j+1)).map Pc.val).foldl bk []):=af (by rw[HT.O,List.foldl_append,<-QL.O];rfl)
     rw[hV]at HPV
     clear hV jA Fe hp
     go_wp2_with first
      |(refine bh lq ?_)
      |(refine et lq ?_)
      |fail
     exact⟨⟨j+1,_,_,_,_,HJ.O,by simp,rfl,wM,vp,HPV,af (aM QM.O)⟩,by have:=HJ.O;simp[intOf];omega⟩
    ·obtain⟨ys,xF⟩:=aK (y0::ys0)
     rw[<-xF]at hp Fe HT
     have lA:1<=ys.length:=by rw[xF];simp
     have Gm:ys.length<=1000:=Nat.le_trans (Et (List.mem_map.2 ⟨_,Fe,rfl⟩)) C9.O
     have hy0:((ys.length:Int)==0)=false:=by rw[beq_eq_false_iff_ne];omega
     have adF:¬ ys.length=0:=ag
     have adG:(ys.length==0)=false:=by rw[beq_eq_false_iff_ne];omega
     have HY:=cj lA Gm
     clear xF lA Gm
     have hg:wr.rangeAt B (o+j*11) (j6 pa ys.length pc):=(HP.O.row.below hP.O.base).get hp
     obtain⟨V,hV⟩:=aK (wr.alloc (.cells (j6 pa ys.length pc) lq))
     have jA:Below wr wr V:=by rw[hV];go_grown
     have vu:V.heap.size=wr.heap.size+1:=by rw[hV];simp
     have jI:V.heap[wr.heap.size]? =some (.cells (j6 pa ys.length pc) lq):=jJ hV
     have gR:=aj (W:=V) (B:=wr.heap.size) (cs:=(j6 pa ys.length pc)) (t:=lq) jI
     have p0:V.cell? (za wr 0)=some (.bool false):=(aa jI 0).T rfl
     have xb:V.cell? (za wr 10)=some (.slice pa ys.length pc):=(aa jI 10).T rfl
     have qi:=hP.O.other jA
     clear hp
     rcases GW (qs:=qs)with rfl|⟨o2,r2,rfl⟩|⟨o2,za,zc,zs,rfl⟩
     ·obtain rfl:n=0:=by have:=wM.O;simpa using this.symm
      obtain⟨qs,Wz⟩:∃qs:List (Pc pL),qs=[]:=⟨_,rfl⟩
      have HQ:Hid (qs=[]):=af Wz
      rw[<-Wz]at wM QL hP qi
      obtain⟨g',c',w',bt,qj⟩:=qi.put (P:=Tryz.prog) (TS:=SI) (z:=(.agg fe)) (bytes:=120) aO SJ rfl bd bd (.loose pa pc ys) (Jm.of (HP.O.each _ Fe)) (cG wM.O QM.O)
      have HN:=af qj
      have vp:Hid ((qs++[(.loose pa pc ys:Pc pL)]).map Pc.val=((ps.take (j+1)).map Pc.val).foldl bk []):=af (by rw[HT.O,List.foldl_append,<-QL.O,List.map_append];exact(cT HY.O.1 (.inl (by rw[HQ.O];rfl))).symm)
      have qL:Hid ((qs++[(.loose pa pc ys:Pc pL)]).length=0+1):=af (by rw[List.length_append,wM.O];rfl)
      rw[wM.O,vu]at bt
      simp only[Pc.cells,List.toArray]at bt
      rw[hV]at gR bt p0 xb
      clear hV jA vu jI qi Fe qj
      go_wp2_with first
       |(refine bh lq ?_)
       |(refine et lq ?_)
       |fail
      exact⟨⟨j+1,_,_,_,_,ag,by simp,rfl,qL,vp,HN,af (aM QM.O)⟩,by have:=HJ.O;simp[intOf];omega⟩
     ·obtain⟨m,rfl⟩:∃m,n=m+1:=⟨o2.length,by rw[<-wM.O];simp⟩
      obtain⟨g,hgq⟩:∃g,q=some ⟨g,0,none⟩:=by
       rcases ay hP.O.row with⟨_,h,_⟩|⟨g,_,h,_⟩
       ·simp at h
       ·exact⟨g,h⟩
      subst hgq
      have zF:o2.length=m:=by have:=wM.O;simpa using this
      have qq:(o2++[(Pc.kept r2:Pc pL)]).flatMap Pc.cells=o2.flatMap Pc.cells++(Pc.kept r2:Pc pL).cells:=by simp
      have hz:= λ (i:Nat) (hi:i<11)=>xV (i:=m*11+i) qi.row (by rw[dB];(simp[zF]<;>omega))
      have WS:∀(i:Nat) (hi:i<11),((o2++[(Pc.kept r2:Pc pL)]).flatMap Pc.cells)[m*11+i]'(by rw[dB];(simp[zF]<;>omega))=(Pc.kept r2:Pc pL).cells[i]'(by rw[Pc.len];exact hi):= λ i hi=>by
       simp only[qq]
       rw[List.getElem_append_right (by rw[dB,zF];omega)]
       congr 1
       rw[dB,zF];omega
      have z0:V.cell? ⟨g,m*11,none⟩=some (.bool true):=((hz 0 bd).1).T (by rw[WS 0 bd];rfl)
      obtain⟨qs,Wz⟩:∃qs:List (Pc pL),qs=o2++[.kept r2]:=⟨_,rfl⟩
      have HQ:Hid (qs=o2++[.kept r2]):=af Wz
      have hmi:IntKind.i64.wrap (m:Int)=(m:Int):=by rw[IntKind.wrap_i64];have:=QM.O;omega
      have tJ:(0:Int)<(m:Int)+1:=ag
      rw[<-Wz]at wM QL hP qi
      clear zF Wz qq hz WS
      rw[hV]at z0
      obtain⟨g',c',w',bt,qj⟩:=qi.put (P:=Tryz.prog) (TS:=SI) (z:=(.agg fe)) (bytes:=120) aO SJ rfl bd bd (.loose pa pc ys) (Jm.of (HP.O.each _ Fe)) (cG wM.O QM.O)
      have HN:=af qj
      have vp:Hid ((qs++[(.loose pa pc ys:Pc pL)]).map Pc.val=((ps.take (j+1)).map Pc.val).foldl bk []):=af (by rw[HT.O,List.foldl_append,<-QL.O,List.map_append];exact(cT HY.O.1 (.inr ⟨_,r2,by rw[HQ.O,List.map_append];rfl⟩)).symm)
      have qL:Hid ((qs++[(.loose pa pc ys:Pc pL)]).length=m+1+1):=af (by rw[List.length_append,wM.O];rfl)
      rw[wM.O,vu]at bt
      simp only[Pc.cells,List.toArray]at bt
      rw[hV]at gR bt p0 xb
      clear hV jA vu jI qi Fe qj
      go_wp2_with first
       |(refine bh lq ?_)
       |(refine et lq ?_)
       |fail
      exact⟨⟨j+1,_,_,_,_,ag,by simp,rfl,qL,vp,HN,af (aM QM.O)⟩,by have:=HJ.O;simp[intOf];omega⟩
     ·obtain⟨m,rfl⟩:∃m,n=m+1:=⟨o2.length,by rw[<-wM.O];simp⟩
      obtain⟨g,hgq⟩:∃g,q=some ⟨g,0,none⟩:=by
       rcases ay hP.O.row with⟨_,h,_⟩|⟨g,_,h,_⟩
       ·simp at h
       ·exact⟨g,h⟩
      subst hgq
      have zF:o2.length=m:=by have:=wM.O;simpa using this
      have qq:(o2++[Pc.loose za zc zs]).flatMap Pc.cells=o2.flatMap Pc.cells++(Pc.loose za zc zs).cells:=by simp
      have hz:= λ (i:Nat) (hi:i<11)=>xV (i:=m*11+i) qi.row (by rw[dB];(simp[zF]<;>omega))
      have WS:∀(i:Nat) (hi:i<11),((o2++[Pc.loose za zc zs]).flatMap Pc.cells)[m*11+i]'(by rw[dB];(simp[zF]<;>omega))=(Pc.loose za zc zs).cells[i]'(by rw[Pc.len];exact hi):= λ i hi=>by
       simp only[qq]
       rw[List.getElem_append_right (by rw[dB,zF];omega)]
       congr 1
       rw[dB,zF];omega
      have z0:V.cell? ⟨g,m*11,none⟩=some (.bool false):=((hz 0 bd).1).T (by rw[WS 0 bd];rfl)
      have CR:V.cell? ⟨g,m*11+10,none⟩=some (.slice za zs.length zc):=((hz 10 bd).1).T (by rw[WS 10 bd];rfl)
      have hzj:Jm yU SH w.heap.size w V (.loose za zc zs):=qi.each _ aR
      have hzL:ec yU V za zc zs:=hzj.fin qi.base
      have hyL:ec yU V pa pc ys:=(HP.O.each _ Fe).below qi.base
      have Yj:∀y∈zs,(yU).gp w y:=by
       rcases hzj with h|⟨_,h⟩
       ·exact h.gp
       ·exact h
      have QN:zs.length<=1000:=by
       have h1:bu ((o2++[Pc.loose za zc zs]).map Pc.val)<=bu (ps.map Pc.val):=by
        rw[QL.O,ur,bu,Nat.zero_add]
        conv=>rhs;rw[<-List.take_append_drop j ps,List.map_append,cH]
        omega
       exact Nat.le_trans (Et (List.mem_map.2 ⟨.loose za zc zs,by simp,rfl⟩)) (Nat.le_trans h1 C9.O)
      have oO:=hzL.row.src hzL.plain (yU).VV (yU).pos
      have G0:=hyL.row.src hyL.plain (yU).VV (yU).pos
      first
       |(have:=zA;clear this
         obtain⟨cap,w',bt,ja,eW,gu⟩:=vx (P:=Tryz.prog) 108 114 (.agg iT) 4 64 aO mS rfl (W:=V.drew) (b:=za) (src:=pa) (k:=zs.length) (m:=ys.length) (cc:=pc) (by exact sJ lC zs) oO (by exact sJ lC ys) G0 (aM HY.O.1) (cG HY.O.2 QN) bd)
       |(obtain⟨cap,w',bt,ja,eW,gu⟩:=vx (P:=Tryz.prog) 167 175 (.agg BJ) 8 80 aO Ci rfl (W:=V.drew) (b:=za) (src:=pa) (k:=zs.length) (m:=ys.length) (cc:=pc) (by exact sJ r9 zs) oO (by exact sJ r9 ys) G0 (aM HY.O.1) (cG HY.O.2 QN) bd)
      rw[show V.drew.heap.size=wr.heap.size+1 from vu]at bt eW
      have hgn:w.heap.size<=g:=by
       rcases ay qi.row with⟨h,_⟩|⟨g2,_,h,h2,_⟩
       ·cases h
       ·cases h;exact h2
      obtain⟨aaX,U2⟩:∃aaX,V.heap[g]? =some (.cells aaX lq (0,0)):=by
       rcases ay qi.row with⟨h,_⟩|⟨g2,gc,h,_,h3⟩
       ·cases h
       ·cases h;exact⟨gc,h3⟩
      have O4:Below V V w':=((Below.refl _ V).drew).T gu
      have XQ:=(O4.block g (aX U2).1).T U2
      have O5:w'.ownsRow w lq 11 (.slice (zp g) (o2++[Pc.loose za zc zs]).length k') (o2++[Pc.loose za zc zs]).length ((o2++[Pc.loose za zc zs]).flatMap Pc.cells):=bO.row (n₀:=w.heap.size) O4 qi.row
      have hwc:=xV (i:=m*11+10) O5 (by rw[dB];(simp[zF]<;>omega))
      have hot:eu lq V (w'.setCell ⟨g,m*11+10,none⟩ (.slice (zp (wr.heap.size+1)) (zs.length+ys.length) cap)):=(eu.aA O4).T (eu.set XQ _)
      have c0:w'.cell? ⟨g,m*11+10,none⟩=some (.slice za zs.length zc):=hwc.1.T (by rw[WS 10 bd];rfl)
      have c1:w'.frozen? ⟨g,m*11+10,none⟩=false:=hwc.2
      have HN:Hid (mq yU SH lq w (w'.setCell ⟨g,m*11+10,none⟩ (.slice (zp (wr.heap.size+1)) (zs.length+ys.length) cap)) (zp g) k' (o2++[.loose (zp (wr.heap.size+1)) cap (zs++ys)])):=af (by
       refine⟨(qi.base.T (O4.mono qi.base.size)).setCell (p:=⟨g,m*11+10,none⟩) hgn _,?_, λ p hp=>?_⟩
       ·have h1:=RL (i:=m*11+10) O5 (.slice (zp (wr.heap.size+1)) (zs.length+ys.length) cap)
        have h2:((o2++[Pc.loose za zc zs]).flatMap Pc.cells).set (m*11+10) (.slice (zp (wr.heap.size+1)) (zs.length+ys.length) cap)=(o2++[(Pc.loose (zp (wr.heap.size+1)) cap (zs++ys):Pc pL)]).flatMap Pc.cells:=by
         rw[qq,List.set_append_right _ _ (by rw[dB,zF];omega),dB,zF,show m*11+10 - m*11=10 by omega]
         simp[Pc.cells]
        rw[h2]at h1
        simpa using h1
       ·rcases List.mem_append.1 hp with e|e
        ·exact(qi.each p (List.mem_append_left _ e)).other hot bd
        ·rw[List.mem_singleton]at e
         subst e
         refine .inr ⟨?_, λ y hy=>?_⟩
         ·have h3:=(eu.set (i:=m*11+10) XQ (.slice (zp (wr.heap.size+1)) (zs.length+ys.length) cap)).row bd eW
          rw[List.flatMap_append,List.length_append]
          exact mT h3 (aM qi.base.size)
         ·rcases List.mem_append.1 hy with e|e
          ·exact Yj y e
          ·exact(HP.O.each _ Fe).gp y e)
      have vp:Hid ((o2++[(.loose (zp (wr.heap.size+1)) cap (zs++ys):Pc pL)]).map Pc.val=((ps.take (j+1)).map Pc.val).foldl bk []):=af (by
       rw[HT.O,List.foldl_append,<-QL.O,List.map_append,List.map_append]
       exact(dH HY.O.1).symm)
      have qL:Hid ((o2++[(.loose (zp (wr.heap.size+1)) cap (zs++ys):Pc pL)]).length=m+1):=af (by simp[zF])
      have hmi:IntKind.i64.wrap (m:Int)=(m:Int):=by rw[IntKind.wrap_i64];have:=QM.O;omega
      have tJ:(0:Int)<(m:Int)+1:=ag
      have hzc:zs.length<=zc:=hzL.cap
      have zO:(m:Int)<(m:Int)+1:=ag
      rw[hV]at gR bt p0 xb z0 CR
      clear hV jA vu jI qi Fe qq hz WS hzj hzL hyL Yj QN oO G0 ja eW gu hgn U2 O4 XQ O5 hwc hot zF wM QL hP
      go_wp2_with first
       |(refine bh lq ?_)
       |(refine et lq ?_)
       |fail
      refine bP 15 ?_
      refine tP [0,1,2,3,4,5,6,7,8,9,10] ?_
      iterate 11 refine tO ?_
      refine ah 4 rfl ?_
      refine sP 11 [3,4,5,6,7,8,9,10] λ K hK=>?_
      go_simp
      refine nP hK ?_
      clear hK K
      refine tP [12,13] ?_
      iterate 2 refine tO ?_
      refine ah 1 rfl ?_
      refine sP 14 [0,1,2,3,4,5,6,7,8,9,10,11,12,13] λ K hK=>?_
      go_simp
      refine nP hK ?_
      clear hK K
      refine dP ?_
      go_simp
      go_wp2_with fail
      exact⟨⟨j+1,_,_,_,_,ag,by simp,rfl,qL,vp,HN,af (aM QM.O)⟩,by have:=HJ.O;simp[intOf];omega⟩
  ·obtain rfl:j=ps.length:=ag
   go_wp2_with fail
   go_ret
   refine⟨qs,q,k',by rw[wM.O];rfl,by rw[QL.O,List.take_length];rfl,hP.O.fin,hP.O.base⟩):p:=h
namespace zscA
abbrev SH:=Mk.mk 114
abbrev lq:=Mk.mk 287
abbrev SI:=Mk.mk 282
theorem zA:True:=trivial
end zscA
section
open zscA
open Go.Proofs.Tryz renaming func207 → aaV, ntmps207 → aaW
open Go.Proofs.YtkgapncajjafoaaGreatDoor renaming an → pL, lC → yU, nJ → SJ
theorem vM{ps:List (Pc an)}(hP:bU lC w a c ps)(hl:ps.length<=1000)(hb:bu (ps.map Pc.val)<=1000):
 Calls Tryz.prog 207 (jE a ps.length c) w λ e w'=>∃(qs:List (Pc an)) (q:Option Addr) (k:Nat),e= .returned (.slice q qs.length k)/\qs.map Pc.val=lP (ps.map Pc.val)/\bU lC w' q k qs/\Below w w w':=aaU
end
theorem ql:∀(x:an) (s:List KV),zE x s->1<=s.length:= λ _ s h=>by unfold zE at h;rw[h];exact aW
theorem aaY(h:p:=by
 have Ap:=af Dd
 have HM:=af hm
 have Im:=af fy
 have sa:=cj hF hW
 have Dp:bu (ps.map Pc.val)<=200:=aM (nT O6 hs)
 have HJ:=af (SK hP ag ag)
 have oG:=af (lj.start hs)
 have Kx:(ps.length:Int)<=200:=ag
 clear Dd hm fy hF hW hP hs Dp
 go_enter aaZ,aa0
 go_wp2_with fail
 go_step3
 go_wp2_with first
  |((with_reducible refine HJ.O.mono ?_);rintro e w1 ⟨qs,q,k0,rfl,GS,KJ,LM⟩
    have Ud:=cV GS KJ LM
    clear GS KJ LM)
  |fail
 go_step3
 go_wp2_with fail
 first
  |(have:=zA;clear this
    go_loopw [1] (λ rv wr=>∃(qs:List (Pc an)) (q:Option Addr) (k:Nat),rv= .slice q qs.length k/\Hid (bU lC wr q k qs)/\Hid (lj (al bK) zE 0 (ps.map Pc.val) (qs.map Pc.val) its)/\Hid (Below w w wr)) (λ rv wr=>nV wr rv))
  |(go_loopw [1] (λ rv wr=>∃(qs:List (Pc aw)) (q:Option Addr) (k:Nat),rv= .slice q qs.length k/\Hid (bU r9 wr q k qs)/\Hid (lj (al bK) (qO (al bK) hh) (hh+1) (ps.map Pc.val) (qs.map Pc.val) its)/\Hid (Below w w wr)) (λ rv wr=>nV wr rv))
 case atStart=>exact⟨qs,q,k0,rfl,af Ud.O.2.1,af (by rw[Ud.O.1];exact oG.O),af Ud.O.2.2⟩
 case round=>
  obtain⟨W1,rfl⟩:=aK wr
  obtain⟨qs,q,k0,rfl,HP,HR,lJ⟩:=hrel
  have Ue:qs.length<=200:=by have h1:=HR.O.len O6;rw[List.length_map]at h1;have:=Im.O;omega
  have hq6:(qs.length:Int)<=200:=ag
  have c5:W1.cell? (za Bw 5)=some (.int .i64 0):=(aa (sa.O.2.below lJ.O) 5).T rfl
  by_cases h1:qs.length<=1
  ·have Qx:decide ((1:Int)<(qs.length:Int))=false:=bV
   have acu:decide (1<qs.length)=false:=bV
   have acv:¬ (1:Int)<(qs.length:Int):=ag
   have H1:=af h1
   clear h1
   go_wp2_with fail
   go_ret
   exact⟨qs,q,k0,rfl,HP.O,HR.O,.inr H1.O,lJ.O⟩
  ·have Qx:decide ((1:Int)<(qs.length:Int))=true:=bV
   have acu:decide (1<qs.length)=true:=bV
   have acv:(1:Int)<(qs.length:Int):=ag
   have qL:=af (show 1<qs.length/\qs.length<=200 by omega)
   obtain⟨B0,o0,rfl⟩:=HP.O.row.some_ ag
   clear h1 Ue
   go_wp2_with fail
   go_loopw [1,25] (λ tv iv W2_=>∃i:Nat,i<=qs.length/\iv= .int .i64 (i:Int)/\tv= .slice (some ⟨B0,o0,none⟩) qs.length k0/\Hid (Below W1 W1 W2_)/\Hid (∀(j:Nat) (p:Pv WU),j<i->(qs.map Pc.val)[j]? =some p->isSmall p=false)) (λ _ iv _=>qs.length - (intOf iv).toNat)
   case atStart=>exact⟨0,ag,rfl,rfl,af (dp),af (λ j p hj=>ag)⟩
   case round=>
    obtain⟨i,hi,rfl,rfl,da,km⟩:=hrel
    by_cases bg:i<qs.length
    ·obtain⟨p,hp⟩:∃p,qs[i]? =some p:=⟨qs[i],by simp[bg]⟩
     have zG:(qs.map Pc.val)[i]? =some p.val:=by rw[List.getElem?_map,hp];rfl
     have gy:(i:Int)<(qs.length:Int):=ag
     have rj:(i:Int)<=200:=ag
     have Gb:isSmall p.val=false->∀(j:Nat) (p':Pv WU),j<i+1->(qs.map Pc.val)[j]? =some p'->isSmall p'=false:= λ h j p' hj ar=>by
      rcases Nat.lt_or_ge j i with h2|h2
      ·exact km.O j p' h2 ar
      ·obtain rfl:j=i:=ag
       rw[zG]at ar;cases ar;exact h
     have Gb:=af Gb
     rcases p with r|⟨pa,pc,ys⟩
     ·have hg:wr.rangeAt B0 (o0+i*11) (oT r.k.ka r.k.key.length r.k.kc r.k.at_ r.k.count r.h):=(HP.O.row.below da.O).get hp
      obtain⟨V,hV⟩:=aK (wr.alloc (.cells (oT r.k.ka r.k.key.length r.k.kc r.k.at_ r.k.count r.h) rN))
      have jA:Below wr wr V:=by rw[hV];go_grown
      have oK:Below W1 W1 V:=da.O.T (jA.mono da.O.size)
      have jI:V.heap[wr.heap.size]? =some (.cells (oT r.k.ka r.k.key.length r.k.kc r.k.at_ r.k.count r.h) rN):=jJ hV
      have p0:V.cell? (za wr 0)=some (.bool true):=(aa jI 0).T rfl
      have xb:V.cell? (za wr 10)=some (.slice none 0 0):=(aa jI 10).T rfl
      have eP:=af oK
      clear hp zG jA oK jI
      have NX:=af (Gb.O rfl)
      rw[hV]at p0 xb eP
      clear hV Gb
      go_wp2_with first
       |(refine bh rN ?_)
       |(refine et rN ?_)
       |fail
      exact⟨⟨i+1,ag,by simp,rfl,eP,NX⟩,by simp[intOf];omega⟩
     ·by_cases hy:3<=ys.length
      ·have F6:decide ((3:Int)<=(ys.length:Int))=true:=bV
       have acw:(3:Int)<=(ys.length:Int):=ag
       have hg:wr.rangeAt B0 (o0+i*11) (j6 pa ys.length pc):=(HP.O.row.below da.O).get hp
       obtain⟨V,hV⟩:=aK (wr.alloc (.cells (j6 pa ys.length pc) rN))
       have jA:Below wr wr V:=by rw[hV];go_grown
       have oK:Below W1 W1 V:=da.O.T (jA.mono da.O.size)
       have jI:V.heap[wr.heap.size]? =some (.cells (j6 pa ys.length pc) rN):=jJ hV
       have p0:V.cell? (za wr 0)=some (.bool false):=(aa jI 0).T rfl
       have xb:V.cell? (za wr 10)=some (.slice pa ys.length pc):=(aa jI 10).T rfl
       have eP:=af oK
       have NX:=af (Gb.O (by simp[isSmall,Pc.val];omega))
       clear hp zG jA oK jI hy
       rw[hV]at p0 xb eP
       clear hV Gb
       go_wp2_with first
        |(refine bh rN ?_)
        |(refine et rN ?_)
        |fail
       exact⟨⟨i+1,ag,by simp,rfl,eP,NX⟩,by simp[intOf];omega⟩
      ·have F6:decide ((3:Int)<=(ys.length:Int))=false:=bV
       have acw:¬ (3:Int)<=(ys.length:Int):=ag
       have Qn:Hid (ys.length<3):=af ag
       obtain⟨i1,tZ⟩:=aK (i+1)
       have iU:IntKind.i64.wrap ((i:Int)+1)=(i1:Int):=by rw[IntKind.wrap_i64];omega
       have Bo:=af tZ
       have hg:wr.rangeAt B0 (o0+i*11) (j6 pa ys.length pc):=(HP.O.row.below da.O).get hp
       obtain⟨V,hV⟩:=aK (wr.alloc (.cells (j6 pa ys.length pc) rN))
       have jA:Below wr wr V:=by rw[hV];go_grown
       have oK:Below W1 W1 V:=da.O.T (jA.mono da.O.size)
       have jI:V.heap[wr.heap.size]? =some (.cells (j6 pa ys.length pc) rN):=jJ hV
       have p0:V.cell? (za wr 0)=some (.bool false):=(aa jI 0).T rfl
       have xb:V.cell? (za wr 10)=some (.slice pa ys.length pc):=(aa jI 10).T rfl
       have eP:=af oK
       by_cases sj:i1<qs.length
       ·have VS:(i1:Int)<(qs.length:Int):=ag
        clear tZ hy Gb
        obtain⟨A,r,B,a1,sy,s1,sb,lO,Ij,dm,fZ,iU,Aw,nb,kC⟩:=LB HR.O.Gf HR.O.tidy zG (by rw[List.length_map];have:=Bo.O;omega)
        have Io:r.h<=50:=E6 iU (by have:=Im.O;rw[kC]at this;simp only[List.length_append]at this;omega)
        have gu:Below w w V:=lJ.O.T (oK.mono lJ.O.size)
        first
         |(have:=zA;clear this
           have HO:=af (vL Bw bK HM.O true ht Ap.O (r.h - ht) (sa.O.1.below gu) (sa.O.2.below gu) (HP.O.below oK) (A:=A++[Pv.loose ys]) (B:=B) (r:=r) (its:=s1) (by rw[lO];simp) iU (aM Ap.O) Io (aM qL.O) i1 (by simp[Ij,Bo.O])))
         |(have HO:=af (vN Bw bK HM.O true ht hh Ap.O (r.h - ht) (sa.O.1.below gu) (sa.O.2.below gu) (HP.O.below oK) (A:=A++[Pv.loose ys]) (B:=B) (r:=r) (its:=s1) (by rw[lO];simp) iU (aM Ap.O) Io (aM qL.O) i1 (by simp[Ij,Bo.O])))
        first
         |(have:=zA;clear this
           have ry:=af (λ (ky:List (Pv an)) (ko:iz (al bK) zE 0 true s1 ky)=>yO ql HR.O.tidy lO Qn.O dm fZ ko nb kC))
         |(have ry:=af (λ (ky:List (Pv aw)) (ko:iz (al bK) (qO (al bK) hh) (hh+1) true s1 ky)=>yO tw HR.O.tidy lO Qn.O dm fZ ko nb kC))
        have O7:=af gu
        have TO:=af hV
        rw[hV]at p0 xb HO
        clear hp zG hV jA oK jI lO dm fZ iU Aw nb kC Io gu Ij
        go_wp2_with first
         |(refine bh rN ?_)
         |(refine et rN ?_)
         |((with_reducible refine HO.O.mono ?_);rintro e w5 ⟨qs2,q2,k2,ky,rfl,j7,ny,ko,wE⟩
           have xR:=ry.O ky ko
           rw[<-TO.O]at wE
           have bJ:Below w w w5:=O7.O.T (wE.mono O7.O.size)
           have oD:qs2.length<=200:=by have h1:=xR.2.1;rw[<-j7,List.length_map]at h1;have:=Im.O;omega
           have Dp:bu (qs2.map Pc.val)<=200:=by
            have h1:=nT O6 xR.1
            rw[<-j7]at h1;have:=Im.O;omega
           have Tz:=af (SK ny ag ag)
           have Ff:=cV j7 xR bJ
           clear j7 ny ko wE xR bJ oD Dp)
         |((with_reducible refine Tz.O.mono ?_);rintro e w6 ⟨qs3,q3,k3,rfl,GS,KJ,LM⟩
           have DD:=cV GS KJ LM
           clear GS KJ LM)
         |fail
        refine⟨⟨qs3,q3,k3,rfl,af DD.O.2.1,af ?_,af (Ff.O.2.2.T (DD.O.2.2.mono Ff.O.2.2.size))⟩,?_⟩
        ·rw[DD.O.1,Ff.O.1];exact HR.O.next Ff.O.2.1.1 Ff.O.2.1.2.2.2
        ·show nV _ (.slice q3 qs3.length k3)<nV _ (.slice (some ⟨B0,o0,none⟩) qs.length k0)
         rw[qh DD.O.2.1,qh HP.O,DD.O.1,Ff.O.1]
         exact Ff.O.2.1.2.2.1
       ·have VS:¬ (i1:Int)<(qs.length:Int):=ag
        obtain⟨i0,ou⟩:∃i0,i0+1=i:=⟨i - 1,by have:=qL.O;omega⟩
        have Aw:IntKind.i64.wrap ((i:Int) - 1)=(i0:Int):=by rw[IntKind.wrap_i64];omega
        have Su:=af ou
        clear tZ hy Gb
        obtain⟨A,r,a1,s1,sy,lO,Ij,dm,fZ,iU,acx,kC⟩:=OO (i:=i0) HR.O.Gf HR.O.tidy (by rw[Su.O];exact zG) (by rw[List.length_map];have:=Su.O;have:=Bo.O;omega)
        have Io:r.h<=50:=E6 iU (by have:=Im.O;rw[kC]at this;simp only[List.length_append]at this;omega)
        have gu:Below w w V:=lJ.O.T (oK.mono lJ.O.size)
        first
         |(have:=zA;clear this
           have HO:=af (vL Bw bK HM.O false ht Ap.O (r.h - ht) (sa.O.1.below gu) (sa.O.2.below gu) (HP.O.below oK) (A:=A) (B:=[Pv.loose ys]) (r:=r) (its:=s1) lO iU (aM Ap.O) Io (aM qL.O) i0 ag))
         |(have HO:=af (vN Bw bK HM.O false ht hh Ap.O (r.h - ht) (sa.O.1.below gu) (sa.O.2.below gu) (HP.O.below oK) (A:=A) (B:=[Pv.loose ys]) (r:=r) (its:=s1) lO iU (aM Ap.O) Io (aM qL.O) i0 ag))
        first
         |(have:=zA;clear this
           have ry:=af (λ (ky:List (Pv an)) (ko:iz (al bK) zE 0 false s1 ky)=>Bj ql HR.O.tidy lO Qn.O dm fZ ko kC))
         |(have ry:=af (λ (ky:List (Pv aw)) (ko:iz (al bK) (qO (al bK) hh) (hh+1) false s1 ky)=>Bj tw HR.O.tidy lO Qn.O dm fZ ko kC))
        have O7:=af gu
        have TO:=af hV
        rw[hV]at p0 xb HO
        clear hp zG hV jA oK jI lO dm fZ iU acx kC Io gu Ij
        go_wp2_with first
         |(refine bh rN ?_)
         |(refine et rN ?_)
         |((with_reducible refine HO.O.mono ?_);rintro e w5 ⟨qs2,q2,k2,ky,rfl,j7,ny,ko,wE⟩
           have xR:=ry.O ky ko
           rw[<-TO.O]at wE
           have bJ:Below w w w5:=O7.O.T (wE.mono O7.O.size)
           have oD:qs2.length<=200:=by have h1:=xR.2.1;rw[<-j7,List.length_map]at h1;have:=Im.O;omega
           have Dp:bu (qs2.map Pc.val)<=200:=by
            have h1:=nT O6 xR.1
            rw[<-j7]at h1;have:=Im.O;omega
           have Tz:=af (SK ny ag ag)
           have Ff:=cV j7 xR bJ
           clear j7 ny ko wE xR bJ oD Dp)
         |((with_reducible refine Tz.O.mono ?_);rintro e w6 ⟨qs3,q3,k3,rfl,GS,KJ,LM⟩
           have DD:=cV GS KJ LM
           clear GS KJ LM)
         |fail
        refine⟨⟨qs3,q3,k3,rfl,af DD.O.2.1,af ?_,af (Ff.O.2.2.T (DD.O.2.2.mono Ff.O.2.2.size))⟩,?_⟩
        ·rw[DD.O.1,Ff.O.1];exact HR.O.next Ff.O.2.1.1 Ff.O.2.1.2.2.2
        ·show nV _ (.slice q3 qs3.length k3)<nV _ (.slice (some ⟨B0,o0,none⟩) qs.length k0)
         rw[qh DD.O.2.1,qh HP.O,DD.O.1,Ff.O.1]
         exact Ff.O.2.1.2.2.1
    ·obtain rfl:i=qs.length:=ag
     have HZ:Hid (bC (qs.map Pc.val)=0):=af (LC λ j p hj hp=>km.O j p (by simpa using hj) hp)
     go_wp2_with fail
     rw[Exit.noGoto_ret]
     go_ret
     exact⟨qs,_,k0,rfl,HP.O.below da.O,HR.O,.inl HZ.O,lJ.O.T (da.O.mono lJ.O.size)⟩):p:=h
namespace zsdA
abbrev rN:=Mk.mk 287
theorem zA:True:=trivial
end zsdA
section
open zsdA
open Go.Proofs.YtkgapncajjafoaaGreatDoor renaming ql → O6, vM → SK, an → WU
open Go.Proofs.Tryz renaming func184 → aaZ, ntmps184 → aa0
theorem LN(Bw:Nat)(bK:List Piece)(hm:Marks (al bK))(ht:Nat)(Dd:ht=0)(hF:au w b cf bK)(hW:fp w Bw b bK.length cf){ps:List (Pc an)}(hP:bU lC w a c ps)(hs:aT (nk (al bK) zE 0) (ps.map Pc.val) its)(hl:ps.length<=200)(fy:its.length<=200):
 Calls Tryz.prog 184 (YM (zp Bw) a ps.length c ht (.func (.func 144) (dW (zp Bw)) #[])) w λ e w'=>∃(qs:List (Pc an)) (q:Option Addr) (k:Nat),e= .returned (.slice q qs.length k)/\bU lC w' q k qs/\lj (al bK) zE 0 (ps.map Pc.val) (qs.map Pc.val) its/\(bC (qs.map Pc.val)=0\/qs.length<=1)/\Below w w w':=aaY
end
theorem aa2(h:p:=by
 have Ap:=af Dd
 have gD:=jo fy fG wK dX
 have HM:=af hm
 first
  |(have:=zA;clear this
    have Uf:=af (LN Bw bK hm ht Dd hF hW hP hs hl fy))
  |(have Uf:=af (LO Bw bK hm ht hh Dd hF hW hP hs hl fy))
 have sa:=cj hF hW
 first
  |(have:=zA;clear this
    have RC:=af (λ (V':List (Pv an)) (h:lj (al bK) zE 0 (ps.map Pc.val) V' its) (h':bC V'=0\/V'.length<=1)=>OY (t:=1) (.inl rfl) h h'))
  |(have RC:=af (λ (V':List (Pv aw)) (h:lj (al bK) (qO (al bK) hh) (hh+1) (ps.map Pc.val) V' its) (h':bC V'=0\/V'.length<=1)=>OY (t:=2) (.inr ⟨rfl,h2⟩) h h'))
 first
  |(have:=zA;clear this
    clear Dd fy fG wK dX hm hF hW hP hs hl)
  |(clear Dd fy fG wK dX hm hF hW hP hs hl h2)
 go_enter aa3,aa4
 go_wp2_with first
  |((with_reducible refine Uf.O.mono ?_);rintro e w1 ⟨qs,q0,k0,rfl,hQ,hR,su,aQ⟩
    have HQ:=jo hQ hR su aQ
    clear hQ hR su aQ)
  |fail
 obtain⟨f,XJ,Jf,Mo,GC⟩:=RC.O _ HQ.O.2.1 (by rw[List.length_map];exact HQ.O.2.2.1)
 have Qk:=jo XJ Jf Mo GC
 have Ue:qs.length<=200:=by have h1:=HQ.O.2.1.len aa5;rw[List.length_map]at h1;have:=gD.O.1;omega
 have hq6:(qs.length:Int)<=200:=ag
 have qF:=sa.O.2.below HQ.O.2.2.2
 have kg:=af qF
 first
  |(have:=zA;clear this
    have oG:Hid (jQ Bw w1 w1 b cf bK none 0 []/\qB (al bK) zE ht f (al bK) (al bK).length (qs.map Pc.val) [] 0 its):=af ⟨jQ.start qF (sa.O.1.below HQ.O.2.2.2) HM.O,qB.start (by have h:=HQ.O.2.1.Gf;have e:=Ap.O;rw[e];exact h) (GC.imp id λ h=>h.1)⟩)
  |(have oG:Hid (jQ Bw w1 w1 b cf bK none 0 []/\qB (al bK) (qO (al bK) hh) ht f (al bK) (al bK).length (qs.map Pc.val) [] 0 its):=af ⟨jQ.start qF (sa.O.1.below HQ.O.2.2.2) HM.O,qB.start (by have h:=HQ.O.2.1.Gf;have e:=Ap.O;rw[e];exact h) (GC.imp id λ h=>h.1)⟩)
 first
  |(have:=zA;clear this
    have A2:Hid (bu (qs.map Pc.val)<=its.length/\bu (qs.map Pc.val)*3^ht<=its.length):=af ⟨nT ql HQ.O.2.1.Gf,by have h:=tn (3^ht) (λ x s h=>by rw[Ap.O];exact ql x s h) HQ.O.2.1.Gf;exact h⟩)
  |(have A2:Hid (bu (qs.map Pc.val)<=its.length/\bu (qs.map Pc.val)*3^ht<=its.length):=af ⟨nT tw HQ.O.2.1.Gf,by have h:=tn (3^ht) (λ x s h=>by rw[Ap.O];exact cW.many h) HQ.O.2.1.Gf;exact h⟩)
 clear XJ Jf Mo GC qF
 first
  |(have:=zA;clear this
    go_loopw [11,24] (λ rv iv wr=>∃(i:Nat) (rs:List aN) (q:Option Addr) (k':Nat) (b':Option Addr) (bL:Nat) (bz:List Piece),i<=qs.length/\iv= .int .i64 (i:Int)/\rv= .slice q rs.length k'/\Hid (jQ Bw w1 wr b' bL bz q k' rs)/\Hid (qB (al bK) zE ht f (al bz) (al bK).length ((qs.map Pc.val).drop i) rs (bu ((qs.map Pc.val).take i)) its)) (λ _ iv _=>qs.length - (intOf iv).toNat))
  |(go_loopw [11,24] (λ rv iv wr=>∃(i:Nat) (rs:List aN) (q:Option Addr) (k':Nat) (b':Option Addr) (bL:Nat) (bz:List Piece),i<=qs.length/\iv= .int .i64 (i:Int)/\rv= .slice q rs.length k'/\Hid (jQ Bw w1 wr b' bL bz q k' rs)/\Hid (qB (al bK) (qO (al bK) hh) ht f (al bz) (al bK).length ((qs.map Pc.val).drop i) rs (bu ((qs.map Pc.val).take i)) its)) (λ _ iv _=>qs.length - (intOf iv).toNat))
 case atStart=>exact⟨0,[],none,0,b,cf,bK,ag,rfl,rfl,af oG.O.1,af oG.O.2⟩
 case round=>
  obtain⟨i,rs,q,k',b1,Yk,Aq,hi,rfl,rfl,HL,HI⟩:=hrel
  obtain⟨W1,rfl⟩:=aK wr
  by_cases bg:i<qs.length
  ·obtain⟨p,hp⟩:∃p,qs[i]? =some p:=⟨qs[i],by simp[bg]⟩
   have zG:(qs.map Pc.val)[i]? =some p.val:=by rw[List.getElem?_map,hp];rfl
   have gy:(i:Int)<(qs.length:Int):=ag
   have rj:(i:Int)<=200:=ag
   obtain⟨Bq,oq,rfl⟩:=HQ.O.1.row.some_ ag
   have ax:=(HQ.O.1.only aa6 aa7 kg.O HL.O.only).row.get hp
   have WC:(qs.map Pc.val).drop i=p.val::(qs.map Pc.val).drop (i+1):=jc zG
   have AY:(qs.map Pc.val).take (i+1)=(qs.map Pc.val).take i++[p.val]:=by rw[List.take_add_one,zG];rfl
   have adH:rs.length<=200:=cG HI.O.C3 gD.O.1
   have Fe:=List.mem_of_getElem? hp
   have hI:=HI.O
   rw[WC]at hI
   rcases p with r|⟨pa,pc,ys⟩
   ·simp only[Pc.cells]at ax
    obtain⟨V,hV⟩:=aK (W1.alloc (.cells (oT r.k.ka r.k.key.length r.k.kc r.k.at_ r.k.count r.h) CS))
    have jA:Below W1 W1 V:=by rw[hV];go_grown
    have vu:V.heap.size=W1.heap.size+1:=by rw[hV];simp
    have jI:V.heap[W1.heap.size]? =some (.cells (oT r.k.ka r.k.key.length r.k.kc r.k.at_ r.k.count r.h) CS):=jJ hV
    have p0:V.cell? (za W1 0)=some (.bool true):=(aa jI 0).T rfl
    have Il:V.rangeAt W1 1 (fI r.k.ka r.k.key.length r.k.kc r.k.at_ r.k.count r.h):=bp [.bool true] (fI r.k.ka r.k.key.length r.k.kc r.k.at_ r.k.count r.h) [.slice none 0 0] (aj jI)
    obtain⟨g',c',w',bt,hN,_⟩:=(HL.O.below jA).put r (HQ.O.1.each _ Fe) ag
    have HN:=af hN
    first
     |(have:=zA;clear this
       have Yl:Hid (qB (al bK) zE ht f (al Aq) (al bK).length ((qs.map Pc.val).drop (i+1)) (rs++[r]) (bu ((qs.map Pc.val).take (i+1))) its):=af (by
        rw[AY,cH]
        exact qB.kept Qk.O.2.1 hI))
     |(have Yl:Hid (qB (al bK) (qO (al bK) hh) ht f (al Aq) (al bK).length ((qs.map Pc.val).drop (i+1)) (rs++[r]) (bu ((qs.map Pc.val).take (i+1))) its):=af (by
        rw[AY,cH]
        exact qB.kept Qk.O.2.1 hI))
    rw[vu]at bt
    simp only[aN.cells,aw.cells,List.cons_append,List.nil_append,List.toArray]at bt
    rw[hV]at p0 Il bt
    have mU:Hid ((rs++[r]).length=rs.length+1):=af aR
    clear hp zG WC AY Fe hI hV jA vu jI hN
    go_wp2_with first
     |(refine bh CS ?_)
     |(refine et CS ?_)
     |(refine bh 285 ?_)
     |fail
    exact⟨⟨i+1,rs++[r],_,_,b1,Yk,Aq,ag,by simp,by rw[mU.O],HN,Yl⟩,by simp[intOf];omega⟩
   ·have r6:f<=ys.length:=Qk.O.2.2.1 ys (List.mem_of_getElem? zG)
    have Ug:bu ((qs.map Pc.val).take i)+ys.length<=bu (qs.map Pc.val):=by
     have h1:bu ((qs.map Pc.val).take (i+1))<=bu (qs.map Pc.val):=by
      conv=>rhs;rw[<-List.take_append_drop (i+1) (qs.map Pc.val),cH]
      omega
     rw[AY,cH]at h1
     simpa[bu,Pc.val]using h1
    have lA:1<=ys.length:=aM Qk.O.1
    have Uh:ys.length<=200:=cG A2.O.1 gD.O.1
    obtain⟨n,hn⟩:=aK ys.length
    obtain⟨m,hm⟩:=aK ((n+5)/6)
    obtain⟨x6,kD⟩:=aK (n+6)
    obtain⟨x5,jG⟩:=aK (n+5)
    have hA:IntKind.i64.wrap ((n:Int)+6)=(x6:Int):=by rw[IntKind.wrap_i64];omega
    have hB:IntKind.i64.wrap ((x6:Int) - 1)=(x5:Int):=by rw[IntKind.wrap_i64];omega
    have hC1:((x5:Int)).tdiv 6=(m:Int):=by rw[Int.tdiv_eq_ediv_of_nonneg ag];omega
    have hC:(x5:Int)/6=(m:Int):=ag
    have hD:IntKind.i64.wrap (m:Int)=(m:Int):=by rw[IntKind.wrap_i64];omega
    have dM:=SA hm ag
    have hmi:(m:Int)<=200:=ag
    simp only[Pc.cells]at ax
    rw[<-hn]at ax
    obtain⟨V,hV⟩:=aK (W1.alloc (.cells (j6 pa n pc) CS))
    have jA:Below W1 W1 V:=by rw[hV];go_grown
    have jI:V.heap[W1.heap.size]? =some (.cells (j6 pa n pc) CS):=jJ hV
    have p0:V.cell? (za W1 0)=some (.bool false):=(aa jI 0).T rfl
    have xb:V.cell? (za W1 10)=some (.slice pa n pc):=(aa jI 10).T rfl
    have zH:ec aa8 w1 pa pc ys:=HQ.O.1.each _ Fe
    obtain⟨Bp,op,rfl⟩:=zH.row.some_ lA
    have HNV:=af jI
    have aa9:=af (List.mem_of_getElem? zG)
    have qJ:=YR zH hn hm r6 Ug lA Uh dM
    first
     |(have:=zA;clear this
       have RF:Hid (jQ Bw w1 V b1 Yk Aq q k' rs/\qB (al bK) zE ht f (al Aq) (al bK).length (.loose (ys.drop (n*0/m))::(qs.map Pc.val).drop (i+1)) rs (bu ((qs.map Pc.val).take i)+n*0/m) its):=af ⟨HL.O.below jA,by
        rw[Nat.mul_zero,Nat.zero_div];exact hI⟩)
     |(have RF:Hid (jQ Bw w1 V b1 Yk Aq q k' rs/\qB (al bK) (qO (al bK) hh) ht f (al Aq) (al bK).length (.loose (ys.drop (n*0/m))::(qs.map Pc.val).drop (i+1)) rs (bu ((qs.map Pc.val).take i)+n*0/m) its):=af ⟨HL.O.below jA,by
        rw[Nat.mul_zero,Nat.zero_div];exact hI⟩)
    have JA:Hid (bu ((qs.map Pc.val).take (i+1))=bu ((qs.map Pc.val).take i)+n):=af (by rw[AY,cH,hn];simp[bu,Pc.val])
    rw[hV]at p0 xb
    have HV:=af hV
    clear hp zG WC AY Fe hI hV jA jI r6 Ug lA Uh hn hm kD jG dM zH
    go_wp2_with first
     |(refine bh CS ?_)
     |(refine et CS ?_)
     |fail
    rw[<-HV.O]
    first
     |(have:=zA;clear this
       go_loopw [11,42] (λ rv iv wr=>∃(kk:Nat) (rs:List aN) (q:Option Addr) (k':Nat) (b':Option Addr) (bL:Nat) (bz:List Piece),kk<=m/\iv= .int .i64 (kk:Int)/\rv= .slice q rs.length k'/\Hid (jQ Bw w1 wr b' bL bz q k' rs)/\Hid (qB (al bK) zE ht f (al bz) (al bK).length (.loose (ys.drop (n*kk/m))::(qs.map Pc.val).drop (i+1)) rs (bu ((qs.map Pc.val).take i)+n*kk/m) its)/\Hid (wr.heap[W1.heap.size]? =some (.cells (j6 (some ⟨Bp,op,none⟩) n pc) 287))) (λ _ iv _=>m - (intOf iv).toNat))
     |(go_loopw [11,42] (λ rv iv wr=>∃(kk:Nat) (rs:List aN) (q:Option Addr) (k':Nat) (b':Option Addr) (bL:Nat) (bz:List Piece),kk<=m/\iv= .int .i64 (kk:Int)/\rv= .slice q rs.length k'/\Hid (jQ Bw w1 wr b' bL bz q k' rs)/\Hid (qB (al bK) (qO (al bK) hh) ht f (al bz) (al bK).length (.loose (ys.drop (n*kk/m))::(qs.map Pc.val).drop (i+1)) rs (bu ((qs.map Pc.val).take i)+n*kk/m) its)/\Hid (wr.heap[W1.heap.size]? =some (.cells (j6 (some ⟨Bp,op,none⟩) n pc) 333))) (λ _ iv _=>m - (intOf iv).toNat))
    case atStart=>exact⟨0,rs,q,k',b1,Yk,Aq,ag,rfl,rfl,af RF.O.1,af RF.O.2,HNV⟩
    case round=>
     obtain⟨kk,Mw,q2,k2,b2,Ym,iE,Dy,rfl,rfl,qL,Yl,HO2⟩:=hrel
     obtain⟨W2,rfl⟩:=aK wr
     by_cases Ye:kk<m
     ·have hkm:(kk:Int)<(m:Int):=ag
      obtain⟨x,hx⟩:=aK (n*kk/m)
      obtain⟨y,hy⟩:=aK (n*(kk+1)/m)
      obtain⟨RJ,hyn,hc6,uK,F5⟩:=OV qJ.O.2.2.1 hx hy Ye
      obtain⟨k1,zq⟩:=aK (kk+1)
      obtain⟨x1,bB⟩:=aK (n*kk)
      obtain⟨y1,lA⟩:=aK (n*k1)
      have JJ:n<=200:=cG qJ.O.2.1 qJ.O.2.2.2.2.2.2.1
      have Ui:m<=200:=ag
      have aba:x1<=40000:=by rw[bB];exact Nat.le_trans (Nat.mul_le_mul JJ (show kk<=200 by omega)) bd
      have abb:y1<=40000:=by rw[lA];exact Nat.le_trans (Nat.mul_le_mul JJ (show k1<=200 by omega)) bd
      have e1:(n:Int)*(kk:Int)=(x1:Int):=by rw[bB];simp
      have e2:(n:Int)*(k1:Int)=(y1:Int):=by rw[lA];simp
      have e3:IntKind.i64.wrap (x1:Int)=(x1:Int):=by rw[IntKind.wrap_i64];omega
      have e4:IntKind.i64.wrap (y1:Int)=(y1:Int):=by rw[IntKind.wrap_i64];omega
      have e5:IntKind.i64.wrap ((kk:Int)+1)=(k1:Int):=by rw[IntKind.wrap_i64];omega
      have e6:((x1:Int)).tdiv (m:Int)=(x:Int):=by rw[Int.tdiv_eq_ediv_of_nonneg ag,hx,bB];simp
      have e7:((y1:Int)).tdiv (m:Int)=(y:Int):=by rw[Int.tdiv_eq_ediv_of_nonneg ag,hy,lA,zq];simp
      have e8:IntKind.i64.wrap (x:Int)=(x:Int):=by rw[IntKind.wrap_i64];omega
      have e9:IntKind.i64.wrap (y:Int)=(y:Int):=by rw[IntKind.wrap_i64];omega
      have em:¬ (m:Int)=0:=ag
      have em2:¬ m=0:=ag
      have e6':(x1:Int)/(m:Int)=(x:Int):=by rw[hx,bB];simp
      have e7':(y1:Int)/(m:Int)=(y:Int):=by rw[hy,lA,zq];simp
      obtain⟨cc,kL⟩:∃cc,y - x=cc:=⟨_,rfl⟩
      have CG:¬ y=x:=ag
      have adI:(x:Int)<=(y:Int):=ag
      have hyp:(y:Int)<=(pc:Int):=cG qJ.O.1.cap qJ.O.2.1
      have xb:W2.cell? (za W1 10)=some (.slice (some ⟨Bp,op,none⟩) n pc):=(aa HO2.O 10).T rfl
      obtain⟨zs,oO⟩:=aK ((ys.drop x).take cc)
      have O8:ys.drop x=zs++ys.drop y:=by
       rw[oO,show ys.drop y=(ys.drop x).drop cc by rw[List.drop_drop];congr 1;omega,List.take_append_drop]
      have QN:zs.length=cc:=by rw[oO,List.length_take,List.length_drop];have:=qJ.O.2.1;omega
      have hI:=Yl.O
      rw[<-hx,O8]at hI
      obtain⟨s,hsS,fG,JI,su⟩:=hI.WG gD.O.2.1 gD.O.2.2.1
      have fy:=gD.O.1
      have hL:=qL.O
      have QO:1<=zs.length:=ag
      have Yn:zs.length<=6:=ag
      have hfc:f<=zs.length:=by
       have h1:=Qk.O.2.1;have h2:=qJ.O.2.2.2.1;have h3:=qJ.O.2.1
       rcases Nat.lt_or_ge n 3 with h4|h4
       ·have:=F5 h4;omega
       ·have:=uK h4;omega
      first
       |(have:=zA;clear this
         obtain⟨gW,Ck⟩:=okI QO Yn hsS fG JI)
       |(have h2c:2<=zs.length:=aM Qk.O.1
         obtain⟨gW,Ck⟩:=okK h2c Yn hsS fG JI ag sa.O.1.small)
      have zH:=qJ.O.1
      first
       |(have:=zA;clear this
         have JK:∀z∈zs,(∀x∈z.key,x<256)/\∀x∈z.val,x<256:= λ z hz=>by rw[oO]at hz;exact⟨(zH.gp z (List.mem_of_mem_drop (List.mem_of_mem_take hz))).1.1,(zH.gp z (List.mem_of_mem_drop (List.mem_of_mem_take hz))).2.1⟩)
       |(have JK:∀z∈zs,∀x∈z.key,x<256:= λ z hz=>by rw[oO]at hz;exact(zH.gp z (List.mem_of_mem_drop (List.mem_of_mem_take hz))).1)
      have yV:=En (ad3 zs).enc (al iE).length cc ag (by rw[<-QN];exact Ck)
      have dX:(al iE).length+(dq (al iE).length (eV (ad3 zs).enc)).length<=524288:=by
       obtain⟨_,_,_,_,_,h6,_⟩:=hI
       have h1:=gD.O.2.2.2;have h2:=qJ.O.2.2.2.2.1;have h3:=A2.O.1;have h4:=qJ.O.2.1
       omega
      obtain⟨z0,zr,gQ⟩:∃z0 zr,zs=z0::zr:=by
       cases Wh:zs with
       |nil=>rw[Wh]at QO;simp at QO
       |cons z0 zr=>exact⟨z0,zr,rfl⟩
      have eK:(ad3 zs).keys[0]? =some z0.key:=by rw[gQ];rfl
      have Lt:(ad3 zs).XY=z0.ka:=by rw[gQ];rfl
      have pk:ai w1 z0.ka z0.key:=by
       have hz:z0∈zs:=by rw[gQ];exact List.mem_cons_self
       rw[oO]at hz
       first
        |(have:=zA;clear this
          exact(zH.gp z0 (List.mem_of_mem_drop (List.mem_of_mem_take hz))).1)
        |(exact zH.gp z0 (List.mem_of_mem_drop (List.mem_of_mem_take hz)))
      first
       |(have:=zA;clear this
         have hAT:∀V2,bm Bw w1 V2->(Nd.leaf zs).At V2 (some ⟨Bp,op+x*4,none⟩):= λ V2 ho=>by
          have hrz:bj (lC).f (lC).sz V2 (some ⟨Bp,op+x*(lC).sz,none⟩) zs:=by rw[oO];exact m7 ho kg.O (λ o x=>JG o x kg.O) (λ x e=>by have:=(lC).VV x;have:=(lC).pos;rw[e]at*;simp at*;omega) (zH.row.sub x cc)
          have Yj:∀z∈zs,(lC).gp V2 z:= λ z hz=>by rw[oO]at hz;exact E9 z kg.O ho (zH.gp z (List.mem_of_mem_drop (List.mem_of_mem_take hz)))
          exact kV.2 ⟨hrz, λ z hz=>Yj z hz⟩)
       |(have hAT:∀V2,bm Bw w1 V2->(Nd.inner zs).At V2 (some ⟨Bp,op+x*8,none⟩):= λ V2 ho=>by
          have hrz:bj (r9).f (r9).sz V2 (some ⟨Bp,op+x*(r9).sz,none⟩) zs:=by rw[oO];exact m7 ho kg.O (λ o x=>JH o x kg.O) (λ x e=>by have:=(r9).VV x;have:=(r9).pos;rw[e]at*;simp at*;omega) (zH.row.sub x cc)
          have Yj:∀z∈zs,(r9).gp V2 z:= λ z hz=>by rw[oO]at hz;exact Fa z kg.O ho (zH.gp z (List.mem_of_mem_drop (List.mem_of_mem_take hz)))
          exact Cs.2 ⟨hrz, λ z hz=>Yj z hz⟩)
      first
       |(have:=zA;clear this
         have O9:=af (λ V2=>KN (some ⟨Bp,op+x*4,none⟩) cc cc V2))
       |(have O9:=af (λ V2=>GP (some ⟨Bp,op+x*8,none⟩) cc cc V2))
      first
       |(have:=zA;clear this
         have XP:True:=trivial)
       |(have XP:∃m,al iE=al bK++m:=by obtain⟨_,_,_,_,_,_,_,h⟩:=hI;exact h)
      first
       |(have:=zA;clear this
         have aZ:Hid (∀V2,Below W2 W2 V2->Calls Tryz.prog 185 (QV (zp Bw) (.agg (nr (some ⟨Bp,op+x*4,none⟩) cc cc)) ht) V2 λ e w'=>∃(b':Option Addr) (c':Nat) (pw:Piece) (kc:Nat),e= .returned (.agg (mV z0.ka z0.key.length kc (br (al iE).length) (Nd.leaf zs).red ht))/\jQ Bw w1 w' b' c' (iE++[pw]) q2 k2 Mw/\qB (al bK) zE ht f (al (iE++[pw])) (al bK).length (.loose (ys.drop y)::(qs.map Pc.val).drop (i+1)) (Mw++[⟨⟨z0.ka,z0.key,kc,br (al iE).length,(Nd.leaf zs).red⟩,ht⟩]) (bu ((qs.map Pc.val).take i)+y) its/\w'.heap[W1.heap.size]? =some (.cells (j6 (some ⟨Bp,op,none⟩) n pc) 287)):=af (by
          intro V2 CM
          have Fg:=(aX HO2.O).1
          have Pa:=hL.below CM
          have h:=Bl Pa.file Pa.marks Pa.wk cc (hAT V2 Pa.only) gW ag dX ht z0.key eK
          have hv:(Nd.leaf zs).v (some ⟨Bp,op+x*4,none⟩) cc= .agg (nr (some ⟨Bp,op+x*4,none⟩) cc cc):=by simp only[Nd.v,Nd.is,Nd.a1,Nd.n1,Nd.k1,Nd.a2,Nd.n2,Nd.k2,QN]
          rw[hv]at h
          refine h.mono ?_
          rintro e w' ⟨b',c',pc,kb,rfl,g1,g2,g3,g4,g5⟩
          rw[Lt]
          have fK:al (iE++[pc])=al iE++dq (al iE).length (eV (Nd.leaf zs).enc):=by simp[al,g3]
          refine⟨b',c',pc,kb,rfl,Pa.wrote g5 g1 g2 g3 g4,?_,(g5.block _ (Nat.lt_of_lt_of_le Fg CM.size) (cG HL.O.only.size HL.O.lt)).T ((CM.block _ Fg).T HO2.O)⟩
          rw[fK,show bu ((qs.map Pc.val).take i)+y=bu ((qs.map Pc.val).take i)+x+cc by omega]
          refine hI.chunk gD.O.2.1 gD.O.2.2.1 yV QO ?_ λ s e1 e2 e3 e4=>?_
          ·rcases Nat.lt_or_ge n 3 with h4|h4
           ·right
            have:=F5 h4
            rw[List.drop_eq_nil_iff];have:=qJ.O.2.1;omega
           ·rcases Qk.O.2.2.2 with h5|h5
            ·exact .inl h5
            ·have h6:=h5.2 ys aa9.O
             have:=qJ.O.2.1;omega
          ·exact aco QO Yn e1 e2 e3 JK hfc Ap.O _ kb eK))
       |(have aZ:Hid (∀V2,Below W2 W2 V2->Calls Tryz.prog 185 (QV (zp Bw) (.agg (mB (some ⟨Bp,op+x*8,none⟩) cc cc)) ht) V2 λ e w'=>∃(b':Option Addr) (c':Nat) (pw:Piece) (kc:Nat),e= .returned (.agg (mV z0.ka z0.key.length kc (br (al iE).length) (Nd.inner zs).red ht))/\jQ Bw w1 w' b' c' (iE++[pw]) q2 k2 Mw/\qB (al bK) (qO (al bK) hh) ht f (al (iE++[pw])) (al bK).length (.loose (ys.drop y)::(qs.map Pc.val).drop (i+1)) (Mw++[⟨⟨z0.ka,z0.key,kc,br (al iE).length,(Nd.inner zs).red⟩,ht⟩]) (bu ((qs.map Pc.val).take i)+y) its/\w'.heap[W1.heap.size]? =some (.cells (j6 (some ⟨Bp,op,none⟩) n pc) 333)):=af (by
          intro V2 CM
          have Fg:=(aX HO2.O).1
          have Pa:=hL.below CM
          have h:=Bl Pa.file Pa.marks Pa.wk cc (hAT V2 Pa.only) gW ag dX ht z0.key eK
          have hv:(Nd.inner zs).v (some ⟨Bp,op+x*8,none⟩) cc= .agg (mB (some ⟨Bp,op+x*8,none⟩) cc cc):=by simp only[Nd.v,Nd.is,Nd.a1,Nd.n1,Nd.k1,Nd.a2,Nd.n2,Nd.k2,QN]
          rw[hv]at h
          refine h.mono ?_
          rintro e w' ⟨b',c',pc,kb,rfl,g1,g2,g3,g4,g5⟩
          rw[Lt]
          have fK:al (iE++[pc])=al iE++dq (al iE).length (eV (Nd.inner zs).enc):=by simp[al,g3]
          refine⟨b',c',pc,kb,rfl,Pa.wrote g5 g1 g2 g3 g4,?_,(g5.block _ (Nat.lt_of_lt_of_le Fg CM.size) (cG HL.O.only.size HL.O.lt)).T ((CM.block _ Fg).T HO2.O)⟩
          rw[fK,show bu ((qs.map Pc.val).take i)+y=bu ((qs.map Pc.val).take i)+x+cc by omega]
          refine hI.chunk gD.O.2.1 gD.O.2.2.1 yV QO ?_ λ s e1 e2 e3 e4=>?_
          ·rcases Nat.lt_or_ge n 3 with h4|h4
           ·right
            have:=F5 h4
            rw[List.drop_eq_nil_iff];have:=qJ.O.2.1;omega
           ·rcases Qk.O.2.2.2 with h5|h5
            ·exact .inl h5
            ·have h6:=h5.2 ys aa9.O
             have:=qJ.O.2.1;omega
          ·obtain⟨m',wU⟩:=XP;exact acp wU h2c Yn e1 e2 e3 ag hL.file.small JK hfc Ap.O _ kb eK))
      have Pb:=jo pk hy zq (show Mw.length<=200 by have:=hI.C3;omega)
      have Pd:=fy
      first
       |(have:=zA;clear this
         clear O8 oO QN hI hsS fG JI su fy hL QO Yn hfc gW Ck zH JK yV dX eK Lt pk hAT XP hc6 uK F5 hx hy bB lA zq JJ Ui aba abb Pd hyn gQ RJ)
       |(clear O8 oO QN hI hsS fG JI su fy hL QO Yn hfc gW Ck zH JK yV dX eK Lt pk hAT XP hc6 uK F5 hx hy bB lA zq JJ Ui aba abb Pd hyn gQ RJ h2c)
      go_wp2_with fail
      refine bP 17 ?_
      refine tP [0,1,2,3,4,5,6,7,8,9,10,11,12,13,14,15,16] ?_
      iterate 17 refine tO ?_
      refine ah 0 rfl ?_
      refine dP ?_
      go_simp
      go_wp2_with first
       |((with_reducible refine(O9.O _).mono ?_);rintro e V3 ⟨rfl,hb⟩
         have bA:Hid (Below W2 W2 V3):=af (((Below.refl _ W2).drew).T hb)
         clear hb)
       |((with_reducible refine(aZ.O _ bA.O).mono ?_);rintro e w4 ⟨b',c',pc',kc,rfl,mJ,cV,hO3⟩
         obtain⟨g',cg,w5,bt,hN,dF⟩:=mJ.put ⟨⟨z0.ka,z0.key,kc,br (al iE).length,(ad3 zs).red⟩,ht⟩ Pb.O.1 (aM Pb.O.2.2.2)
         have CT:=af (dF _ _ _ hO3 bd)
         have HN:=cj hN cV
         simp only[aN.cells,aw.cells,List.cons_append,List.nil_append,List.toArray]at bt
         clear mJ cV hO3 hN dF)
       |fail
      have mU:Hid ((Mw++[(⟨⟨z0.ka,z0.key,kc,br (al iE).length,(ad3 zs).red⟩,ht⟩:aN)]).length=Mw.length+1):=af aR
      exact⟨⟨kk+1,_,_,_,b',c',iE++[pc'],ag,by have:=Pb.O.2.2.1;simp;omega,by rw[mU.O],af HN.O.1,af (by rw[<-Pb.O.2.1];exact HN.O.2),CT⟩,by have:=Pb.O.2.2.1;simp[intOf];omega⟩
     ·obtain rfl:kk=m:=ag
      have hI:=Yl.O
      rw[qJ.O.2.2.2.2.2.2.2.1,show ys.drop n=[]by rw[List.drop_eq_nil_iff];have:=qJ.O.2.1;omega]at hI
      have hI:=hI.nil
      rw[<-JA.O]at hI
      have HI3:=af hI
      clear hI
      go_wp2_with fail
      exact⟨⟨i+1,Mw,_,_,b2,Ym,iE,ag,by simp,rfl,qL,HI3⟩,by simp[intOf];omega⟩
  ·obtain rfl:i=qs.length:=ag
   have hI:=HI.O
   rw[show(qs.map Pc.val).drop qs.length=[]by rw[List.drop_eq_nil_iff,List.length_map];exact aW,show(qs.map Pc.val).take qs.length=qs.map Pc.val by rw[List.take_of_length_le (by rw[List.length_map];exact aW)]]at hI
   have yp:=af (hI.fin A2.O.2)
   clear hI
   go_wp2_with fail
   go_ret
   exact⟨rs,q,k',b1,Yk,Aq,bu (qs.map Pc.val),rfl,HL.O.fin kg.O HQ.O.2.2.2,yp.O⟩):p:=h
namespace zsbA
abbrev CS:=Mk.mk 287
theorem zA:True:=trivial
end zsbA
section
open zsbA
open Go.Proofs.Tryz renaming func143 → aa3, ntmps143 → aa4
open Go.Proofs.YtkgapncajjafoaaGreatDoor renaming ql → aa5, E9 → aa6, JG → aa7, lC → aa8
open Go.Proofs.YtkgapncajjafoaaGreatDoor.Nd renaming leaf → ad3
theorem yW(Bw:Nat)(bK:List Piece)(hm:Marks (al bK))(ht:Nat)(Dd:ht=0)(hF:au w b cf bK)(hW:fp w Bw b bK.length cf){ps:List (Pc an)}(hP:bU lC w a c ps)(hs:aT (nk (al bK) zE 0) (ps.map Pc.val) its)(hl:ps.length<=200)(fy:its.length<=200)(fG:cQ its)(wK:bb (its.map Prod.fst))(dX:(al bK).length+80*its.length<=524288):
 Calls Tryz.prog 143 (YN (zp Bw) a ps.length c ht (.func (.func 144) (dW (zp Bw)) #[]) (.func (.func 145) #[] #[])) w λ e w'=>∃(rs:List aN) (q:Option Addr) (k:Nat) (b':Option Addr) (bL:Nat) (bz:List Piece) (n:Nat),e= .returned (.slice q rs.length k)/\oz Bw w w' b' bL bz q rs/\OX (al bK) (al bz) ht n rs its:=aa2
end
theorem Fh(hv fv bw:Value){ps:List (Pc an)}(hP:bU lC w a c ps)(zx:ps.map Pc.val=[.kept r]):
 Calls Tryz.prog 184 #[bw,.slice a ps.length c,hv,fv] w λ e w'=>∃(qs:List (Pc an)) (q:Option Addr) (k:Nat),e= .returned (.slice q qs.length k)/\bU lC w' q k qs/\qs.map Pc.val=[.kept r]/\Below w w w':=by
 have hl:ps.length=1:=by have:=congrArg List.length zx;simpa using this
 have HJ:=af (vM hP ag (by rw[zx];simp[bu]))
 have HPS:=af zx
 clear hP zx hl
 go_enter Tryz.func184,Tryz.ntmps184
 go_wp2_with fail
 go_step3
 go_wp2_with first
  |((with_reducible refine HJ.O.mono ?_);rintro e w1 ⟨qs,q,k0,rfl,GS,KJ,LM⟩
    rw[HPS.O]at GS
    have Ud:=cV KJ (show qs.map Pc.val=[.kept r]from GS) LM
    clear GS KJ LM)
  |fail
 have j7:qs.length=1:=by have:=congrArg List.length Ud.O.2.1;simpa using this
 have HQ1:=af j7
 rw[j7]
 clear j7
 go_step3
 go_wp2_with fail
 go_loopw [1] (λ rv wr=>rv= .slice q 1 k0/\Hid (wr=w1)) (λ _ _=>0)
 case atStart=>exact⟨rfl,af rfl⟩
 case round=>
  obtain⟨rfl,hw⟩:=hrel
  go_wp2_with fail
  rw[Exit.noGoto_ret]
  go_ret
  rw[hw.O]
  exact⟨qs,q,k0,by rw[HQ1.O];rfl,Ud.O.1,Ud.O.2.1,Ud.O.2.2⟩
theorem CU(hv fv bw:Value){ps:List (Pc an)}(hP:bU lC w a c ps)(zx:ps.map Pc.val=[.kept r]):
 Calls Tryz.prog 143 #[bw,.slice a ps.length c,hv,fv,.func (.func 145) #[] #[]] w λ e w'=>∃(q:Option Addr) (k:Nat),e= .returned (.slice q 1 k)/\jt w' q [r]/\Below w w w':=by
 have HF:=af (Fh hv fv bw hP zx)
 clear hP zx
 go_enter Tryz.func143,Tryz.ntmps143
 go_wp2_with first
  |((with_reducible refine HF.O.mono ?_);rintro e w1 ⟨qs,q0,k0,rfl,hQ,xi,aQ⟩
    have HQ:=cV hQ xi aQ
    clear hQ xi aQ)
  |fail
 have j7:qs.length=1:=by have:=congrArg List.length HQ.O.2.1;simpa using this
 obtain⟨m,hm⟩:=aK qs.length
 rw[<-hm]
 have HQ1:Hid (m=1/\qs.length=1):=af ag
 have hm6:(m:Int)<=200:=ag
 clear j7 hm
 go_loopw [11,24] (λ rv iv wr=>∃(i n:Nat) (q:Option Addr) (k:Nat),iv= .int .i64 (i:Int)/\rv= .slice q n k/\Hid (n=i/\i<=1/\Below w1 w1 wr/\(i=0->q=none/\k=0)/\(i=1->jt wr q [r]))) (λ _ iv _=>1 - (intOf iv).toNat)
 case atStart=>exact⟨0,0,none,0,rfl,rfl,af ⟨rfl,ag,dp, λ _=>⟨rfl,rfl⟩, λ h=>ag⟩⟩
 case round=>
  obtain⟨Wr,rfl⟩:=aK wr
  obtain⟨i,n,q,k,rfl,rfl,HI⟩:=hrel
  have HB:=af HI.O.2.2.1
  rcases Nat.lt_or_ge i 1 with hi|hi
  ·obtain⟨rfl,rfl⟩:=HI.O.2.2.2.1 ag
   obtain rfl:n=0:=aM HI.O.1
   have ou:=af (show i=0 by omega)
   have gy:(i:Int)<(m:Int):=aM HQ1.O.1
   have rj:(i:Int)<=200:=ag
   have hp0:qs[i]? =some (.kept r):=by
    rw[ou.O]
    have h:=HQ.O.2.1
    match qs,h with
    |[.kept r2],h=>simp[Pc.val]at h;rw[h];rfl
    |[.loose _ _ _],h=>simp[Pc.val]at h
   obtain⟨Bq,oq,rfl⟩:=HQ.O.1.row.some_ (by rw[HQ1.O.2];exact aW)
   have ax:Wr.rangeAt Bq (oq+i*11) (oT r.k.ka r.k.key.length r.k.kc r.k.at_ r.k.count r.h):=(HQ.O.1.row.below HB.O).get hp0
   obtain⟨V,hV⟩:=aK (Wr.alloc (.cells (oT r.k.ka r.k.key.length r.k.kc r.k.at_ r.k.count r.h) 287))
   have jA:Below Wr Wr V:=by rw[hV];go_grown
   have vu:V.heap.size=Wr.heap.size+1:=by rw[hV];simp
   have jI:V.heap[Wr.heap.size]? =some (.cells (oT r.k.ka r.k.key.length r.k.kc r.k.at_ r.k.count r.h) 287):=jJ hV
   have p0:V.cell? (za Wr 0)=some (.bool true):=(aa jI 0).T rfl
   have Il:V.rangeAt Wr 1 (fI r.k.ka r.k.key.length r.k.kc r.k.at_ r.k.count r.h):=bp [.bool true] (fI r.k.ka r.k.key.length r.k.kc r.k.at_ r.k.count r.h) [.slice none 0 0] (aj jI)
   have eK:ai w1 r.k.ka r.k.key:=HQ.O.1.each _ (List.mem_of_getElem? hp0)
   have Ar:Below w1 w1 V:=HB.O.T (jA.mono HB.O.size)
   obtain⟨g',c',w',bt,DC,mg⟩:=eF (P:=Tryz.prog) 289 285 (.agg MC) 9 88 aO xN rfl bd r.cells rfl (xO r) (W:=V) (n₀:=w1.heap.size) (a:=none) (k:=0) (c:=0) (xs:=[]) (World.ownsRow_nil _ _ _ _) ag ag Ar.size
   have kt:Below w1 w1 w':=Ar.T mg.below
   have HN:Hid (Below w1 w1 w'/\jt w' (zp g') [r]):=af ⟨kt,⟨bj.gX (k:=1) (c:=c') (n₀:=w1.heap.size) (e:=285) (by simpa using DC) (λ _=>rfl) bd, λ x hx=>by rw[List.mem_singleton]at hx;subst hx;exact eK.below kt⟩⟩
   rw[vu]at bt
   simp only[aN.cells,aw.cells,List.cons_append,List.nil_append,List.toArray]at bt
   rw[hV]at p0 Il bt
   clear hp0 hV jA vu jI eK Ar DC mg kt
   go_wp2_with first
    |(refine bh 287 ?_)
    |(refine et 287 ?_)
    |(refine bh 285 ?_)
    |fail
   exact⟨⟨i+1,1,_,_,by simp,rfl,af ⟨by have:=ou.O;omega,ag,HN.O.1, λ h=>ag, λ _=>HN.O.2⟩⟩,by have:=ou.O;simp[intOf];omega⟩
  ·have tZ:=af (show i=1 by have:=HI.O.2.1;omega)
   have dD:n=1:=cG HI.O.1 tZ.O
   have gy:¬ (i:Int)<(m:Int):=aM HQ1.O.1
   subst dD
   go_wp2_with fail
   go_ret
   exact⟨q,⟨k,rfl⟩,HI.O.2.2.2.2 tZ.O,HQ.O.2.2.T (HB.O.mono HQ.O.2.2.size)⟩
theorem LP(n:Nat)(h1:1<=n)(h2:n<=100000)(w:World):
 Calls Tryz.prog 233 #[.slice none 0 0,.int .i64 (n:Int)] w λ e w'=>∃(g:Nat) (c:Nat),e= .returned (.slice (zp g) 0 c)/\w'.ownsRow w 333 11 (.slice (zp g) 0 c) 0 []/\Below w w w':=by
 obtain⟨i0,hi,gQ,fq,mx⟩:=info_parts sK
 have bt:=Lib.run_append_nil_zeros (P:=Tryz.prog) w 294 3 294 333 i0 (.agg fe) .i64 .i64 aO aO hi gQ n ag ag ag (by rw[mx];omega)
 have ja:=grownCap_ge w n 0 333
 have wh:=grownCap_le_maxLen w n 0 333 (by simp[maxLen];omega)
 obtain⟨cp,QI⟩:=aK (grownCap w n 0 333)
 rw[<-QI]at bt ja wh
 have uM:Hid ((w.drew.alloc (.cells (Builtin.zeroCells ((.agg fe):Value).cells n++Builtin.zeroCells ((.agg fe):Value).cells (cp - n)) 333)).ownsRow w 333 11 (.slice (zp w) 0 cp) 0 []/\Below w w (w.drew.alloc (.cells (Builtin.zeroCells ((.agg fe):Value).cells n++Builtin.zeroCells ((.agg fe):Value).cells (cp - n)) 333))):=af ⟨World.ownsRow_made w.drew _ cp (aW) wh (by rw[Array.size_append,size_zeroCells,size_zeroCells];show n*11+(cp - n)*11=cp*11;omega),((Below.refl _ w).drew).alloc (aW) _⟩
 have e1:¬ ((n:Int)<0):=ag
 have e2:(0:Int)<(n:Int):=ag
 have e3:IntKind.i64.wrap (n:Int)=(n:Int):=by rw[IntKind.wrap_i64];omega
 have e4:0<n:=ag
 have acq:(0:Int)<=(cp:Int):=ag
 have Gz:w.drew.alloc (.cells (Builtin.zeroCells ((.agg fe):Value).cells n++Builtin.zeroCells ((.agg fe):Value).cells (cp - n)) 333)=(w.alloc (.cells (Builtin.zeroCells ((.agg fe):Value).cells n++Builtin.zeroCells ((.agg fe):Value).cells (cp - n)) 333)).drew:=rfl
 rw[Gz]at bt uM
 obtain⟨W1,qF⟩:=aK ((w.alloc (.cells (Builtin.zeroCells ((.agg fe):Value).cells n++Builtin.zeroCells ((.agg fe):Value).cells (cp - n)) 333)).drew)
 rw[<-qF]at bt uM
 clear hi gQ fq mx QI wh Gz qF
 go_enter Tryz.func233,Tryz.ntmps233
 go_wp2_with fail
 go_ret
 exact⟨w.heap.size,cp,rfl,uM.O.1,uM.O.2⟩
theorem Fi{R:Nat}{rows:List (eR aw)}(hc:w.rangeAt R 0 (rows.map eR.v))(hr:∀r∈rows,bU r9 w r.a r.c r.ps)(hl:rows.length<=10)(h1:1<=du rows)(h2:du rows<=10000):
 Calls Tryz.prog 222 (jE (zp R) rows.length rows.length) w λ e w'=>∃(a:Option Addr) (k:Nat),e= .returned (.slice a (rows.flatMap eR.ps).length k)/\bU r9 w' a k (rows.flatMap eR.ps)/\Below w w w':=by
 have HC:=af hc
 have HR:=af hr
 have HL:=cj h1 h2
 have Kx:(rows.length:Int)<=10:=ag
 clear hc hr h1 h2
 go_enter Tryz.func222,Tryz.ntmps222
 go_wp2_with fail
 go_loopw [3,11] (λ sv iv wr=>∃j m:Nat,j<=rows.length/\iv= .int .i64 (j:Int)/\sv= .int .i64 (m:Int)/\Hid (m=du (rows.take j))/\Hid (wr=w)) (λ _ iv _=>rows.length - (intOf iv).toNat)
 case atStart=>exact⟨0,0,ag,rfl,rfl,af rfl,af rfl⟩
 case round=>
  obtain⟨j,m,hj,rfl,rfl,hm,hw⟩:=hrel
  by_cases bg:j<rows.length
  ·obtain⟨r,hr⟩:∃r,rows[j]? =some r:=⟨rows[j],by simp[bg]⟩
   have hg:wr.cell? ⟨R,j,none⟩=some (.slice r.a r.ps.length r.c):=by have:=HC.O j _ (show(rows.map eR.v)[j]? =some r.v by simp[hr]);rw[Nat.zero_add]at this;rw[hw.O];exact this
   have gy:(j:Int)<(rows.length:Int):=ag
   have rj:(j:Int)<=10:=ag
   have zO:=tt rows j r hr
   have Qa:=nX rows (j+1)
   have hmw:IntKind.i64.wrap ((m:Int)+(r.ps.length:Int))=((m+r.ps.length:Nat):Int):=by rw[IntKind.wrap_i64];have:=HL.O.2;have:=hm.O;omega
   have tJ:decide (((m+r.ps.length:Nat):Int)<0)=false:=bV
   have acr:¬ ((m:Int)+(r.ps.length:Int)<0):=ag
   have HM:Hid (m+r.ps.length=du (rows.take (j+1))):=af (by rw[zO,hm.O])
   clear hr zO Qa
   go_wp2_with fail
   exact⟨⟨j+1,m+r.ps.length,ag,by simp,by simp,HM,hw⟩,by simp[intOf];omega⟩
  ·obtain rfl:j=rows.length:=ag
   have zO:m=du rows:=by rw[hm.O,List.take_length]
   have HG:=af (LP m (aM HL.O.1) (aM HL.O.2) wr)
   have HW:=hw
   clear zO
   go_wp2_with first
    |((with_reducible refine HG.O.mono ?_);rintro e w2 ⟨g,cg,rfl,eW,RY⟩
      have HP0:Hid (mq r9 175 333 w w2 (zp g) cg []):=af (by rw[HW.O]at eW RY;exact⟨RY,eW, λ p hp=>by cases hp⟩)
      clear eW RY)
    |fail
   go_loopw [6,27] (λ rv iv wr=>∃(j n:Nat) (q:Option Addr) (k':Nat),j<=rows.length/\iv= .int .i64 (j:Int)/\rv= .slice q n k'/\Hid (((rows.take j).flatMap eR.ps).length=n)/\Hid (mq r9 175 333 w wr q k' ((rows.take j).flatMap eR.ps))) (λ _ iv _=>rows.length - (intOf iv).toNat)
   case atStart=>exact⟨0,0,_,_,ag,rfl,rfl,af rfl,HP0⟩
   case round=>
    obtain⟨j,n,q,k',hj,rfl,rfl,hn,hP⟩:=hrel
    by_cases bg:j<rows.length
    ·obtain⟨r,hr⟩:∃r,rows[j]? =some r:=⟨rows[j],by simp[bg]⟩
     have hg:wr.cell? ⟨R,j,none⟩=some (.slice r.a r.ps.length r.c):=by have:=HC.O j _ (show(rows.map eR.v)[j]? =some r.v by simp[hr]);rw[Nat.zero_add]at this;exact carry hP.O.base this
     have gy:(j:Int)<(rows.length:Int):=ag
     have rj:(j:Int)<=10:=ag
     have hT:(rows.take (j+1)).flatMap eR.ps=(rows.take j).flatMap eR.ps++r.ps:=by rw[List.take_add_one,hr];simp
     have hle:=nX rows (j+1)
     rw[<-iD (rows.take (j+1)),hT,List.length_append]at hle
     obtain⟨a',c',w',bt,qj⟩:=hP.O.KQ (P:=Tryz.prog) (TS:=294) (z:=(.agg fe)) (bytes:=120) aO sK rfl bd bd (HR.O r (List.mem_of_getElem? hr)) (aM HL.O.2)
     rw[hn.O]at bt
     rw[<-hT]at qj
     have HN:=af qj
     have qL:Hid (((rows.take (j+1)).flatMap eR.ps).length=n+r.ps.length):=af (by rw[hT,List.length_append,hn.O])
     clear hr hT hle qj
     go_wp2_with fail
     exact⟨⟨j+1,_,_,_,ag,by simp,rfl,qL,HN⟩,by simp[intOf];omega⟩
    ·obtain rfl:j=rows.length:=ag
     go_wp2_with fail
     go_ret
     have h1:=hn.O
     have h2:=hP.O
     rw[List.take_length]at h1 h2
     exact⟨q,k',by rw[h1];rfl,h2.fin,h2.base⟩
end
section
attribute [local go_sem] Oper.semAt_some
attribute [-go_sem] Builtin.append_
namespace zsaB
abbrev wy:=Mk.mk 333
abbrev WO:=Mk.mk 222
abbrev O2:=Mk.mk 175
abbrev Ua:=Mk.mk 294
end zsaB
section
open zsaB
open Go.Proofs.YtkgapncajjafoaaGreatDoor renaming KO → aaQ, fm → aaR, r9 → CQ, aw → wD, Fi → WQ, sK → Ub
open Go.Proofs.Tryz renaming func210 → WL, ntmps210 → WM
open Go.Proofs.YtkgapncajjafoaaGreatDoor.fm renaming AR → aaS
theorem vN(Bw:Nat)(bK:List Piece)(hm:Marks (al bK))(first:Bool)(ht hh:Nat)(Dd:ht=hh+1):∀(d:Nat) {w:World} {b:Option Addr} {cf:Nat} (_:au w b cf bK) (_:fp w Bw b bK.length cf) {a:Option Addr} {c:Nat} {ps:List (Pc aw)} (_:bU r9 w a c ps) {A B:List (Pv aw)} {r:aN} {its:List KV} (_:ps.map Pc.val=A++.kept r::B) (_:cW (al bK) r its) (_:r.h=ht+d) (_:r.h<=50) (_:ps.length+6*d<=500) (i:Nat) (_:i=A.length),
 Calls Tryz.prog 210 (YK (zp Bw) a ps.length c i ht first (.func (.func 148) (dW (zp Bw)) #[])) w λ e w'=>∃(qs:List (Pc aw)) (q:Option Addr) (k:Nat) (ky:List (Pv aw)),e= .returned (.slice q qs.length k)/\qs.map Pc.val=A++(ky++B)/\bU r9 w' q k qs/\iz (al bK) (qO (al bK) hh) (hh+1) first its ky/\Below w w w':=aaP
end
namespace zscB
abbrev SH:=Mk.mk 175
abbrev lq:=Mk.mk 333
abbrev SI:=Mk.mk 294
end zscB
section
open zscB
open Go.Proofs.Tryz renaming func209 → aaV, ntmps209 → aaW
open Go.Proofs.YtkgapncajjafoaaGreatDoor renaming aw → pL, r9 → yU, sK → SJ
theorem Fj{ps:List (Pc aw)}(hP:bU r9 w a c ps)(hl:ps.length<=1000)(hb:bu (ps.map Pc.val)<=1000):
 Calls Tryz.prog 209 (jE a ps.length c) w λ e w'=>∃(qs:List (Pc aw)) (q:Option Addr) (k:Nat),e= .returned (.slice q qs.length k)/\qs.map Pc.val=lP (ps.map Pc.val)/\bU r9 w' q k qs/\Below w w w':=aaU
end
theorem tw{all:List Nat}{hh:Nat}:∀(x:aw) (s:List KV),qO all hh x s->1<=s.length:= λ _ s h=>by obtain⟨kv,l,e,_⟩:=cW.first h;rw[e];simp
namespace zsdB
abbrev rN:=Mk.mk 333
end zsdB
section
open zsdB
open Go.Proofs.YtkgapncajjafoaaGreatDoor renaming tw → O6, Fj → SK, aw → WU
open Go.Proofs.Tryz renaming func186 → aaZ, ntmps186 → aa0
theorem LO(Bw:Nat)(bK:List Piece)(hm:Marks (al bK))(ht hh:Nat)(Dd:ht=hh+1)(hF:au w b cf bK)(hW:fp w Bw b bK.length cf){ps:List (Pc aw)}(hP:bU r9 w a c ps)(hs:aT (nk (al bK) (qO (al bK) hh) (hh+1)) (ps.map Pc.val) its)(hl:ps.length<=200)(fy:its.length<=200):
 Calls Tryz.prog 186 (YM (zp Bw) a ps.length c ht (.func (.func 148) (dW (zp Bw)) #[])) w λ e w'=>∃(qs:List (Pc aw)) (q:Option Addr) (k:Nat),e= .returned (.slice q qs.length k)/\bU r9 w' q k qs/\lj (al bK) (qO (al bK) hh) (hh+1) (ps.map Pc.val) (qs.map Pc.val) its/\(bC (qs.map Pc.val)=0\/qs.length<=1)/\Below w w w':=aaY
end
namespace zsbB
abbrev CS:=Mk.mk 333
end zsbB
section
open zsbB
open Go.Proofs.Tryz renaming func146 → aa3, ntmps146 → aa4
open Go.Proofs.YtkgapncajjafoaaGreatDoor renaming tw → aa5, Fa → aa6, JH → aa7, r9 → aa8
open Go.Proofs.YtkgapncajjafoaaGreatDoor.Nd renaming inner → ad3
theorem rO(Bw:Nat)(bK:List Piece)(hm:Marks (al bK))(ht hh:Nat)(Dd:ht=hh+1)(hF:au w b cf bK)(hW:fp w Bw b bK.length cf){ps:List (Pc aw)}(hP:bU r9 w a c ps)(hs:aT (nk (al bK) (qO (al bK) hh) (hh+1)) (ps.map Pc.val) its)(hl:ps.length<=200)(fy:its.length<=200)(fG:cQ its)(wK:bb (its.map Prod.fst))(dX:(al bK).length+80*its.length<=524288)(h2:2<=bW (ps.map Pc.val)+bu (ps.map Pc.val)):
 Calls Tryz.prog 146 (YN (zp Bw) a ps.length c ht (.func (.func 148) (dW (zp Bw)) #[]) (.func (.func 149) #[] #[])) w λ e w'=>∃(rs:List aN) (q:Option Addr) (k:Nat) (b':Option Addr) (bL:Nat) (bz:List Piece) (n:Nat),e= .returned (.slice q rs.length k)/\oz Bw w w' b' bL bz q rs/\OX (al bK) (al bz) ht n rs its:=aa2
end
end
end Go.Proofs.YtkgapncajjafoaaGreatDoor

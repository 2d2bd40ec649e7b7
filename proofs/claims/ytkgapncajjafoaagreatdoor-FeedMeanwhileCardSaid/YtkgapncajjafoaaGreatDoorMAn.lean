/- The store, part 14. -/
import Derived.Test.YtkgapncajjafoaaGreatDoorMAa
import Derived.Test.YtkgapncajjafoaaGreatDoorMAl
import Derived.Test.YtkgapncajjafoaaGreatDoorMAm
import Derived.Test.YtkgapncajjafoaaGreatDoorMAh
set_option linter.unusedSimpArgs false
set_option linter.unusedVariables false
set_option maxRecDepth 100000
set_option maxHeartbeats 16000000
namespace Go.Proofs.YtkgapncajjafoaaGreatDoor
open Go.RowKit Go.Shelf
variable{W w W':World}{g c R at_ d cf ce c0 a1 d1 c1 a2 d2 c2 q X B0 m s a p1 e1 f1 p2 e2 f2:Nat}{b ea b0:Option Addr}{ps bK E7:List Piece}{cs:Array Value}{t:TypeId}{items its:List KV}{l:List bN}{id tx:ByteArray}{y:aG}{wk wn:Int}{kn wt:Bool}
section
attribute [local go_sem] Oper.semAt_some
attribute [-go_sem] Builtin.append_
theorem Fk(Bw:Nat)(bK:List Piece)(hm:Marks (al bK)):∀(d:Nat) {w:World} {b:Option Addr} {cf:Nat} (_:au w b cf bK) (_:fp w Bw b bK.length cf) {r:aN} {n:Nd} {its:List KV} (G:Nat->Prop) (_:∀j,G j->j<w.heap.size) (_:r.h=d) (_:d<=50) (_:St G w λ V=>ai V r.k.ka r.k.key) (_:er (al bK) d n r.k.at_ its) (_:bb (its.map Prod.fst)) (_:its.length<=200) {ea:Option Addr} {l:List bN} {ce:Nat} (_:St G w λ V=>dS V ea l) (_:l.length<=ce) (_:∀x∈l,mn x) (_:bb (l.map bN.key)) (_:l.length<=200),
 Calls Tryz.prog 142 (UU (zp Bw) (.agg (mV r.k.ka r.k.key.length r.k.kc r.k.at_ r.k.count r.h)) ea l.length ce) w λ e w'=>∃(ps:List (Pc an)) (q:Option Addr) (k:Nat),e= .returned (.slice q ps.length k)/\bU lC w' q k ps/\(∀p∈ps,St G w' λ V=>rE lC V p)/\LG (al bK) r its (l.map rF) (ps.map Pc.val)/\Below w w w':=by
 intro d
 induction d with
 |zero=>
  intro w b cf hF hW r n its G hG C6 WV eK fP wK fy ea l ce he EW gW De hl
  have Al:=af C6
  clear C6
  obtain⟨w2,da⟩:=aK ((w.alloc (.cells (fI r.k.ka r.k.key.length r.k.kc r.k.at_ r.k.count r.h) 285)).alloc (.cells (oT r.k.ka r.k.key.length r.k.kc r.k.at_ r.k.count r.h) 287))
  have aC:Below w w w2:=by rw[da];go_grown
  have ek:=aS (w2:=w2) (by rw[da];exact dp)
  have fZ:w2.heap.size=w.heap.size+1+1:=by rw[da];simp
  have fx:(w.alloc (.cells (fI r.k.ka r.k.key.length r.k.kc r.k.at_ r.k.count r.h) 285)).rangeAt w 0 (fI r.k.ka r.k.key.length r.k.kc r.k.at_ r.k.count r.h):=aj (World.alloc_heap_new _ _)
  have gR:w2.rangeAt w 0 (fI r.k.ka r.k.key.length r.k.kc r.k.at_ r.k.count r.h):=aj ek.1
  have p8:w2.cell? (za w 8)=some (.int .i64 (r.h:Int)):=(aa ek.1 8).T rfl
  have WW:bU lC w2 (zp (w.heap.size+1)) 1 [.kept r]:=⟨.inr ⟨_,_,rfl, λ j x hj=>by
   rcases j with _|j
   ·cases hj;rw[Nat.zero_mul,Nat.add_zero];exact aj ek.2
   ·simp at hj⟩, λ p hp=>by rw[List.mem_singleton]at hp;subst hp;exact eK.here.below aC,aW, λ e=>(by cases e),.inr ⟨_,_,rfl⟩⟩
  have HWH:=af WW
  have HKS:Hid (∀V,Below w2 w2 V->∀p∈[Pc.kept (α:=an) r],St G V λ V=>rE lC V p):=af λ V hV p hp=>by rw[List.mem_singleton]at hp;subst hp;exact eK.go (gd.aA (aC.T (hV.mono aC.size)))
  have Pe:=af hG
  have bR:=jo aC ek fZ da
  by_cases zv:l.length=0
  ·have hle:l=[]:=List.length_eq_zero_iff.1 zv
   subst hle
   clear zv hl EW he gW De fP wK fy eK hW hF hG
   rw[da]at p8 gR
   clear aC ek fZ da WW
   go_enter Tryz.func142,Tryz.ntmps142
   go_wp2_with first
    |(refine bh 285 ?_)
    |fail
   go_ret
   rw[<-bR.O.2.2.2]
   exact⟨[.kept r],some ⟨w.heap.size+1,0,none⟩,1,rfl,HWH.O,HKS.O _ (dp),.inl ⟨rfl,rfl⟩,bR.O.1⟩
  have acy:((l.length:Int)==0)=false:=by rw[beq_eq_false_iff_ne];omega
  have acz:¬ l.length=0:=zv
  have Kx:(l.length:Int)<=200:=ag
  cases n with
  |inner xs=>exact fP.elim
  |leaf xs=>
   have zS:jb xs:=fP.node.2.1.1
   have HL:=af (pY (hF.below aC) hm (hW.below aC) r.k.ka r.k.key.length r.k.kc r.k.at_ r.k.count r.h (n:=.leaf xs) (by simp[Nd.is,Al.O]) fP.node.1 fP.node.2.1)
   have oP:its=xs.map eC:=fP.2.2
   have hd0:((r.h:Int)==0)=true:=by simp[Al.O]
   have HE:=jo (he.here.below aC) gW De hl
   have HES:=af he
   have HX:=cV zS oP wK
   have adJ:=zS.kT
   rw[da]at HL p8 gR
   clear zv hl EW he gW De fP wK fy eK hW hF hG aC ek fZ da WW zS oP
   go_enter Tryz.func142,Tryz.ntmps142
   go_wp2_with first
    |(refine bh 285 ?_)
    |((with_reducible refine HL.O.mono ?_);rintro e w3 ⟨m,a,k,cS,rfl,hR,aL⟩
      rw[<-bR.O.2.2.2]at aL hR
      rcases m with ys|ys
      rotate_left
      ·exact cS.elim
      have Uj:ys.length<=6:=by have:=congrArg List.length cS.1;simp at this;omega
      have Ai:=CI xs ys cS.1 cS.2
      have Q5:dU w3 w2.heap.size a k ys:=hR
      have Uk:∀y∈ys,y.key.length<=120/\y.val.length<=100:= λ y hy=>by
       have h1:eC y∈xs.map eC:=by rw[<-Ai];exact List.mem_map.2 ⟨y,hy,rfl⟩
       obtain⟨x,hx,e⟩:=List.mem_map.1 h1
       have e1:x.key=y.key:=congrArg Prod.fst e
       have e2:x.val=y.val:=congrArg Prod.snd e
       have:=HX.O.1.key x hx
       rw[e1,e2]at this;omega
      have kK:mW w3 a k ys:=by
       refine⟨bj.gX Q5.1 (λ _=>rfl) bd, λ y hy=>(Q5.2 y hy).1,js Q5.1, λ e=>?_,?_,ag, λ y hy=>aM (Uk y hy)⟩
       ·rcases Q5.1.2 with⟨h,_⟩|⟨g,cap,cur,h,_⟩
        ·injection h
        ·subst e;cases h
       ·rcases ay Q5.1 with⟨h,_⟩|⟨g,cur,h,_⟩
        ·exact .inl h
        ·exact .inr ⟨_,_,h⟩
      have hry:bb (ys.map an.key):=by
       have h1:=HX.O.2.2
       rw[HX.O.2.1,<-Ai,List.map_map]at h1
       exact h1
      have Qy:=af (Es ce kK hry (HE.O.1.below aL) HE.O.2.1 HE.O.2.2.1 (aM HE.O.2.2.2))
      have HY:=BM Uj Ai Q5 Uk aL
      simp only[Nd.v,Nd.is,Nd.a1,Nd.n1,Nd.k1,Nd.a2,Nd.n2,Nd.k2]
      have VQ:∀W,(Instr.field 169 (.agg (nr a ys.length k)) 1).run Tryz.prog W= .ok (.slice a ys.length k) W:= λ W=>aO
      clear cS hR aL Uj Ai Q5 Uk kK hry)
    |((with_reducible refine Qy.O.mono ?_);rintro e w4 ⟨a',c',rfl,eW,bH⟩
      have RD:dQ w4 a ys:=(HY.O.2.2.1.at).below bH
      have fH:Below w2 w2 w4:=HY.O.2.2.2.2.T (bH.mono HY.O.2.2.2.2.size)
      have hln:dQ w4 a' (bE ys l):=ke eW λ z hz=>by
       rcases qk hz with h|⟨x,hx,rfl⟩
       ·exact⟨((HY.O.2.2.1.2 z h).1.1).below bH,((HY.O.2.2.1.2 z h).1.2).below bH⟩
       ·exact⟨((HE.O.1.below fH).2 x hx).1,((HE.O.1.below fH).2 x hx).2⟩
      have ja:=js eW
      have Pf:a'=none\/∃B o,a'=some ⟨B,o,none⟩:=by
       rcases ay eW with⟨h,_⟩|⟨g,cur,h,_⟩
       ·exact .inl h
       ·exact .inr ⟨_,_,h⟩
      have KM:a'=none->c'=0:= λ e=>by
       rcases eW.2 with⟨h,_⟩|⟨g,cap,cur,h,_⟩
       ·injection h
       ·subst e;cases h
      have Ae:=af (OQ k c' RD hln ⟨by have:=HY.O.1;omega, λ y hy=>aM (HY.O.2.2.2.1 y hy)⟩)
      have HLO:Hid (ec lC w4 a' c' (bE ys l)):=af ⟨(kV.1 hln).1, λ y hy=>(kV.1 hln).2 y hy,ja,KM,Pf⟩
      have iJ:=af fH
      have uM:=cj eW bH
      clear eW bH RD fH hln ja Pf KM)
    |((with_reducible refine Ae.O.mono ?_);rintro e w5 ⟨sm,rfl,fG,bJ⟩
      have RE:=cj fG bJ
      clear fG bJ
      cases sm)
    |fail
   ·obtain⟨W6,hW6⟩:=aK (w5.alloc (.cells (j6 a' (bE ys l).length c') 287))
    go_ret
    rw[<-hW6]
    have hn6:W6.heap[w5.heap.size]? =some (.cells (j6 a' (bE ys l).length c') 287):=jJ hW6
    have WX:Below w4 w4 W6:=by rw[hW6];exact RE.O.2.alloc RE.O.2.size _
    have abc:Below w3 w3 W6:=uM.O.2.T (WX.mono uM.O.2.size)
    have acA:Below w2 w2 W6:=iJ.O.T (WX.mono iJ.O.size)
    have fD:Below w w W6:=bR.O.1.T (acA.mono bR.O.1.size)
    have adK:=bR.O.1.size
    have adL:=HY.O.2.2.2.2.size
    have iZ:St G W6 λ V=>ec lC V a' c' (bE ys l):= λ V hV=>by
     refine⟨WH uM.O.1 (λ _=>rfl) bd WX (λ j hj=>.inl (aM (Pe.O j hj))) V hV, λ z hz=>?_,HLO.O.cap,HLO.O.nil,HLO.O.plain⟩
     rcases qk hz with h|⟨x,hx,rfl⟩
     ·have h1:=HY.O.2.2.1.2 z h
      exact⟨pK h1.1.1 h1.2.1 abc (λ j hj=>.inl (aM (Pe.O j hj))) V hV,pK h1.1.2 h1.2.2.1 abc (λ j hj=>.inl (aM (Pe.O j hj))) V hV⟩
     ·have h1:=(HES.O.go (gd.aA fD)) V hV
      exact⟨(h1.2 x hx).1,(h1.2 x hx).2⟩
    have Ai:(bE ys l).map eC=dK its (l.map rF):=by rw[wQ,HY.O.2.1,HX.O.2.1]
    refine⟨[.loose a' c' (bE ys l)],some ⟨w5.heap.size,0,none⟩,1,rfl,⟨.inr ⟨_,_,rfl, λ j x hj=>?_⟩, λ p hp=>?_,aW, λ e=>(by cases e),.inr ⟨_,_,rfl⟩⟩, λ p hp=>?_,.inr ⟨aT.one.2 (aT.its.2 Ai.symm),?_,rfl⟩,fD⟩
    ·rcases j with _|j
     ·cases hj;rw[Nat.zero_mul,Nat.add_zero];exact aj hn6
     ·simp at hj
    ·rw[List.mem_singleton]at hp;subst hp;exact iZ.here
    ·rw[List.mem_singleton]at hp;subst hp;exact iZ
    ·have:=HX.O.1.DQ;rw[HX.O.2.1];simp;omega
   ·go_ret
    have hk:its=(bE ys l).map eC:=by rw[HX.O.2.1,<-HY.O.2.1];exact RE.O.1 trivial
    have WY:Below w2 w2 w5:=iJ.O.T (RE.O.2.mono iJ.O.size)
    refine⟨[.kept r],some ⟨w.heap.size+1,0,none⟩,1,rfl,HWH.O.below WY,HKS.O _ WY,.inl ⟨rfl,?_⟩,bR.O.1.T (WY.mono bR.O.1.size)⟩
    have h1:=wQ l ys
    rw[HY.O.2.1,<-HX.O.2.1,<-hk]at h1
    exact h1.symm
 |succ d ih=>
  intro w b cf hF hW r n its G hG C6 WV eK fP wK fy ea l ce he EW gW De hl
  have Al:=af C6
  clear C6
  obtain⟨w2,da⟩:=aK ((w.alloc (.cells (fI r.k.ka r.k.key.length r.k.kc r.k.at_ r.k.count r.h) 285)).alloc (.cells (oT r.k.ka r.k.key.length r.k.kc r.k.at_ r.k.count r.h) 287))
  have aC:Below w w w2:=by rw[da];go_grown
  have ek:=aS (w2:=w2) (by rw[da];exact dp)
  have fZ:w2.heap.size=w.heap.size+1+1:=by rw[da];simp
  have fx:(w.alloc (.cells (fI r.k.ka r.k.key.length r.k.kc r.k.at_ r.k.count r.h) 285)).rangeAt w 0 (fI r.k.ka r.k.key.length r.k.kc r.k.at_ r.k.count r.h):=aj (World.alloc_heap_new _ _)
  have gR:w2.rangeAt w 0 (fI r.k.ka r.k.key.length r.k.kc r.k.at_ r.k.count r.h):=aj ek.1
  have p8:w2.cell? (za w 8)=some (.int .i64 (r.h:Int)):=(aa ek.1 8).T rfl
  have WW:bU lC w2 (zp (w.heap.size+1)) 1 [.kept r]:=⟨.inr ⟨_,_,rfl, λ j x hj=>by
   rcases j with _|j
   ·cases hj;rw[Nat.zero_mul,Nat.add_zero];exact aj ek.2
   ·simp at hj⟩, λ p hp=>by rw[List.mem_singleton]at hp;subst hp;exact eK.here.below aC,aW, λ e=>(by cases e),.inr ⟨_,_,rfl⟩⟩
  have HWH:=af WW
  have HKS:Hid (∀V,Below w2 w2 V->∀p∈[Pc.kept (α:=an) r],St G V λ V=>rE lC V p):=af λ V hV p hp=>by rw[List.mem_singleton]at hp;subst hp;exact eK.go (gd.aA (aC.T (hV.mono aC.size)))
  have Pe:=af hG
  have bR:=jo aC ek fZ da
  by_cases zv:l.length=0
  ·have hle:l=[]:=List.length_eq_zero_iff.1 zv
   subst hle
   clear zv hl EW he gW De fP wK fy eK hW hF hG ih
   rw[da]at p8 gR
   clear aC ek fZ da WW
   go_enter Tryz.func142,Tryz.ntmps142
   go_wp2_with first
    |(refine bh 285 ?_)
    |fail
   go_ret
   rw[<-bR.O.2.2.2]
   exact⟨[.kept r],some ⟨w.heap.size+1,0,none⟩,1,rfl,HWH.O,HKS.O _ (dp),.inl ⟨rfl,rfl⟩,bR.O.1⟩
  have acy:((l.length:Int)==0)=false:=by rw[beq_eq_false_iff_ne];omega
  have acz:¬ l.length=0:=zv
  have Kx:(l.length:Int)<=200:=ag
  cases n with
  |leaf xs=>exact fP.elim
  |inner xs=>
   have Db:Hid (r.h=d+1/\d+1<=50):=af ⟨Al.O,WV⟩
   have kD:=dt.kT fP.node.2.1
   have abd:=dt.DR fP.node.2.1
   have abe:=af (xP (hF.below aC) hm (hW.below aC) r.k.ka r.k.key.length r.k.kc r.k.at_ r.k.count d r.h (aM Al.O) ag fP.node.1 fP.node.2.1)
   have Yi:Hid (∀{V:World} (hb:Below w w V) {r:aN} {n:Nd} {its:List KV} (G:Nat->Prop) (_:∀j,G j->j<V.heap.size) (_:r.h=d) (_:d<=50) (_:St G V λ V=>ai V r.k.ka r.k.key) (_:er (al bK) d n r.k.at_ its) (_:bb (its.map Prod.fst)) (_:its.length<=200) {ea:Option Addr} {l:List bN} {ce:Nat} (_:St G V λ V=>dS V ea l) (_:l.length<=ce) (_:∀x∈l,mn x) (_:bb (l.map bN.key)) (_:l.length<=200),
    Calls Tryz.prog 142 (UU (zp Bw) (.agg (mV r.k.ka r.k.key.length r.k.kc r.k.at_ r.k.count r.h)) ea l.length ce) V λ e w'=>∃(ps:List (Pc an)) (q:Option Addr) (k:Nat),e= .returned (.slice q ps.length k)/\bU lC w' q k ps/\(∀p∈ps,St G w' λ V=>rE lC V p)/\LG (al bK) r its (l.map rF) (ps.map Pc.val)/\Below V V w'):=af (λ hb=>ih (hF.below hb) (hW.below hb))
   obtain⟨Be,oe0,rfl⟩:=he.here.1.some_ ag
   have hd0:((r.h:Int)==0)=false:=by rw[beq_eq_false_iff_ne];have:=Al.O;omega
   have HX:=XE fP fy wK kD abd (yP De)
   have Hu:=BM he EW gW De hl
   rw[da]at abe p8 gR
   clear zv hl EW he gW De fP wK fy eK hW hF hG aC ek fZ da WW ih kD abd WV
   go_enter Tryz.func142,Tryz.ntmps142
   go_wp2_with first
    |(refine bh 285 ?_)
    |((with_reducible refine abe.O.mono ?_);rintro e w3 ⟨ys,ya,yk,cS,rfl,hR,aL⟩
      rw[<-bR.O.2.2.2]at aL hR
      have mK:=cV cS hR aL
      clear cS hR aL)
    |fail
   have CG:ys.length=xs.length:=by have:=congrArg List.length mK.O.1.1;simpa using this
   have hy6:(ys.length:Int)<=6:=aM HX.O.2.2.2.1
   have HYX:=af CG
   have HRA:=af (xM.at mK.O.2.1)
   have oG:Hid (wm (al bK) d (l.map rF) its ys [] (l.map rF)):=af (wm.start (yJ HX.O.1 mK.O.1.1 mK.O.1.2.1 mK.O.1.2.2) (λ e=>by have:=HX.O.2.2.2.2.1;rw[e]at CG;simp at CG;omega))
   clear CG
   go_loopw [2,11,48] (λ tv rv iv wr=>∃(i oe:Nat) (lr:List bN) (cr:Nat) (ms:List (Pc an)) (q:Option Addr) (k':Nat),i<=ys.length/\iv= .int .i64 (i:Int)/\tv= .slice (some ⟨Be,oe,none⟩) lr.length cr/\rv= .slice q ms.length k'/\Hid ((St G w λ V=>dS V (some ⟨Be,oe,none⟩) lr)/\lr.length<=cr/\(∀x∈lr,mn x)/\bb (lr.map bN.key)/\lr.length<=200)/\Hid (tk lC 287 G w3 wr q k' ms)/\Hid (wm (al bK) d (l.map rF) its (ys.drop i) (ms.map Pc.val) (lr.map rF))) (λ _ _ iv _=>ys.length - (intOf iv).toNat)
   case atStart=>exact⟨0,oe0,l,ce,[],none,0,ag,rfl,rfl,rfl,Hu,af (tk.start λ j hj=>zI (Pe.O j hj) bR.O.1.size mK.O.2.2.size),oG⟩
   case round=>
    obtain⟨Wr,rfl⟩:=aK wr
    obtain⟨i,oe,lr,cr,ms,q,k',hi,rfl,rfl,rfl,iQ,HP,HI⟩:=hrel
    by_cases bg:i<ys.length
    ·obtain⟨y,hy⟩:∃y,ys[i]? =some y:=⟨ys[i],by simp[bg]⟩
     have T9:(ys.map λ y=>(⟨y,d⟩:aN))[i]? =some ⟨y,d⟩:=by rw[List.getElem?_map,hy];rfl
     obtain⟨Br,o,rfl⟩:=HRA.O.row.some_ (by rw[List.length_map];omega)
     have hg:Wr.rangeAt Br (o+i*9) (fI y.ka y.key.length y.kc y.at_ y.count d):=(HRA.O.row.below HP.O.base).get T9
     have gy:(i:Int)<(ys.length:Int):=ag
     have rj:(i:Int)<=6:=ag
     obtain⟨V1,lO⟩:=aK (Wr.alloc (.cells (fI y.ka y.key.length y.kc y.at_ y.count d) 285))
     have jA:Below Wr Wr V1:=by rw[lO];go_grown
     have jI:V1.heap[Wr.heap.size]? =some (.cells (fI y.ka y.key.length y.kc y.at_ y.count d) 285):=jJ lO
     have hkm:=mK.O.2.1.2 _ (List.mem_of_getElem? T9)
     have Yo:=af hkm
     have eP:=cj jA jI
     have hI:=HI.O
     rw[jc hy]at hI
     have HMS:Hid (ms.length<=200):=af (by have:=hI.C3.1;rw[List.length_map]at this;have:=HX.O.2.1;omega)
     obtain⟨s1,hpk⟩:=hI.WG HX.O.2.2.1
     have Ip:=af hpk
     obtain⟨i1,tZ⟩:=aK (i+1)
     have aH:IntKind.i64.wrap ((i:Int)+1)=(i1:Int):=by rw[IntKind.wrap_i64];omega
     have Bo:=cj tZ bg
     have adM:(lr.length:Int)<=200:=aM iQ.O.2.2.2.2
     by_cases sj:i1<ys.length
     ·obtain⟨z,hz⟩:∃z,ys[i1]? =some z:=⟨ys[i1],by simp[sj]⟩
      have hzr:(ys.map λ y=>(⟨y,d⟩:aN))[i1]? =some ⟨z,d⟩:=by rw[List.getElem?_map,hz];rfl
      have eU:Wr.rangeAt Br (o+i1*9) (fI z.ka z.key.length z.kc z.at_ z.count d):=(HRA.O.row.below HP.O.base).get hzr
      have HZ:=cV (eU 0 _ rfl) (HRA.O.keys _ (List.mem_of_getElem? hzr)) hz
      have VS:(i1:Int)<(ys.length:Int):=ag
      have adN:(i1:Int)<=6:=ag
      have OP:=af lO
      clear hy T9 jA jI hkm hI hpk tZ hz hzr eU sj bg lO
      go_wp2_with first
       |(refine bh 285 ?_)
       |(refine et 285 ?_)
       |fail
      rw[<-OP.O]
      go_loopw [15] (λ nv wv=>∃nn:Nat,nn<=lr.length/\nv= .int .i64 (nn:Int)/\Hid (Below V1 V1 wv)/\Hid (∀(j:Nat) (x:bN),j<nn->lr[j]? =some x->fV x.key z.key)) (λ nv _=>lr.length - (intOf nv).toNat)
      case atStart=>exact⟨0,ag,rfl,af (dp),af (λ j x hj=>ag)⟩
      case round=>
       obtain⟨nn,abf,rfl,mQ,Ce⟩:=hrel
       obtain⟨Wn,rfl⟩:=aK wr
       by_cases Iq:nn<lr.length
       ·obtain⟨x,hx⟩:∃x,lr[nn]? =some x:=⟨lr[nn],by simp[Iq]⟩
        have acB:(nn:Int)<(lr.length:Int):=ag
        have acC:(nn:Int)<=200:=ag
        have WZ:Below w w Wn:=(bR.O.1.T ((mK.O.2.2.T ((HP.O.base.T ((eP.O.1.T (mQ.O.mono eP.O.1.size)).mono HP.O.base.size)).mono mK.O.2.2.size)).mono bR.O.1.size))
        have W8:Below w3 w3 Wn:=HP.O.base.T ((eP.O.1.T (mQ.O.mono eP.O.1.size)).mono HP.O.base.size)
        have W9:Below Wr Wr Wn:=eP.O.1.T (mQ.O.mono eP.O.1.size)
        have Yp:=(iQ.O.1.go (gd.aA WZ)).here
        have c1:Wn.cell? ⟨Be,oe+nn*5,none⟩=some (.slice x.ka x.key.length x.kc):=(Yp.1.get hx) 0 _ rfl
        have c2:Wn.cell? ⟨Br,o+i1*9,none⟩=some (.slice z.ka z.key.length z.kc):=carry W9 HZ.O.1
        have A2:=af (sH x.kc z.kc ((Yp.2 x (List.mem_of_getElem? hx)).1.below (Below.refl _ Wn).drew) (HZ.O.2.1.below W8.drew) (by have:=iQ.O.2.2.1 x (List.mem_of_getElem? hx);unfold mn at this;omega))
        have Mr:=cj hx Iq
        by_cases vV:cmpL x.key z.key<0
        ·have hdt:decide (cmpL x.key z.key<0)=true:=by simp[vV]
         rw[hdt]at A2
         have acD:Hid (∀(j:Nat) (x:bN),j<nn+1->lr[j]? =some x->fV x.key z.key):=af λ j x' hj QH=>by
          rcases Nat.lt_or_ge j nn with h|h
          ·exact Ce.O j x' h QH
          ·obtain rfl:j=nn:=ag
           rw[hx]at QH;cases QH
           unfold fV;rcases mO x.key z.key with h|h|h<;>omega
         clear hx Iq WZ W8 W9 Yp hdt vV
         go_wp2_with fail
         refine bP 19 ?_
         refine tP [0,1,2,3,4,5,6,7,8,9,10,11,12,13,14,15,16] ?_
         iterate 17 refine tO ?_
         refine ah 2 rfl ?_
         refine sP 17 [0,1,2,3,4,5,6,7,8,9,10,11,12,13,14,15,16] λ K hK=>?_
         go_simp
         (with_reducible refine A2.O.mono ?_);rintro e w4 ⟨rfl,gA⟩;rw[gA];clear gA w4
         refine nP hK ?_
         clear hK K
         refine tP [18] ?_
         refine tO ?_
         refine ah 0 rfl ?_
         refine dP ?_
         go_simp
         go_wp2_with fail
         exact⟨⟨nn+1,by have:=Mr.O.2;omega,by simp,af mQ.O.drew,acD⟩,by have:=Mr.O.2;simp[intOf];omega⟩
        ·have hdt:decide (cmpL x.key z.key<0)=false:=by simp[vV]
         rw[hdt]at A2
         have ry:Hid (Sx (ys.drop i1) (lr.map rF) ((lr.take nn).map rF) ((lr.drop nn).map rF)):=af ⟨(by rw[<-List.map_append,List.take_append_drop]), λ z' r e=>(by
          rw[jc HZ.O.2.2]at e
          cases e
          refine⟨λ e' wc=>?_, λ e' wc=>?_⟩
          ·obtain⟨x',QH,rfl⟩:=List.mem_map.1 wc
           obtain⟨j,hj⟩:=List.getElem?_of_mem QH
           rw[List.getElem?_take]at hj
           split at hj
           ·exact Ce.O j x' UB hj
           ·cases hj
          ·rw[List.getElem?_map,List.getElem?_drop,Nat.add_zero,hx]at wc
           cases wc
           unfold fV;show¬ cmpL x.key z.key= -1;omega), λ e=>(by rw[jc HZ.O.2.2]at e;cases e)⟩
         clear hx WZ W8 W9 Yp hdt vV
         go_wp2_with fail
         refine bP 19 ?_
         refine tP [0,1,2,3,4,5,6,7,8,9,10,11,12,13,14,15,16] ?_
         iterate 17 refine tO ?_
         refine ah 2 rfl ?_
         refine sP 17 [0,1,2,3,4,5,6,7,8,9,10,11,12,13,14,15,16] λ K hK=>?_
         go_simp
         (with_reducible refine A2.O.mono ?_);rintro e w4 ⟨rfl,gA⟩;rw[gA];clear gA w4
         refine nP hK ?_
         clear hK K
         refine tP [18] ?_
         refine tO ?_
         refine ah 0 rfl ?_
         refine dP ?_
         go_simp
         go_wp2_with fail
         obtain⟨Wx,hWx⟩:=aK Wn.drew
         have mQ:=af mQ.O.drew
         rw[<-hWx]at mQ⊢
         clear hWx c1 c2
         have abf:nn<=lr.length:=aM Mr.O.2
         have ey:Below V1 V1 Wx:=mQ.O
         have pM:Below Wr Wr Wx:=eP.O.1.T (ey.mono eP.O.1.size)
         have Ul:=HP.O.other pM
         have yX:Below w3 w3 Wx:=HP.O.base.T (pM.mono HP.O.base.size)
         have Fl:Below w2 w2 Wx:=mK.O.2.2.T (yX.mono mK.O.2.2.size)
         have pN:Below w w Wx:=bR.O.1.T (Fl.mono bR.O.1.size)
         have qz:=(ey.block _ (aX eP.O.2).1).T eP.O.2
         have qc:= λ j=>aa qz j
         have q0:=(qc 0).T rfl
         have q1:=(qc 1).T rfl
         have q2:=(qc 2).T rfl
         have q3:=(qc 3).T rfl
         have q4:=(qc 4).T rfl
         have q5:=(qc 5).T rfl
         have q6:=(qc 6).T rfl
         have q7:=(qc 7).T rfl
         have q8:=(qc 8).T rfl
         simp only[aD]at q0 q1 q2 q3 q4 q5 q6 q7 q8
         clear qc
         have Fm:∀j,(G j\/lp q j)->j<Wx.heap.size:= λ j hj=>by
          rcases hj with hj|hj
          ·have:=Pe.O j hj;have:=pN.size;omega
          ·have:=HP.O.tl hj;have:=pM.size;omega
         have zx:∀j,(G j\/lp q j)->G j\/w.heap.size<=j:= λ j hj=>hj.imp id λ hj=>zI (HP.O.tl hj) bR.O.1.size mK.O.2.2.size
         have vO:St (λ j=>G j\/lp q j) Wx.drew λ V=>ai V y.ka y.key:=(pK (n:=w2.heap.size) Yo.O.1 Yo.O.2 (yX.drew) λ j hj=>by
          rcases hj with hj|hj
          ·left;have:=Pe.O j hj;have:=bR.O.1.size;omega
          ·right;exact(HP.O.tl hj).1)
         have Fo:St (λ j=>G j\/lp q j) Wx.drew λ V=>dS V (some ⟨Be,oe,none⟩) (lr.take nn):=(iQ.O.1.pull (pN.drew) zx).imp λ V h=>⟨h.1.take nn, λ x hx=>h.2 x (List.mem_of_mem_take hx)⟩
         obtain⟨nd,CV,Pg⟩:=Ip.O.1
         have Iq:(lr.take nn).length=nn:=by rw[List.length_take];omega
         have Fp:=af (Yi.O (hb:=pN.drew) (r:=⟨y,d⟩) (n:=nd) (its:=s1) (λ j=>G j\/lp q j) Fm rfl (aM Db.O) vO CV Ip.O.2.1 (cG Ip.O.2.2.1 HX.O.2.1) (ce:=nn) Fo ag (λ x hx=>iQ.O.2.2.1 x (List.mem_of_mem_take hx)) (kz iQ.O.2.2.2.1 nn).1 (by rw[Iq];have:=iQ.O.2.2.2.2;omega))
         rw[Iq]at Fp
         have HPX:=cV Ul pN pM
         have abg:(nn:Int)<=(lr.length:Int):=ag
         have abh:(nn:Int)<=(cr:Int):=aM iQ.O.2.1
         have abi:(lr.length:Int)<=(cr:Int):=aM iQ.O.2.1
         clear ey pM Ul yX Fl pN qz Fm zx vO Fo CV Pg Iq
         skip
         refine bP 10 ?_
         refine tP [0,1,2,3,4,5,6] ?_
         iterate 7 refine tO ?_
         refine ah 3 rfl ?_
         refine sP 7 [1,2,3,4,5,6] λ K hK=>?_
         go_simp
         (with_reducible refine Fp.O.mono ?_);rintro e w5 ⟨Bu,q5,k5,rfl,j7,ny,ko,wE⟩
         have Ek:Bu.length<=200:=by
          have h1:Bu.length<=s1.length\/Bu.length<=1:=by
           rcases ko with⟨h,_⟩|⟨_,h,_⟩
           ·right;have:=congrArg List.length h;simp at this;omega
           ·left;rw[List.length_map]at h;exact h
          have:=Ip.O.2.2.1;have:=HX.O.2.1;omega
         obtain⟨a',c',w',bt,qj,Um⟩:=(HPX.O.1.other ((dp).drew.T wE)).KQ (P:=Tryz.prog) (TS:=282) (z:=(.agg fe)) (bytes:=120) aO nJ rfl bd j7 ny (aM HMS.O)
         have HN:=BM qj ko Ek wE Um
         clear j7 ny ko wE Ek qj Um
         refine nP hK ?_
         clear hK K
         refine sP 8 [0,1,2,3,4,5,6,7] λ K hK=>?_
         go_simp
         refine nP hK ?_
         clear hK K
         refine tP [9] ?_
         refine tO ?_
         refine ah 0 rfl ?_
         refine dP ?_
         go_simp
         go_wp2_with fail
         obtain⟨JL,Ph,dN⟩:∃JL,(if cr=nn then(some ⟨Be,oe,none⟩:Option Addr)else some ⟨Be,oe+nn*5,none⟩)=some ⟨Be,JL,none⟩/\St G w (λ V=>dS V (some ⟨Be,JL,none⟩) (lr.drop nn)):=by
          by_cases Qd:cr=nn
          ·exact⟨oe,if_pos Qd,iQ.O.1.imp λ V h=>⟨.inl (List.drop_eq_nil_iff.2 (aM iQ.O.2.1)), λ x hx=>h.2 x (List.mem_of_mem_drop hx)⟩⟩
          ·exact⟨oe+nn*5,if_neg Qd,iQ.O.1.imp λ V h=>⟨h.1.drop nn, λ x hx=>h.2 x (List.mem_of_mem_drop hx)⟩⟩
         refine⟨⟨i+1,JL,lr.drop nn,cr - nn,ms++Bu,a',c',Bo.O.2,by have:=Bo.O.1;simp;omega,(by first|(rw[Ph,List.length_drop])|(have bS:¬ cr=nn:=(aM iQ.O.2.1);rw[if_neg bS]at Ph;rw[Ph,List.length_drop])),by rw[List.length_append],af ⟨dN,by rw[List.length_drop];have:=iQ.O.2.1;omega, λ x hx=>iQ.O.2.2.1 x (List.mem_of_mem_drop hx),(kz iQ.O.2.2.2.1 nn).2,by rw[List.length_drop];have:=iQ.O.2.2.2.2;omega⟩,af HN.O.1,af ?_⟩,by have:=Bo.O.2;have:=Bo.O.1;simp[intOf];omega⟩
         rw[List.map_append]
         exact Ip.O.2.2.2 _ _ _ HX.O.2.2.2.2.2 (by have h:=ry.O;rw[Bo.O.1]at h;exact h) HN.O.2.1
       ·have acB:¬ (nn:Int)<(lr.length:Int):=ag
        have acC:(nn:Int)<=200:=ag
        have hnq:nn=lr.length:=ag
        have ry:Hid (Sx (ys.drop i1) (lr.map rF) ((lr.take nn).map rF) ((lr.drop nn).map rF)):=af ⟨(by rw[<-List.map_append,List.take_append_drop]), λ z' r e=>(by
         rw[jc HZ.O.2.2]at e
         cases e
         refine⟨λ e' wc=>?_, λ e' wc=>?_⟩
         ·obtain⟨x',QH,rfl⟩:=List.mem_map.1 wc
          obtain⟨j,hj⟩:=List.getElem?_of_mem QH
          rw[List.getElem?_take]at hj
          split at hj
          ·exact Ce.O j x' UB hj
          ·cases hj
         ·rw[hnq]at wc;simp at wc), λ e=>(by rw[jc HZ.O.2.2]at e;cases e)⟩
        clear hnq
        go_wp2_with fail
        refine bP 19 ?_
        refine Tu [(0,true),(1,true),(2,true),(3,true),(4,true),(5,false),(6,false),(7,false),(8,false),(9,false),(10,false),(11,false),(12,false),(13,false),(14,false),(15,false),(16,false)] ?_
        iterate 5 refine tO ?_
        iterate 12 refine tF ?_
        refine ah 2 rfl ?_
        refine sP 17 [0,1,2,3,4,5,6,7,8,9,10,11,12,13,14,15,16] λ K hK=>?_
        go_simp
        refine nP hK ?_
        clear hK K
        refine tP [18] ?_
        refine tO ?_
        refine ah 0 rfl ?_
        refine dP ?_
        go_simp
        go_wp2_with fail
        obtain⟨Wx,hWx⟩:=aK Wn.drew
        have mQ:=af mQ.O.drew
        rw[<-hWx]at mQ⊢
        clear hWx
        have ey:Below V1 V1 Wx:=mQ.O
        have pM:Below Wr Wr Wx:=eP.O.1.T (ey.mono eP.O.1.size)
        have Ul:=HP.O.other pM
        have yX:Below w3 w3 Wx:=HP.O.base.T (pM.mono HP.O.base.size)
        have Fl:Below w2 w2 Wx:=mK.O.2.2.T (yX.mono mK.O.2.2.size)
        have pN:Below w w Wx:=bR.O.1.T (Fl.mono bR.O.1.size)
        have qz:=(ey.block _ (aX eP.O.2).1).T eP.O.2
        have qc:= λ j=>aa qz j
        have q0:=(qc 0).T rfl
        have q1:=(qc 1).T rfl
        have q2:=(qc 2).T rfl
        have q3:=(qc 3).T rfl
        have q4:=(qc 4).T rfl
        have q5:=(qc 5).T rfl
        have q6:=(qc 6).T rfl
        have q7:=(qc 7).T rfl
        have q8:=(qc 8).T rfl
        simp only[aD]at q0 q1 q2 q3 q4 q5 q6 q7 q8
        clear qc
        have Fm:∀j,(G j\/lp q j)->j<Wx.heap.size:= λ j hj=>by
         rcases hj with hj|hj
         ·have:=Pe.O j hj;have:=pN.size;omega
         ·have:=HP.O.tl hj;have:=pM.size;omega
        have zx:∀j,(G j\/lp q j)->G j\/w.heap.size<=j:= λ j hj=>hj.imp id λ hj=>zI (HP.O.tl hj) bR.O.1.size mK.O.2.2.size
        have vO:St (λ j=>G j\/lp q j) Wx.drew λ V=>ai V y.ka y.key:=(pK (n:=w2.heap.size) Yo.O.1 Yo.O.2 (yX.drew) λ j hj=>by
         rcases hj with hj|hj
         ·left;have:=Pe.O j hj;have:=bR.O.1.size;omega
         ·right;exact(HP.O.tl hj).1)
        have Fo:St (λ j=>G j\/lp q j) Wx.drew λ V=>dS V (some ⟨Be,oe,none⟩) (lr.take nn):=(iQ.O.1.pull (pN.drew) zx).imp λ V h=>⟨h.1.take nn, λ x hx=>h.2 x (List.mem_of_mem_take hx)⟩
        obtain⟨nd,CV,Pg⟩:=Ip.O.1
        have Iq:(lr.take nn).length=nn:=by rw[List.length_take];omega
        have Fp:=af (Yi.O (hb:=pN.drew) (r:=⟨y,d⟩) (n:=nd) (its:=s1) (λ j=>G j\/lp q j) Fm rfl (aM Db.O) vO CV Ip.O.2.1 (cG Ip.O.2.2.1 HX.O.2.1) (ce:=nn) Fo ag (λ x hx=>iQ.O.2.2.1 x (List.mem_of_mem_take hx)) (kz iQ.O.2.2.2.1 nn).1 (by rw[Iq];have:=iQ.O.2.2.2.2;omega))
        rw[Iq]at Fp
        have HPX:=cV Ul pN pM
        have abg:(nn:Int)<=(lr.length:Int):=ag
        have abh:(nn:Int)<=(cr:Int):=aM iQ.O.2.1
        have abi:(lr.length:Int)<=(cr:Int):=aM iQ.O.2.1
        clear ey pM Ul yX Fl pN qz Fm zx vO Fo CV Pg Iq
        skip
        refine bP 10 ?_
        refine tP [0,1,2,3,4,5,6] ?_
        iterate 7 refine tO ?_
        refine ah 3 rfl ?_
        refine sP 7 [1,2,3,4,5,6] λ K hK=>?_
        go_simp
        (with_reducible refine Fp.O.mono ?_);rintro e w5 ⟨Bu,q5,k5,rfl,j7,ny,ko,wE⟩
        have Ek:Bu.length<=200:=by
         have h1:Bu.length<=s1.length\/Bu.length<=1:=by
          rcases ko with⟨h,_⟩|⟨_,h,_⟩
          ·right;have:=congrArg List.length h;simp at this;omega
          ·left;rw[List.length_map]at h;exact h
         have:=Ip.O.2.2.1;have:=HX.O.2.1;omega
        obtain⟨a',c',w',bt,qj,Um⟩:=(HPX.O.1.other ((dp).drew.T wE)).KQ (P:=Tryz.prog) (TS:=282) (z:=(.agg fe)) (bytes:=120) aO nJ rfl bd j7 ny (aM HMS.O)
        have HN:=BM qj ko Ek wE Um
        clear j7 ny ko wE Ek qj Um
        refine nP hK ?_
        clear hK K
        refine sP 8 [0,1,2,3,4,5,6,7] λ K hK=>?_
        go_simp
        refine nP hK ?_
        clear hK K
        refine tP [9] ?_
        refine tO ?_
        refine ah 0 rfl ?_
        refine dP ?_
        go_simp
        go_wp2_with fail
        obtain⟨JL,Ph,dN⟩:∃JL,(if cr=nn then(some ⟨Be,oe,none⟩:Option Addr)else some ⟨Be,oe+nn*5,none⟩)=some ⟨Be,JL,none⟩/\St G w (λ V=>dS V (some ⟨Be,JL,none⟩) (lr.drop nn)):=by
         by_cases Qd:cr=nn
         ·exact⟨oe,if_pos Qd,iQ.O.1.imp λ V h=>⟨.inl (List.drop_eq_nil_iff.2 (aM iQ.O.2.1)), λ x hx=>h.2 x (List.mem_of_mem_drop hx)⟩⟩
         ·exact⟨oe+nn*5,if_neg Qd,iQ.O.1.imp λ V h=>⟨h.1.drop nn, λ x hx=>h.2 x (List.mem_of_mem_drop hx)⟩⟩
        refine⟨⟨i+1,JL,lr.drop nn,cr - nn,ms++Bu,a',c',Bo.O.2,by have:=Bo.O.1;simp;omega,(by first|(rw[Ph,List.length_drop])|(have bS:¬ cr=nn:=(aM iQ.O.2.1);rw[if_neg bS]at Ph;rw[Ph,List.length_drop])),by rw[List.length_append],af ⟨dN,by rw[List.length_drop];have:=iQ.O.2.1;omega, λ x hx=>iQ.O.2.2.1 x (List.mem_of_mem_drop hx),(kz iQ.O.2.2.2.1 nn).2,by rw[List.length_drop];have:=iQ.O.2.2.2.2;omega⟩,af HN.O.1,af ?_⟩,by have:=Bo.O.2;have:=Bo.O.1;simp[intOf];omega⟩
        rw[List.map_append]
        exact Ip.O.2.2.2 _ _ _ HX.O.2.2.2.2.2 (by have h:=ry.O;rw[Bo.O.1]at h;exact h) HN.O.2.1
     ·have VS:¬ (i1:Int)<(ys.length:Int):=ag
      obtain⟨nn,RW⟩:=aK lr.length
      have mQ:Hid (Below V1 V1 V1):=af (dp)
      have ry:Hid (Sx (ys.drop i1) (lr.map rF) ((lr.take nn).map rF) ((lr.drop nn).map rF)):=af ⟨(by rw[<-List.map_append,List.take_append_drop]), λ z r e=>(by rw[List.drop_eq_nil_iff.2 ag]at e;cases e), λ _=>(by rw[RW];simp)⟩
      have OP:=af lO
      clear hy T9 jA jI hkm hI hpk tZ sj bg lO
      go_wp2_with first
       |(refine bh 285 ?_)
       |(refine et 285 ?_)
       |fail
      rw[<-OP.O]
      rw[<-RW]
      have abf:nn<=lr.length:=ag
      have HNN:=af RW
      clear RW
      have ey:Below V1 V1 V1:=mQ.O
      have pM:Below Wr Wr V1:=eP.O.1.T (ey.mono eP.O.1.size)
      have Ul:=HP.O.other pM
      have yX:Below w3 w3 V1:=HP.O.base.T (pM.mono HP.O.base.size)
      have Fl:Below w2 w2 V1:=mK.O.2.2.T (yX.mono mK.O.2.2.size)
      have pN:Below w w V1:=bR.O.1.T (Fl.mono bR.O.1.size)
      have qz:=(ey.block _ (aX eP.O.2).1).T eP.O.2
      have qc:= λ j=>aa qz j
      have q0:=(qc 0).T rfl
      have q1:=(qc 1).T rfl
      have q2:=(qc 2).T rfl
      have q3:=(qc 3).T rfl
      have q4:=(qc 4).T rfl
      have q5:=(qc 5).T rfl
      have q6:=(qc 6).T rfl
      have q7:=(qc 7).T rfl
      have q8:=(qc 8).T rfl
      simp only[aD]at q0 q1 q2 q3 q4 q5 q6 q7 q8
      clear qc
      have Fm:∀j,(G j\/lp q j)->j<V1.heap.size:= λ j hj=>by
       rcases hj with hj|hj
       ·have:=Pe.O j hj;have:=pN.size;omega
       ·have:=HP.O.tl hj;have:=pM.size;omega
      have zx:∀j,(G j\/lp q j)->G j\/w.heap.size<=j:= λ j hj=>hj.imp id λ hj=>zI (HP.O.tl hj) bR.O.1.size mK.O.2.2.size
      have vO:St (λ j=>G j\/lp q j) V1.drew λ V=>ai V y.ka y.key:=(pK (n:=w2.heap.size) Yo.O.1 Yo.O.2 (yX.drew) λ j hj=>by
       rcases hj with hj|hj
       ·left;have:=Pe.O j hj;have:=bR.O.1.size;omega
       ·right;exact(HP.O.tl hj).1)
      have Fo:St (λ j=>G j\/lp q j) V1.drew λ V=>dS V (some ⟨Be,oe,none⟩) (lr.take nn):=(iQ.O.1.pull (pN.drew) zx).imp λ V h=>⟨h.1.take nn, λ x hx=>h.2 x (List.mem_of_mem_take hx)⟩
      obtain⟨nd,CV,Pg⟩:=Ip.O.1
      have Iq:(lr.take nn).length=nn:=by rw[List.length_take];omega
      have Fp:=af (Yi.O (hb:=pN.drew) (r:=⟨y,d⟩) (n:=nd) (its:=s1) (λ j=>G j\/lp q j) Fm rfl (aM Db.O) vO CV Ip.O.2.1 (cG Ip.O.2.2.1 HX.O.2.1) (ce:=nn) Fo ag (λ x hx=>iQ.O.2.2.1 x (List.mem_of_mem_take hx)) (kz iQ.O.2.2.2.1 nn).1 (by rw[Iq];have:=iQ.O.2.2.2.2;omega))
      rw[Iq]at Fp
      have HPX:=cV Ul pN pM
      have abg:(nn:Int)<=(lr.length:Int):=ag
      have abh:(nn:Int)<=(cr:Int):=aM iQ.O.2.1
      have abi:(lr.length:Int)<=(cr:Int):=aM iQ.O.2.1
      clear ey pM Ul yX Fl pN qz Fm zx vO Fo CV Pg Iq
      go_wp2_with fail
      refine bP 10 ?_
      refine tP [0,1,2,3,4,5,6] ?_
      iterate 7 refine tO ?_
      refine ah 3 rfl ?_
      refine sP 7 [1,2,3,4,5,6] λ K hK=>?_
      go_simp
      (with_reducible refine Fp.O.mono ?_);rintro e w5 ⟨Bu,q5,k5,rfl,j7,ny,ko,wE⟩
      have Ek:Bu.length<=200:=by
       have h1:Bu.length<=s1.length\/Bu.length<=1:=by
        rcases ko with⟨h,_⟩|⟨_,h,_⟩
        ·right;have:=congrArg List.length h;simp at this;omega
        ·left;rw[List.length_map]at h;exact h
       have:=Ip.O.2.2.1;have:=HX.O.2.1;omega
      obtain⟨a',c',w',bt,qj,Um⟩:=(HPX.O.1.other ((dp).drew.T wE)).KQ (P:=Tryz.prog) (TS:=282) (z:=(.agg fe)) (bytes:=120) aO nJ rfl bd j7 ny (aM HMS.O)
      have HN:=BM qj ko Ek wE Um
      clear j7 ny ko wE Ek qj Um
      refine nP hK ?_
      clear hK K
      refine sP 8 [0,1,2,3,4,5,6,7] λ K hK=>?_
      go_simp
      refine nP hK ?_
      clear hK K
      refine tP [9] ?_
      refine tO ?_
      refine ah 0 rfl ?_
      refine dP ?_
      go_simp
      go_wp2_with fail
      obtain⟨JL,Ph,dN⟩:∃JL,(if cr=nn then(some ⟨Be,oe,none⟩:Option Addr)else some ⟨Be,oe+nn*5,none⟩)=some ⟨Be,JL,none⟩/\St G w (λ V=>dS V (some ⟨Be,JL,none⟩) (lr.drop nn)):=by
       by_cases Qd:cr=nn
       ·exact⟨oe,if_pos Qd,iQ.O.1.imp λ V h=>⟨.inl (List.drop_eq_nil_iff.2 (aM iQ.O.2.1)), λ x hx=>h.2 x (List.mem_of_mem_drop hx)⟩⟩
       ·exact⟨oe+nn*5,if_neg Qd,iQ.O.1.imp λ V h=>⟨h.1.drop nn, λ x hx=>h.2 x (List.mem_of_mem_drop hx)⟩⟩
      refine⟨⟨i+1,JL,lr.drop nn,cr - nn,ms++Bu,a',c',Bo.O.2,by have:=Bo.O.1;simp;omega,(by first|(rw[Ph,List.length_drop];rw[HNN.O,Nat.sub_self])|(have bS:¬ cr=nn:=(aM iQ.O.2.1);rw[if_neg bS]at Ph;rw[Ph,List.length_drop])),by rw[List.length_append],af ⟨dN,by rw[List.length_drop];have:=iQ.O.2.1;omega, λ x hx=>iQ.O.2.2.1 x (List.mem_of_mem_drop hx),(kz iQ.O.2.2.2.1 nn).2,by rw[List.length_drop];have:=iQ.O.2.2.2.2;omega⟩,af HN.O.1,af ?_⟩,by have:=Bo.O.2;have:=Bo.O.1;simp[intOf];omega⟩
      rw[List.map_append]
      exact Ip.O.2.2.2 _ _ _ HX.O.2.2.2.2.2 (by have h:=ry.O;rw[Bo.O.1]at h;exact h) HN.O.2.1
    ·obtain rfl:i=ys.length:=ag
     have hI:=HI.O
     rw[List.drop_eq_nil_iff.2 (aW)]at hI
     have Yf:ms.length<=200:=by have:=hI.C3.1;rw[List.length_map]at this;have:=HX.O.2.1;omega
     have cu:=hI.fin r
     have HPF:=af HP.O.fin
     have HC:=af (CP k' HPF.O.1 ag)
     have Xa:Below w3 w3 Wr:=HP.O.base
     have SL:Below w2 w2 Wr:=mK.O.2.2.T (Xa.mono mK.O.2.2.size)
     have Un:=cj SL (bR.O.1.T (SL.mono bR.O.1.size))
     have hav:=Sw ms
     rw[<-hav]at cu
     cases hb:ms.any (λ p=> !p.CN)with
     |false=>
      rw[hb]at HC cu
      have yp:=af (cu.1 rfl)
      clear hI cu Xa SL hav hb Yf
      go_wp2_with first
       |((with_reducible refine HC.O.mono ?_);rintro e w6 ⟨rfl,fD⟩
         have jY:=af fD
         clear fD)
       |fail
      go_ret
      exact⟨[.kept r],some ⟨w.heap.size+1,0,none⟩,1,rfl,HWH.O.below (Un.O.1.T (jY.O.mono Un.O.1.size)),HKS.O _ (Un.O.1.T (jY.O.mono Un.O.1.size)),yp.O,Un.O.2.T (jY.O.mono Un.O.2.size)⟩
     |true=>
      rw[hb]at HC cu
      have yp:=af (cu.2 rfl)
      clear hI cu Xa SL hav hb Yf
      go_wp2_with first
       |((with_reducible refine HC.O.mono ?_);rintro e w6 ⟨rfl,fD⟩
         have jY:=af fD
         clear fD)
       |fail
      go_ret
      exact⟨ms,q,k',rfl,HPF.O.1.below jY.O, λ p hp=>(HPF.O.2 p hp).go (gd.aA jY.O),yp.O,Un.O.2.T (jY.O.mono Un.O.2.size)⟩
theorem db.of(h:au W b c ps)(hg:W.heap[g]? =some (.cells cs t))(h8:∀(j x:Nat),cs[j]? ≠some (.int .u8 (x:Int)))(hs:∀(j:Nat) (a:Option Addr) (n k:Nat),cs[j]? ≠some (.slice a n k)):db g b ps:=by
 constructor
 ·rcases h.pieces.1 with h0|⟨B,o,e,hc⟩
  ·exact .inl h0
  ·cases ps with
   |nil=>exact .inl rfl
   |cons p0 E7=>
    refine .inr λ G o2 e2=>?_
    rw[e]at e2;cases e2
    rintro rfl
    have:=hc 0 p0 rfl
    rw[aa hg]at this
    exact hs _ _ _ _ this
 ·intro p hp G o e
  obtain⟨h1,_,h2⟩:=h.pieces.2 p hp
  rcases h2.2 with h0|⟨C,o2,e2,hc⟩
  ·exact absurd h0 h1
  ·rw[e]at e2;cases e2
   cases tK:p.2.1 with
   |nil=>exact absurd tK h1
   |cons x l=>
    rintro rfl
    have:=hc 0 x (by rw[tK];rfl)
    rw[aa hg]at this
    exact h8 _ _ this
theorem m8{w1 W7:World}{Bw n:Nat}(hb:Below w w w1)(ho:bm Bw w1 W)(hw:fp W Bw b ps.length c)(hF:au W b c ps)(hR:W.heap[R]? =some (.cells (ow at_ d n) t))(bS:Bw≠R)(hRw:w.heap.size<=R)(g2:∀j,j≠R->W7.heap[j]? =W.heap[j]?)(g3:∀U,w.heap.size<=R->Below w U W->Below w U W7):fp W7 Bw b ps.length c/\au W7 b c ps/\bm Bw w W7:=by
 have h7:Below w W W7:=g3 W hRw (dp)
 have h0:bm Bw w W:=(bm.aA hb).T ho
 exact⟨(g2 Bw bS).T hw,cO (g:=R) (λ j _ hj=>g2 j hj) hF (db.of hF hR (λ j x=>by rcases j with _|_|_|_|_|_|_|_|j<;>simp) (λ j a m k=>by rcases j with _|_|_|_|_|_|_|_|j<;>simp)),⟨h7.os.T h0.os,h7.tape.T h0.tape,h7.output.T h0.output,Nat.le_trans h0.size h7.size, λ k hk hn=>(h7.block k hk).T (h0.block k hk hn)⟩⟩
theorem Pj(Bw:Nat)(bK:List Piece)(hm:Marks (al bK))(hF:au w b cf bK)(hW:fp w Bw b bK.length cf)(ht:dh (al bK) at_ d c items)(vf:items.length<=200)(he:dS w ea l)(EW:l.length<=ce)(gW:∀x∈l,mn x)(De:bb (l.map bN.key))(hl:l.length<=200)(fy:its=dK items (l.map rF))(hlen:its.length<=200)(fG:cQ its)(dX:(al bK).length+200*its.length<=524288):
 Calls Tryz.prog 113 #[.pointer (zp Bw),cM at_ d c,.slice ea l.length ce] w λ e w'=>∃(oA d' c':Nat) (b':Option Addr) (bL:Nat) (bz:List Piece),e= .returned (cM oA d' c')/\fp w' Bw b' bz.length bL/\au w' b' bL bz/\Marks (al bz)/\dh (al bz) oA d' c' its/\(∃m,al bz=al bK++m)/\(al bz).length<=(al bK).length+120*its.length/\bm Bw w w':=by
 have wK:bb (its.map Prod.fst):=by rw[fy];exact qa.2 (sL (qa.1 ht.oW) (yP De)).1
 have gD:=jo hlen fG wK dX
 obtain⟨w1,aH⟩:=aK ((w.alloc (.cells (ju at_ d c) 41)).alloc (.cells sd 41))
 have aQ:Below w w w1:=by rw[aH];go_grown
 have bB:=aS (w2:=w1) (by rw[aH];exact dp)
 have dm:w1.heap.size=w.heap.size+1+1:=by rw[aH];simp
 have qv:=(aX hW).1
 have cZ:=jo aQ bB dm qv
 have sa:=cj (hF.below aQ) (hW.below aQ)
 have HM:=af hm
 have kg:=af aH
 have p0:w1.cell? (za w 0)=some (.int .i64 (at_:Int)):=(aa bB.1 0).T rfl
 have p1:w1.cell? (za w 1)=some (.int .i64 (d:Int)):=(aa bB.1 1).T rfl
 have abj:w1.rangeAt w 2 (qT c):=bp [.int .i64 (at_:Int),.int .i64 (d:Int)] (qT c) [] (aj bB.1)
 unfold cM
 by_cases h0:items=[]
 ·obtain⟨ha0,acE⟩:=ht.none_ h0
  subst h0
  have hz:((at_:Int)==0)=true:=by simp[ha0]
  have Qy:Hid (Calls Tryz.prog 141 #[.slice none 0 0,.slice ea l.length ce] w1 λ e' w'=>∃a' c',e'= .returned (.tuple (BH a' (bE [] l).length c'))/\w'.ownsRow w1 114 4 (.slice a' (bE [] l).length c') (bE [] l).length ((bE [] l).flatMap an.cells)/\Below w1 w1 w'):=af (Es (xs:=[]) ce ⟨.inl rfl, λ y hy=>(by cases hy),aW, λ _=>rfl,.inl rfl,by simp, λ y hy=>(by cases hy)⟩ (λ j a b h=>by simp at h) (he.below aQ) gW De ag)
  have iQ:=af (he.below aQ)
  have HKV:Hid (its=(bE [] l).map eC):=af (by rw[fy,wQ];rfl)
  have HDL:Hid ((bE [] l).length<=200):=af (by have h:=HKV.O;rw[h,List.length_map]at hlen;exact hlen)
  rw[aH]at Qy p0 p1 abj
  clear hm hF hW ht vf he EW gW De hl fy hlen fG dX wK aH aQ bB dm qv ha0 acE
  go_enter Tryz.func113,Tryz.ntmps113
  go_wp2_with first
   |((with_reducible refine Qy.O.mono ?_);rintro e w2 ⟨a',c',rfl,eW,aC⟩
     rw[<-kg.O]at eW aC
     obtain⟨V,hV⟩:=aK (w2.alloc (.cells (j6 a' (bE [] l).length c') 287))
     have jI:V.heap[w2.heap.size]? =some (.cells (j6 a' (bE [] l).length c') 287):=jJ hV
     have Xb:Below w2 w2 V:=by rw[hV];go_grown
     have Ar:Below w1 w1 V:=aC.T (Xb.mono aC.size)
     have zH:ec lC V a' c' (bE [] l):=ec.GV (bO.row (n₀:=w1.heap.size) Xb eW) (λ z hz=>by
      rcases qk hz with h|⟨x,hx,rfl⟩
      ·cases h
      ·exact⟨((iQ.O.below Ar).2 x hx).1,((iQ.O.below Ar).2 x hx).2⟩)
     have qi:bU lC V (zp w2) 1 [.loose a' c' (bE [] l)]:=⟨.inr ⟨_,_,rfl, λ j x hj=>by
      rcases j with _|j
      ·cases hj;rw[Nat.zero_mul,Nat.add_zero];exact aj jI
      ·simp at hj⟩, λ p hp=>by rw[List.mem_singleton]at hp;subst hp;exact zH,aW, λ e=>(by cases e),.inr ⟨_,_,rfl⟩⟩
     have h8:=(yW Bw bK HM.O 0 rfl (sa.O.1.below Ar) (sa.O.2.below Ar) qi (its:=its) (aT.one.2 (aT.its.2 HKV.O)) aR gD.O.1 gD.O.2.1 gD.O.2.2.1 (aM gD.O.2.2.2))
     have eP:=af Ar
     rw[show((0:Nat):Int)=0 from rfl]at h8
     simp only[List.length_cons,List.length_nil,Nat.zero_add]at h8
     have Yq:=af h8
     clear h8
     rw[hV]at Yq
     have HV:=af hV
     clear eW aC hV jI Xb Ar zH qi)
   |((with_reducible refine Yq.O.mono ?_);rintro e w6 ⟨Df,q6,k6,b6,Mx,rP,n6,rfl,pO,kC⟩
     rw[<-HV.O]at pO
     have eJ:Hid (oz Bw w1 w6 b6 Mx rP q6 Df):=af ⟨(bm.aA eP.O).T pO.only,pO.wk,pO.file,pO.marks,pO.roots⟩
     have Fq:=af (wu.start kC)
     clear pO kC)
   |fail
  have oG:=cj eJ.O Fq.O
  go_loopw [10,11] (λ rv hv wr=>∃(h hh:Nat) (rs:List aN) (q:Option Addr) (k:Nat) (b':Option Addr) (bL:Nat) (bz:List Piece),hv= .int .i64 (h:Int)/\rv= .slice q rs.length k/\Hid (h=hh+1)/\Hid (oz Bw w1 wr b' bL bz q rs)/\Hid (wu (al bK) (al bz) hh rs its)) (λ _ hv _=>100 - (intOf hv).toNat)
  case atStart=>exact⟨1,0,_,_,_,_,_,_,by simp,rfl,af rfl,af oG.O.1,af oG.O.2⟩
  case round=>
   obtain⟨Wr,rfl⟩:=aK wr
   obtain⟨h,hh,rs,q,k,b',bL,bz,rfl,rfl,HH,HE,HT⟩:=hrel
   have Uo:rs.length<=200:=cG HT.O.C3 gD.O.1
   have abk:(rs.length:Int)<=200:=ag
   have c5:Wr.cell? (za Bw 5)=some (.int .i64 0):=(aa HE.O.wk 5).T rfl
   by_cases rh:1<rs.length
   ·have Qx:(1:Int)<(rs.length:Int):=ag
    have Pk:decide ((1:Int)<(rs.length:Int))=true:=bV
    obtain⟨lh,Fs⟩:=HT.O.many rh
    have Ft:hh<=10:=OZ Fs gD.O.1
    have hh6:(h:Int)<=11:=aM HH.O
    have aH:IntKind.i64.wrap ((h:Int) - 1)=(hh:Int):=by have:=HH.O;rw[IntKind.wrap_i64];omega
    have HPA:=af (uL k hh HE.O.roots ag)
    have Ae:=cV lh Ft rh
    clear lh Fs Ft rh
    go_wp2_with first
     |((with_reducible refine HPA.O.mono ?_);rintro e w5 ⟨Bu,q5,k5,rfl,JM,Up,bJ⟩
       have Ek:Bu.length=rs.length:=by have:=congrArg List.length JM;simpa using this
       have HLK:=af (rO Bw bz HE.O.marks h hh HH.O (HE.O.file.below bJ) (HE.O.wk.below bJ) Up (its:=its) (by rw[JM];exact ts Ae.O.1) ag gD.O.1 gD.O.2.1 gD.O.2.2.1 (cG HT.O.cost gD.O.2.2.2) (by rw[JM,nW];have:=Ae.O.2.2;omega))
       have eN:=af bJ
       clear JM Up bJ Ek)
     |((with_reducible refine HLK.O.mono ?_);rintro e w6 ⟨Df,q6,k6,b6,Mx,rP,n6,rfl,pO,kC⟩
       have HE6:Hid (oz Bw w1 w6 b6 Mx rP q6 Df):=af ⟨(HE.O.only.T (bm.aA eN.O)).T pO.only,pO.wk,pO.file,pO.marks,pO.roots⟩
       have HT6:Hid (wu (al bK) (al rP) h Df its):=af (by have e:=HH.O;rw[e]at kC⊢;exact HT.O.next kC)
       clear pO kC)
     |fail
    exact⟨⟨h+1,h,Df,_,_,b6,Mx,rP,by simp,rfl,af rfl,HE6,HT6⟩,by simp[intOf];omega⟩
   ·have Qx:¬ (1:Int)<(rs.length:Int):=ag
    have Pk:decide ((1:Int)<(rs.length:Int))=false:=bV
    have dD:=(HE.O.only.block (w.heap.size+1) (by rw[cZ.O.2.2.1];omega) (aM cZ.O.2.2.2)).T cZ.O.2.1.2
    rcases HT.O.fin ag gD.O.2.2.1 gD.O.1 with⟨rfl,Fu⟩|⟨r,rfl,Fu⟩
    ·have pH:=cj Fu dD
     clear rh Fu dD Uo
     go_wp2_with first
      |(refine aP 41 rfl _ _ rfl _ _ _ _ _ rfl rfl pH.O.2 aR aO (by simp[Value.oneCell']) (λ W7 g1 g2 g3=>?_)
        have x0:=(aa g1 0).T rfl
        have x1:=(aa g1 1).T rfl
        have x2:=(aa g1 2).T rfl
        have x3:=(aa g1 3).T rfl
        have x4:=(aa g1 4).T rfl
        have x5:=(aa g1 5).T rfl
        have x6:=(aa g1 6).T rfl
        have x7:=(aa g1 7).T rfl
        simp only[aF,bD,aD]at x0 x1 x2 x3 x4 x5 x6 x7
        have sn:=af (m8 cZ.O.1 HE.O.only HE.O.wk HE.O.file pH.O.2 (aM cZ.O.2.2.2) (Nat.le_succ _) g2 (g3 w))
        clear g1 g2 g3)
      |fail
     refine bodyPost_ret (v:=cM 0 0 0) (by rw[cD rfl];go_simp;rfl) (by rfl) ⟨0,0,0,rfl,b',bL,bz,sn.O.1,sn.O.2.1,HE.O.marks,pH.O.1,HT.O.ext,HT.O.cost,sn.O.2.2⟩
    ·obtain⟨Bq,oq,rfl⟩:=HE.O.roots.row.some_ aR
     have ax:=HE.O.roots.row.get (j:=0) (x:=r) rfl
     rw[Nat.zero_mul,Nat.add_zero]at ax
     have q1:Wr.cell? (za Bq (oq+1))=some (.int .i64 (r.k.at_:Int)):=ax 1 _ rfl
     have q2:Wr.cell? (za Bq (oq+2))=some (.int .i64 (r.k.count:Int)):=ax 2 _ rfl
     have q3:Wr.cell? (za Bq (oq+3))=some (.int .i64 0):=ax 3 _ rfl
     have q4:Wr.cell? (za Bq (oq+4))=some (.int .i64 0):=ax 4 _ rfl
     have q5:Wr.cell? (za Bq (oq+5))=some (.int .u64 0):=ax 5 _ rfl
     have q6:Wr.cell? (za Bq (oq+6))=some (.int .i64 0):=ax 6 _ rfl
     have q7:Wr.cell? (za Bq (oq+7))=some (.int .i64 0):=ax 7 _ rfl
     have q8:Wr.cell? (za Bq (oq+8))=some (.int .i64 (r.h:Int)):=ax 8 _ rfl
     have pH:=cj Fu dD
     clear rh Fu dD Uo ax
     go_wp2_with fail
     refine bP 16 ?_
     refine tP [0,1,2,3,4,5,6,7,8,9,10,11,12,13,14] ?_
     iterate 15 refine tO ?_
     refine ah 1 rfl ?_
     refine sP 15 [0,1,2,3,4,5,6,7,8,9,10,11,12,13,14] λ K hK=>?_
     refine lB ?_
     have CV:Wr.drew.heap[w.heap.size+1]? =some (.cells sd 41):=pH.O.2
     refine bI 41 _ _ rfl (w.heap.size+1) 0 sd (ju r.k.at_ r.h r.k.count) 41 rfl rfl CV aR aO (by simp[Value.oneCell']) (λ W7 g1 g2 g3=>?_)
     have x0:=(aa g1 0).T rfl
     have x1:=(aa g1 1).T rfl
     have x2:=(aa g1 2).T rfl
     have x3:=(aa g1 3).T rfl
     have x4:=(aa g1 4).T rfl
     have x5:=(aa g1 5).T rfl
     have x6:=(aa g1 6).T rfl
     have x7:=(aa g1 7).T rfl
     simp only[aF,bD,aD]at x0 x1 x2 x3 x4 x5 x6 x7
     have sn:=af (m8 cZ.O.1 HE.O.only HE.O.wk HE.O.file pH.O.2 (aM cZ.O.2.2.2) (Nat.le_succ _) g2 (λ U h1 h2=>g3 w U h1 h2.drew))
     clear g1 g2 g3
     refine nP hK ?_
     clear hK K
     refine dP ?_
     go_simp
     go_wp2_with fail
     refine bodyPost_ret (v:=cM r.k.at_ r.h r.k.count) (by rw[cD rfl];go_simp;rfl) (by rfl) ⟨r.k.at_,r.h,r.k.count,b',bL,bz,rfl,sn.O.1,sn.O.2.1,HE.O.marks,pH.O.1,HT.O.ext,HT.O.cost,sn.O.2.2⟩
 ·obtain⟨ha1,hd8,n,fP⟩:=ht.some_ h0
  have hz:((at_:Int)==0)=false:=by rw[beq_eq_false_iff_ne];omega
  have yM:Hid (Calls Tryz.prog 142 (UU (zp Bw) (.agg (abD at_ c d)) ea l.length ce) w1 λ e w'=>∃(ps:List (Pc an)) (q:Option Addr) (k:Nat),e= .returned (.slice q ps.length k)/\bU lC w' q k ps/\(∀p∈ps,St (λ _=>False) w' λ V=>rE lC V p)/\LG (al bK) ⟨⟨none,[],0,at_,c⟩,d⟩ items (l.map rF) (ps.map Pc.val)/\Below w1 w1 w'):=af (Fk Bw bK hm d (hF.below aQ) (hW.below aQ) (r:=⟨⟨none,[],0,at_,c⟩,d⟩) (λ _=>False) (λ _ h=>h.elim) rfl ag (St.free λ V _=>ai.nil V none) fP ht.oW vf (St.free λ V hV=>(he.below aQ).below hV) EW gW De hl)
  have acF:Hid (Aj (al bK) ⟨⟨none,[],0,at_,c⟩,d⟩ items):=af ⟨n,fP,by rw[fP.count];exact ht.count⟩
  have HIL:=cV vf fy fP.count
  rw[aH]at yM p0 p1 abj
  clear hm hF hW ht vf he EW gW De hl fy hlen fG dX wK aH aQ bB dm qv ha1 hd8 fP h0
  go_enter Tryz.func113,Tryz.ntmps113
  go_wp2_with first
   |(refine bh 39 ?_)
   |((with_reducible refine yM.O.mono ?_);rintro e w2 ⟨Xc,q2,k2,rfl,SF,aal,abl,aC⟩
     rw[<-kg.O]at aC
     have xR:=cV SF abl aC
     clear SF aal abl aC)
   |fail
  rcases xR.O.2.1 with⟨hv,hd⟩|⟨lh,Jl,LH⟩
  ·have h8:=CU (.int .i64 0) (.func (.func 144) (dW (zp Bw)) #[]) (.pointer (zp Bw)) xR.O.1 hv
   have h9:=h8.mono (R':= λ e w'=>∃(rs:List aN) (q:Option Addr) (k:Nat),e=Ending.returned (.slice q rs.length k)/\rs=[⟨⟨none,[],0,at_,c⟩,d⟩]/\jt w' q rs/\Below w2 w2 w') λ e w' ⟨q,k,h1,h2,h3⟩=>⟨[⟨⟨none,[],0,at_,c⟩,d⟩],q,k,h1,rfl,h2,h3⟩
   have Yq:=af h9
   clear h9
   have HIO:Hid (its=items):=af (HIL.O.2.1.T hd)
   clear h8 hv hd
   go_wp2_with first
    |((with_reducible refine Yq.O.mono ?_);rintro e w6 ⟨Df,q6,k6,rfl,tS,Qh,fD⟩
      have SM:Below w1 w1 w6:=xR.O.2.2.T (fD.mono xR.O.2.2.size)
      have eJ:Hid (oz Bw w1 w6 b cf bK q6 Df):=af ⟨bm.aA SM,sa.O.2.below SM,sa.O.1.below SM,HM.O,Qh⟩
      have Fq:Hid (wu (al bK) (al bK) 0 Df its):=af (by rw[tS];exact wu.kept (by have e:=HIO.O;rw[e];exact acF.O))
      clear tS Qh fD SM)
    |fail
   have oG:=cj eJ.O Fq.O
   go_loopw [10,11] (λ rv hv wr=>∃(h hh:Nat) (rs:List aN) (q:Option Addr) (k:Nat) (b':Option Addr) (bL:Nat) (bz:List Piece),hv= .int .i64 (h:Int)/\rv= .slice q rs.length k/\Hid (h=hh+1)/\Hid (oz Bw w1 wr b' bL bz q rs)/\Hid (wu (al bK) (al bz) hh rs its)) (λ _ hv _=>100 - (intOf hv).toNat)
   case atStart=>exact⟨1,0,_,_,_,_,_,_,by simp,rfl,af rfl,af oG.O.1,af oG.O.2⟩
   case round=>
    obtain⟨Wr,rfl⟩:=aK wr
    obtain⟨h,hh,rs,q,k,b',bL,bz,rfl,rfl,HH,HE,HT⟩:=hrel
    have Uo:rs.length<=200:=cG HT.O.C3 gD.O.1
    have abk:(rs.length:Int)<=200:=ag
    have c5:Wr.cell? (za Bw 5)=some (.int .i64 0):=(aa HE.O.wk 5).T rfl
    by_cases rh:1<rs.length
    ·have Qx:(1:Int)<(rs.length:Int):=ag
     have Pk:decide ((1:Int)<(rs.length:Int))=true:=bV
     obtain⟨lh,Fs⟩:=HT.O.many rh
     have Ft:hh<=10:=OZ Fs gD.O.1
     have hh6:(h:Int)<=11:=aM HH.O
     have aH:IntKind.i64.wrap ((h:Int) - 1)=(hh:Int):=by have:=HH.O;rw[IntKind.wrap_i64];omega
     have HPA:=af (uL k hh HE.O.roots ag)
     have Ae:=cV lh Ft rh
     clear lh Fs Ft rh
     go_wp2_with first
      |((with_reducible refine HPA.O.mono ?_);rintro e w5 ⟨Bu,q5,k5,rfl,JM,Up,bJ⟩
        have Ek:Bu.length=rs.length:=by have:=congrArg List.length JM;simpa using this
        have HLK:=af (rO Bw bz HE.O.marks h hh HH.O (HE.O.file.below bJ) (HE.O.wk.below bJ) Up (its:=its) (by rw[JM];exact ts Ae.O.1) ag gD.O.1 gD.O.2.1 gD.O.2.2.1 (cG HT.O.cost gD.O.2.2.2) (by rw[JM,nW];have:=Ae.O.2.2;omega))
        have eN:=af bJ
        clear JM Up bJ Ek)
      |((with_reducible refine HLK.O.mono ?_);rintro e w6 ⟨Df,q6,k6,b6,Mx,rP,n6,rfl,pO,kC⟩
        have HE6:Hid (oz Bw w1 w6 b6 Mx rP q6 Df):=af ⟨(HE.O.only.T (bm.aA eN.O)).T pO.only,pO.wk,pO.file,pO.marks,pO.roots⟩
        have HT6:Hid (wu (al bK) (al rP) h Df its):=af (by have e:=HH.O;rw[e]at kC⊢;exact HT.O.next kC)
        clear pO kC)
      |fail
     exact⟨⟨h+1,h,Df,_,_,b6,Mx,rP,by simp,rfl,af rfl,HE6,HT6⟩,by simp[intOf];omega⟩
    ·have Qx:¬ (1:Int)<(rs.length:Int):=ag
     have Pk:decide ((1:Int)<(rs.length:Int))=false:=bV
     have dD:=(HE.O.only.block (w.heap.size+1) (by rw[cZ.O.2.2.1];omega) (aM cZ.O.2.2.2)).T cZ.O.2.1.2
     rcases HT.O.fin ag gD.O.2.2.1 gD.O.1 with⟨rfl,Fu⟩|⟨r,rfl,Fu⟩
     ·have pH:=cj Fu dD
      clear rh Fu dD Uo
      go_wp2_with first
       |(refine aP 41 rfl _ _ rfl _ _ _ _ _ rfl rfl pH.O.2 aR aO (by simp[Value.oneCell']) (λ W7 g1 g2 g3=>?_)
         have x0:=(aa g1 0).T rfl
         have x1:=(aa g1 1).T rfl
         have x2:=(aa g1 2).T rfl
         have x3:=(aa g1 3).T rfl
         have x4:=(aa g1 4).T rfl
         have x5:=(aa g1 5).T rfl
         have x6:=(aa g1 6).T rfl
         have x7:=(aa g1 7).T rfl
         simp only[aF,bD,aD]at x0 x1 x2 x3 x4 x5 x6 x7
         have sn:=af (m8 cZ.O.1 HE.O.only HE.O.wk HE.O.file pH.O.2 (aM cZ.O.2.2.2) (Nat.le_succ _) g2 (g3 w))
         clear g1 g2 g3)
       |fail
      refine bodyPost_ret (v:=cM 0 0 0) (by rw[cD rfl];go_simp;rfl) (by rfl) ⟨0,0,0,rfl,b',bL,bz,sn.O.1,sn.O.2.1,HE.O.marks,pH.O.1,HT.O.ext,HT.O.cost,sn.O.2.2⟩
     ·obtain⟨Bq,oq,rfl⟩:=HE.O.roots.row.some_ aR
      have ax:=HE.O.roots.row.get (j:=0) (x:=r) rfl
      rw[Nat.zero_mul,Nat.add_zero]at ax
      have q1:Wr.cell? (za Bq (oq+1))=some (.int .i64 (r.k.at_:Int)):=ax 1 _ rfl
      have q2:Wr.cell? (za Bq (oq+2))=some (.int .i64 (r.k.count:Int)):=ax 2 _ rfl
      have q3:Wr.cell? (za Bq (oq+3))=some (.int .i64 0):=ax 3 _ rfl
      have q4:Wr.cell? (za Bq (oq+4))=some (.int .i64 0):=ax 4 _ rfl
      have q5:Wr.cell? (za Bq (oq+5))=some (.int .u64 0):=ax 5 _ rfl
      have q6:Wr.cell? (za Bq (oq+6))=some (.int .i64 0):=ax 6 _ rfl
      have q7:Wr.cell? (za Bq (oq+7))=some (.int .i64 0):=ax 7 _ rfl
      have q8:Wr.cell? (za Bq (oq+8))=some (.int .i64 (r.h:Int)):=ax 8 _ rfl
      have pH:=cj Fu dD
      clear rh Fu dD Uo ax
      go_wp2_with fail
      refine bP 16 ?_
      refine tP [0,1,2,3,4,5,6,7,8,9,10,11,12,13,14] ?_
      iterate 15 refine tO ?_
      refine ah 1 rfl ?_
      refine sP 15 [0,1,2,3,4,5,6,7,8,9,10,11,12,13,14] λ K hK=>?_
      refine lB ?_
      have CV:Wr.drew.heap[w.heap.size+1]? =some (.cells sd 41):=pH.O.2
      refine bI 41 _ _ rfl (w.heap.size+1) 0 sd (ju r.k.at_ r.h r.k.count) 41 rfl rfl CV aR aO (by simp[Value.oneCell']) (λ W7 g1 g2 g3=>?_)
      have x0:=(aa g1 0).T rfl
      have x1:=(aa g1 1).T rfl
      have x2:=(aa g1 2).T rfl
      have x3:=(aa g1 3).T rfl
      have x4:=(aa g1 4).T rfl
      have x5:=(aa g1 5).T rfl
      have x6:=(aa g1 6).T rfl
      have x7:=(aa g1 7).T rfl
      simp only[aF,bD,aD]at x0 x1 x2 x3 x4 x5 x6 x7
      have sn:=af (m8 cZ.O.1 HE.O.only HE.O.wk HE.O.file pH.O.2 (aM cZ.O.2.2.2) (Nat.le_succ _) g2 (λ U h1 h2=>g3 w U h1 h2.drew))
      clear g1 g2 g3
      refine nP hK ?_
      clear hK K
      refine dP ?_
      go_simp
      go_wp2_with fail
      refine bodyPost_ret (v:=cM r.k.at_ r.h r.k.count) (by rw[cD rfl];go_simp;rfl) (by rfl) ⟨r.k.at_,r.h,r.k.count,b',bL,bz,rfl,sn.O.1,sn.O.2.1,HE.O.marks,pH.O.1,HT.O.ext,HT.O.cost,sn.O.2.2⟩
  ·have hlp:Xc.length<=200:=by rw[List.length_map]at Jl;have:=HIL.O.1;omega
   have h8:=yW Bw bK HM.O 0 rfl (sa.O.1.below xR.O.2.2) (sa.O.2.below xR.O.2.2) xR.O.1 (its:=its) (by have e:=HIL.O.2.1;rw[e];exact lh) hlp gD.O.1 gD.O.2.1 gD.O.2.2.1 (aM gD.O.2.2.2)
   rw[show((0:Nat):Int)=0 from rfl]at h8
   have Yq:=af h8
   clear h8 lh Jl hlp LH
   go_wp2_with first
    |((with_reducible refine Yq.O.mono ?_);rintro e w6 ⟨Df,q6,k6,b6,Mx,rP,n6,rfl,pO,kC⟩
      have eJ:Hid (oz Bw w1 w6 b6 Mx rP q6 Df):=af ⟨(bm.aA xR.O.2.2).T pO.only,pO.wk,pO.file,pO.marks,pO.roots⟩
      have Fq:=af (wu.start kC)
      clear pO kC)
    |fail
   have oG:=cj eJ.O Fq.O
   go_loopw [10,11] (λ rv hv wr=>∃(h hh:Nat) (rs:List aN) (q:Option Addr) (k:Nat) (b':Option Addr) (bL:Nat) (bz:List Piece),hv= .int .i64 (h:Int)/\rv= .slice q rs.length k/\Hid (h=hh+1)/\Hid (oz Bw w1 wr b' bL bz q rs)/\Hid (wu (al bK) (al bz) hh rs its)) (λ _ hv _=>100 - (intOf hv).toNat)
   case atStart=>exact⟨1,0,_,_,_,_,_,_,by simp,rfl,af rfl,af oG.O.1,af oG.O.2⟩
   case round=>
    obtain⟨Wr,rfl⟩:=aK wr
    obtain⟨h,hh,rs,q,k,b',bL,bz,rfl,rfl,HH,HE,HT⟩:=hrel
    have Uo:rs.length<=200:=cG HT.O.C3 gD.O.1
    have abk:(rs.length:Int)<=200:=ag
    have c5:Wr.cell? (za Bw 5)=some (.int .i64 0):=(aa HE.O.wk 5).T rfl
    by_cases rh:1<rs.length
    ·have Qx:(1:Int)<(rs.length:Int):=ag
     have Pk:decide ((1:Int)<(rs.length:Int))=true:=bV
     obtain⟨lh,Fs⟩:=HT.O.many rh
     have Ft:hh<=10:=OZ Fs gD.O.1
     have hh6:(h:Int)<=11:=aM HH.O
     have aH:IntKind.i64.wrap ((h:Int) - 1)=(hh:Int):=by have:=HH.O;rw[IntKind.wrap_i64];omega
     have HPA:=af (uL k hh HE.O.roots ag)
     have Ae:=cV lh Ft rh
     clear lh Fs Ft rh
     go_wp2_with first
      |((with_reducible refine HPA.O.mono ?_);rintro e w5 ⟨Bu,q5,k5,rfl,JM,Up,bJ⟩
        have Ek:Bu.length=rs.length:=by have:=congrArg List.length JM;simpa using this
        have HLK:=af (rO Bw bz HE.O.marks h hh HH.O (HE.O.file.below bJ) (HE.O.wk.below bJ) Up (its:=its) (by rw[JM];exact ts Ae.O.1) ag gD.O.1 gD.O.2.1 gD.O.2.2.1 (cG HT.O.cost gD.O.2.2.2) (by rw[JM,nW];have:=Ae.O.2.2;omega))
        have eN:=af bJ
        clear JM Up bJ Ek)
      |((with_reducible refine HLK.O.mono ?_);rintro e w6 ⟨Df,q6,k6,b6,Mx,rP,n6,rfl,pO,kC⟩
        have HE6:Hid (oz Bw w1 w6 b6 Mx rP q6 Df):=af ⟨(HE.O.only.T (bm.aA eN.O)).T pO.only,pO.wk,pO.file,pO.marks,pO.roots⟩
        have HT6:Hid (wu (al bK) (al rP) h Df its):=af (by have e:=HH.O;rw[e]at kC⊢;exact HT.O.next kC)
        clear pO kC)
      |fail
     exact⟨⟨h+1,h,Df,_,_,b6,Mx,rP,by simp,rfl,af rfl,HE6,HT6⟩,by simp[intOf];omega⟩
    ·have Qx:¬ (1:Int)<(rs.length:Int):=ag
     have Pk:decide ((1:Int)<(rs.length:Int))=false:=bV
     have dD:=(HE.O.only.block (w.heap.size+1) (by rw[cZ.O.2.2.1];omega) (aM cZ.O.2.2.2)).T cZ.O.2.1.2
     rcases HT.O.fin ag gD.O.2.2.1 gD.O.1 with⟨rfl,Fu⟩|⟨r,rfl,Fu⟩
     ·have pH:=cj Fu dD
      clear rh Fu dD Uo
      go_wp2_with first
       |(refine aP 41 rfl _ _ rfl _ _ _ _ _ rfl rfl pH.O.2 aR aO (by simp[Value.oneCell']) (λ W7 g1 g2 g3=>?_)
         have x0:=(aa g1 0).T rfl
         have x1:=(aa g1 1).T rfl
         have x2:=(aa g1 2).T rfl
         have x3:=(aa g1 3).T rfl
         have x4:=(aa g1 4).T rfl
         have x5:=(aa g1 5).T rfl
         have x6:=(aa g1 6).T rfl
         have x7:=(aa g1 7).T rfl
         simp only[aF,bD,aD]at x0 x1 x2 x3 x4 x5 x6 x7
         have sn:=af (m8 cZ.O.1 HE.O.only HE.O.wk HE.O.file pH.O.2 (aM cZ.O.2.2.2) (Nat.le_succ _) g2 (g3 w))
         clear g1 g2 g3)
       |fail
      refine bodyPost_ret (v:=cM 0 0 0) (by rw[cD rfl];go_simp;rfl) (by rfl) ⟨0,0,0,rfl,b',bL,bz,sn.O.1,sn.O.2.1,HE.O.marks,pH.O.1,HT.O.ext,HT.O.cost,sn.O.2.2⟩
     ·obtain⟨Bq,oq,rfl⟩:=HE.O.roots.row.some_ aR
      have ax:=HE.O.roots.row.get (j:=0) (x:=r) rfl
      rw[Nat.zero_mul,Nat.add_zero]at ax
      have q1:Wr.cell? (za Bq (oq+1))=some (.int .i64 (r.k.at_:Int)):=ax 1 _ rfl
      have q2:Wr.cell? (za Bq (oq+2))=some (.int .i64 (r.k.count:Int)):=ax 2 _ rfl
      have q3:Wr.cell? (za Bq (oq+3))=some (.int .i64 0):=ax 3 _ rfl
      have q4:Wr.cell? (za Bq (oq+4))=some (.int .i64 0):=ax 4 _ rfl
      have q5:Wr.cell? (za Bq (oq+5))=some (.int .u64 0):=ax 5 _ rfl
      have q6:Wr.cell? (za Bq (oq+6))=some (.int .i64 0):=ax 6 _ rfl
      have q7:Wr.cell? (za Bq (oq+7))=some (.int .i64 0):=ax 7 _ rfl
      have q8:Wr.cell? (za Bq (oq+8))=some (.int .i64 (r.h:Int)):=ax 8 _ rfl
      have pH:=cj Fu dD
      clear rh Fu dD Uo ax
      go_wp2_with fail
      refine bP 16 ?_
      refine tP [0,1,2,3,4,5,6,7,8,9,10,11,12,13,14] ?_
      iterate 15 refine tO ?_
      refine ah 1 rfl ?_
      refine sP 15 [0,1,2,3,4,5,6,7,8,9,10,11,12,13,14] λ K hK=>?_
      refine lB ?_
      have CV:Wr.drew.heap[w.heap.size+1]? =some (.cells sd 41):=pH.O.2
      refine bI 41 _ _ rfl (w.heap.size+1) 0 sd (ju r.k.at_ r.h r.k.count) 41 rfl rfl CV aR aO (by simp[Value.oneCell']) (λ W7 g1 g2 g3=>?_)
      have x0:=(aa g1 0).T rfl
      have x1:=(aa g1 1).T rfl
      have x2:=(aa g1 2).T rfl
      have x3:=(aa g1 3).T rfl
      have x4:=(aa g1 4).T rfl
      have x5:=(aa g1 5).T rfl
      have x6:=(aa g1 6).T rfl
      have x7:=(aa g1 7).T rfl
      simp only[aF,bD,aD]at x0 x1 x2 x3 x4 x5 x6 x7
      have sn:=af (m8 cZ.O.1 HE.O.only HE.O.wk HE.O.file pH.O.2 (aM cZ.O.2.2.2) (Nat.le_succ _) g2 (λ U h1 h2=>g3 w U h1 h2.drew))
      clear g1 g2 g3
      refine nP hK ?_
      clear hK K
      refine dP ?_
      go_simp
      go_wp2_with fail
      refine bodyPost_ret (v:=cM r.k.at_ r.h r.k.count) (by rw[cD rfl];go_simp;rfl) (by rfl) ⟨r.k.at_,r.h,r.k.count,b',bL,bz,rfl,sn.O.1,sn.O.2.1,HE.O.marks,pH.O.1,HT.O.ext,HT.O.cost,sn.O.2.2⟩
theorem Fv{fn:Func}{p q u:Tmp}{ty tz:TypeId}(h:fn.results=#[.cell p ty,.cell q tz,.tmp u])(tmps:Array Value)(P:Program)(w:World):
 (results fn tmps).run P w=
   ((asAddr (tmps.getD p undef)).run P w).andThen λ a xv=>((loadVar ty a).run P xv).andThen λ x B9=>((asAddr (tmps.getD q undef)).run P B9).andThen λ b G5=>((loadVar tz b).run P G5).andThen λ y G6=>.ok (.tuple #[x,y,tmps.getD u undef]) G6:=by
 simp only[results,h]
 simp[Sem.run_bind,Result.andThen]
theorem db.Fw(h:au W b c ps)(hg:W.heap[g]? =some (.cells cs t))(h8:∀(j x:Nat),cs[j]? ≠some (.int .u8 (x:Int)))(hs:∀(j:Nat) (a:Option Addr) (n k:Nat),cs[j]? =some (.slice a n k)->n=0):db g b ps:=by
 constructor
 ·rcases h.pieces.1 with h0|⟨B,o,e,hc⟩
  ·exact .inl h0
  ·cases ps with
   |nil=>exact .inl rfl
   |cons p0 E7=>
    refine .inr λ G o2 e2=>?_
    rw[e]at e2;cases e2
    rintro rfl
    have:=hc 0 p0 rfl
    rw[aa hg]at this
    exact absurd (List.length_eq_zero_iff.1 (hs _ _ _ _ this)) (h.pieces.2 p0 List.mem_cons_self).1
 ·intro p hp G o e
  obtain⟨h1,_,h2⟩:=h.pieces.2 p hp
  rcases h2.2 with h0|⟨C,o2,e2,hc⟩
  ·exact absurd h0 h1
  ·rw[e]at e2;cases e2
   cases tK:p.2.1 with
   |nil=>exact absurd tK h1
   |cons x l=>
    rintro rfl
    have:=hc 0 x (by rw[tK];rfl)
    rw[aa hg]at this
    exact h8 _ _ this
theorem alloc_old(W:World)(o:Obj){k:Nat}(hk:k<W.heap.size):(W.alloc o).heap[k]? =W.heap[k]? :=((Below.refl W W).alloc (aW) o).block k hk
theorem vP(w:World)(cs ds es fs:Array Value)(t u v x:TypeId):((((w.alloc (.cells cs t)).alloc (.cells ds u)).alloc (.cells es v)).alloc (.cells fs x)).heap[w.heap.size]? =some (.cells cs t)/\((((w.alloc (.cells cs t)).alloc (.cells ds u)).alloc (.cells es v)).alloc (.cells fs x)).heap[w.heap.size+1]? =some (.cells ds u)/\((((w.alloc (.cells cs t)).alloc (.cells ds u)).alloc (.cells es v)).alloc (.cells fs x)).heap[w.heap.size+1+1]? =some (.cells es v)/\((((w.alloc (.cells cs t)).alloc (.cells ds u)).alloc (.cells es v)).alloc (.cells fs x)).heap[w.heap.size+1+1+1]? =some (.cells fs x):=by
 have n1:=World.alloc_heap_new w (.cells cs t)
 have n2:=World.alloc_heap_new (w.alloc (.cells cs t)) (.cells ds u)
 have n3:=World.alloc_heap_new ((w.alloc (.cells cs t)).alloc (.cells ds u)) (.cells es v)
 have n4:=World.alloc_heap_new (((w.alloc (.cells cs t)).alloc (.cells ds u)).alloc (.cells es v)) (.cells fs x)
 simp only[World.size_alloc]at n2 n3 n4
 refine⟨?_,?_,?_,n4⟩
 ·rw[alloc_old _ _ bV,alloc_old _ _ bV,alloc_old _ _ aR];exact n1
 ·rw[alloc_old _ _ aR,alloc_old _ _ aR];exact n2
 ·rw[alloc_old _ _ aR];exact n3
theorem Fx(hF:au w b cf bK)(hm:Marks (al bK))(ht:dh (al bK) at_ d c items):
 Calls Tryz.prog 111 #[aE b bK.length cf,cM at_ d c] w λ e w'=>e= .returned (.int .i64 0)/\Below w w w':=by
 obtain⟨w1,aH⟩:=aK ((w.alloc (.cells (cK b bK.length cf) 37)).alloc (.cells (ju at_ d c) 41))
 have aQ:Below w w w1:=by rw[aH];go_grown
 have bB:=aS (w2:=w1) (by rw[aH];exact dp)
 have sj:=aj bB.1
 have HC:=af (gg (hF.below aQ))
 have HT:=af (λ (V:World) (hV:Below w1 w1 V)=>rH ((hF.below aQ).below hV) hm ht)
 have H1:=cV aQ bB aH
 unfold aE cM at*
 rw[aH]at HC sj
 clear hF hm ht aQ bB aH
 go_enter Tryz.func111,Tryz.ntmps111
 go_wp2_with first
  |(refine bh 37 ?_)
  |(refine bh 41 ?_)
  |((with_reducible refine HC.O.mono ?_);rintro e w2 ⟨rfl,aC⟩
    rw[<-H1.O.2.2]at aC
    have oD:=aj ((aC.block _ (aX H1.O.2.1.1).1).T H1.O.2.1.1)
    have jx:=aj ((aC.block _ (aX H1.O.2.1.2).1).T H1.O.2.1.2)
    have HT2:=af (HT.O _ aC)
    have bR:=af aC
    clear aC)
  |((with_reducible refine HT2.O.mono ?_);rintro e w3 ⟨rfl,aL⟩
    have bA:=af aL
    clear aL)
  |fail
 go_ret
 exact⟨rfl,H1.O.1.T ((bR.O.T (bA.O.mono bR.O.size)).mono H1.O.1.size)⟩
theorem Bv(hF:au w b cf bK)(hm:Marks (al bK))(ht:dh (al bK) at_ d c items)(vf:items.length<=200)(he:dS w ea l)(EW:l.length<=ce)(gW:∀x∈l,mn x)(De:bb (l.map bN.key))(hl:l.length<=200)(fy:its=dK items (l.map rF))(hlen:its.length<=200)(fG:cQ its)(dX:(al bK).length+200*its.length<=524288):
 Calls Tryz.prog 80 #[aE b bK.length cf,cM at_ d c,.slice ea l.length ce] w λ e w'=>∃(oA d' c':Nat) (b':Option Addr) (bL:Nat) (bz:List Piece),e= .returned (.tuple #[aE b' bz.length bL,cM oA d' c',.int .i64 0])/\au w' b' bL bz/\Marks (al bz)/\dh (al bz) oA d' c' its/\(∃m,al bz=al bK++m)/\(al bz).length<=(al bK).length+120*its.length/\Below w w w':=by
 obtain⟨w1,aH⟩:=aK ((((w.alloc (.cells (cK b bK.length cf) 37)).alloc (.cells (ju at_ d c) 41)).alloc (.cells eY 37)).alloc (.cells sd 41))
 have aQ:Below w w w1:=by rw[aH];go_grown
 have dm:w1.heap.size=w.heap.size+1+1+1+1:=by rw[aH];simp
 have bB:w1.heap[w.heap.size]? =some (.cells (cK b bK.length cf) 37)/\w1.heap[w.heap.size+1]? =some (.cells (ju at_ d c) 41)/\w1.heap[w.heap.size+1+1]? =some (.cells eY 37)/\w1.heap[w.heap.size+1+1+1]? =some (.cells sd 41):=by rw[aH];exact vP _ _ _ _ _ _ _ _ _
 have sj:=aj bB.1
 have oD:=aj bB.2.1
 have HC:=af (Fx (hF.below aQ) hm ht)
 have HE:=af (λ (V:World) (hV:Below w1 w1 V)=>vw ce ((he.below aQ).below hV) gW De ag)
 have HGO:=af (λ (V:World) (Bw:Nat) (hV:Below w1 w1 V) (hW:fp V Bw b bK.length cf)=>Pj Bw bK hm ((hF.below aQ).below hV) hW ht vf ((he.below aQ).below hV) EW gW De hl fy hlen fG dX)
 have H1:=jo aQ dm bB aH
 unfold aE at*
 unfold cM at HC HGO⊢
 rw[aH]at HC sj oD
 clear hF hm ht vf he EW gW De hl fy hlen fG dX aQ dm bB aH
 go_enter Tryz.func80,Tryz.ntmps80
 go_wp2_with first
  |(refine bh 37 ?_)
  |(refine bh 41 ?_)
  |(refine et 41 ?_)
  |((with_reducible refine HC.O.mono ?_);rintro e w2 ⟨rfl,aC⟩
    rw[<-H1.O.2.2.2]at aC
    have aY:=af (HE.O _ aC)
    have bR:=af aC
    clear aC)
  |((with_reducible refine aY.O.mono ?_);rintro e w3 ⟨rfl,aL⟩
    have Cx:Below w1 w1 w3:=bR.O.T (aL.mono bR.O.size)
    have jx:=aj ((Cx.block _ (aX H1.O.2.2.1.1).1).T H1.O.2.2.1.1)
    obtain⟨w4,gA⟩:=aK (w3.alloc (.cells (UE b bK.length cf) 229))
    have hn4:w4.heap[w3.heap.size]? =some (.cells (UE b bK.length cf) 229):=jJ gA
    have bH:Below w1 w1 w4:=by rw[gA];exact Cx.alloc Cx.size _
    have Dz:=aj ((bH.block _ (aX H1.O.2.2.1.2.1).1).T H1.O.2.2.1.2.1)
    have HG:=af (HGO.O w4 w3.heap.size bH hn4)
    have iJ:=cV bH Cx (show w4.heap.size=w3.heap.size+1 by rw[gA];simp)
    rw[gA]at HG Dz
    have Ir:=af gA
    clear aL Cx gA hn4 bH)
  |((with_reducible refine HG.O.mono ?_);rintro e w8 ⟨oA,d',c',b',bL,bz,rfl,hwk,hF8,hm8,ht8,Zy,hc8,LK⟩
    rw[<-Ir.O]at LK
    obtain⟨w9,hw9⟩:=aK (w8.alloc (.cells (ju oA d' c') 41))
    have oQ:Below w8 w8 w9:=by rw[hw9];go_grown
    have QP:w9.heap[w8.heap.size]? =some (.cells (ju oA d' c') 41):=jJ hw9
    have Uq:bm w3 w4 w9:=LK.T (bm.aA oQ)
    have iU:=iJ.O.2.1.size
    have Aw:=iJ.O.2.2
    have hs8:=LK.size
    have dm:=H1.O.2.1
    have e2:=(Uq.block (w.heap.size+1+1) ag ag).T ((iJ.O.1.block _ ag).T H1.O.2.2.1.2.2.1)
    have e3:=(Uq.block (w.heap.size+1+1+1) ag ag).T ((iJ.O.1.block _ ag).T H1.O.2.2.1.2.2.2)
    have Is:=hwk.below oQ
    have k0:=(aa Is 0).T rfl
    have k1:=(aa Is 1).T rfl
    have k2:=(aa Is 2).T rfl
    have k3:=(aa Is 3).T rfl
    have k4:=(aa Is 4).T rfl
    have k5:=(aa Is 5).T rfl
    simp only[aD]at k0 k1 k2 k3 k4 k5
    have t0:=(aa QP 0).T rfl
    have t1:=(aa QP 1).T rfl
    have t2:=(aa QP 2).T rfl
    have t3:=(aa QP 3).T rfl
    have t4:=(aa QP 4).T rfl
    have t5:=(aa QP 5).T rfl
    have t6:=(aa QP 6).T rfl
    have t7:=(aa QP 7).T rfl
    simp only[aD]at t0 t1 t2 t3 t4 t5 t6 t7
    have HN9:=cV e2 e3 QP
    have HS8:Hid (w.heap.size+1+1+1+1<w8.heap.size):=af ag
    have abm:Below w w w9:=by
     have h5:Below w w w4:=H1.O.1.T (iJ.O.1.mono ag)
     exact h5.T (Uq.below ag ag)
    have HF9:=cj (show au w9.drew b' bL bz from(hF8.below oQ).below (Below.refl _ w9).drew) abm
    have HM8:=jo hm8 ht8 Zy hc8
    rw[hw9]at k0 k1 k2 k3 k4 k5 t0 t1 t2 t3 t4 t5 t6 t7
    have Pm:=af hw9
    clear hwk hF8 hm8 ht8 Zy hc8 LK hw9 oQ QP Uq iU Aw hs8 dm e2 e3 Is abm)
  |fail
 rw[<-Pm.O]at k0 k1 k2 k3 k4 k5 t0 t1 t2 t3 t4 t5 t6 t7⊢
 refine bP 9 ?_
 refine tP [0,1,2,3,4,5] ?_
 iterate 6 refine tO ?_
 refine ah 3 rfl ?_
 refine sP 6 [0,1,2,3,4] λ K hK=>?_
 refine lB ?_
 have CV:w9.drew.heap[w.heap.size+1+1]? =some (.cells eY 37):=HN9.O.1
 refine bI 37 _ _ rfl (w.heap.size+1+1) 0 eY (cK b' bz.length bL) 37 rfl rfl CV aR aO (by simp[Value.oneCell']) (λ W7 g1 g2 g3=>?_)
 have P8:=(g2 (w.heap.size+1+1+1) ag).T HN9.O.2.1
 have SN:=(g2 w8.heap.size (aM HS8.O)).T HN9.O.2.2
 have t0:=(aa SN 0).T rfl
 have t1:=(aa SN 1).T rfl
 have t2:=(aa SN 2).T rfl
 have t3:=(aa SN 3).T rfl
 have t4:=(aa SN 4).T rfl
 have t5:=(aa SN 5).T rfl
 have t6:=(aa SN 6).T rfl
 have t7:=(aa SN 7).T rfl
 simp only[aD]at t0 t1 t2 t3 t4 t5 t6 t7
 have Dg:=BM g1 g2 g3 P8 CV
 clear g1 g2 g3 P8 SN CV
 refine nP hK ?_
 clear hK K
 refine sP 7 [0,1,2,3,4,5,6] λ K hK=>?_
 refine lB ?_
 refine bI 41 _ _ rfl (w.heap.size+1+1+1) 0 sd (ju oA d' c') 41 rfl rfl Dg.O.2.2.2.1 aR aO (by simp[Value.oneCell']) (λ W10 g1 g2 g3=>?_)
 have LQ:=(g2 (w.heap.size+1+1) ag).T Dg.O.1
 have x0:=(aa LQ 0).T rfl
 have x1:=(aa LQ 1).T rfl
 have x2:=(aa LQ 2).T rfl
 have x3:=(aa LQ 3).T rfl
 have x4:=(aa LQ 4).T rfl
 simp only[aF,bD,aD]at x0 x1 x2 x3 x4
 have y0:=(aa g1 0).T rfl
 have y1:=(aa g1 1).T rfl
 have y2:=(aa g1 2).T rfl
 have y3:=(aa g1 3).T rfl
 have y4:=(aa g1 4).T rfl
 have y5:=(aa g1 5).T rfl
 have y6:=(aa g1 6).T rfl
 have y7:=(aa g1 7).T rfl
 simp only[aF,bD,aD]at y0 y1 y2 y3 y4 y5 y6 y7
 have hFD:au W7 b' bL bz:=cO (W:=w9.drew) (g:=w.heap.size+1+1) (λ j _ hj=>Dg.O.2.1 j hj) HF9.O.1 (db.Fw HF9.O.1 Dg.O.2.2.2.2 (λ j x=>by rcases j with _|_|_|_|_|j<;>simp) (λ j a n k h=>by rcases j with _|_|_|_|_|j<;>simp at h<;>first|exact h.2.1.symm|exact h.2.1))
 have hFE:au W10 b' bL bz:=cO (g:=w.heap.size+1+1+1) (λ j _ hj=>g2 j hj) hFD (db.Fw hFD Dg.O.2.2.2.1 (λ j x=>by rcases j with _|_|_|_|_|_|_|_|j<;>simp) (λ j a n k h=>by rcases j with _|_|_|_|_|_|_|_|j<;>simp at h))
 have abn:Below w w W10:=g3 w w ag (Dg.O.2.2.1 w.heap.size w ag HF9.O.2.drew)
 have HZ:=cj hFE abn
 clear g1 g2 g3 LQ hFD hFE abn
 refine nP hK ?_
 clear hK K
 refine tP [8] ?_
 refine tO ?_
 refine ah 0 rfl ?_
 refine dP ?_
 go_simp
 go_wp2_with fail
 refine bodyPost_ret (v:=.tuple #[.agg (cK b' bz.length bL),.agg (ju oA d' c'),.int .i64 0]) (by rw[Fv rfl];go_simp) (by rfl) ⟨oA,d',c',b',bL,bz,rfl,HZ.O.1,HM8.O.1,HM8.O.2.1,HM8.O.2.2.1,HM8.O.2.2.2,HZ.O.2⟩
theorem db.acG(h:au W b c ps)(h0:au W b0 c0 E7)(hg:W.heap[g]? =some (.cells cs t))(h8:∀(j x:Nat),cs[j]? ≠some (.int .u8 (x:Int)))(hs:∀(j:Nat) (a:Option Addr) (n k:Nat),cs[j]? =some (.slice a n k)->n=0\/(a=b0/\n=E7.length)):db g b ps:=by
 constructor
 ·rcases h.pieces.1 with h1|⟨B,o,e,hc⟩
  ·exact .inl h1
  ·cases ps with
   |nil=>exact .inl rfl
   |cons p0 pr=>
    refine .inr λ G o2 e2=>?_
    rw[e]at e2;cases e2
    rintro rfl
    have h2:=hc 0 p0 rfl
    rw[aa hg]at h2
    have h3:=h.pieces.2 p0 List.mem_cons_self
    rcases hs _ _ _ _ h2 with h4|⟨h4,h5⟩
    ·exact h3.1 (List.length_eq_zero_iff.1 h4)
    ·have h6:0<E7.length:=by rw[<-h5];exact List.length_pos_iff.2 h3.1
     rcases h0.pieces.1 with h7|⟨B',o',e',hc'⟩
     ·rw[h7]at h6;cases h6
     ·obtain⟨q0,I3⟩:∃q0,E7[0]? =some q0:=⟨_,List.getElem?_eq_getElem h6⟩
      have h8':=hc' 0 q0 I3
      rcases h3.2.2.2 with h9|⟨C,o3,e3,uK⟩
      ·exact h3.1 h9
      ·rw[h4,e']at e3
       cases e3
       cases tK:p0.2.1 with
       |nil=>exact h3.1 tK
       |cons x l=>
        have:=uK 0 x (by rw[tK];rfl)
        rw[h8']at this
        cases this
 ·intro p hp G o e
  obtain⟨h1,_,h2⟩:=h.pieces.2 p hp
  rcases h2.2 with h0|⟨C,o2,e2,hc⟩
  ·exact absurd h0 h1
  ·rw[e]at e2;cases e2
   cases tK:p.2.1 with
   |nil=>exact absurd tK h1
   |cons x l=>
    rintro rfl
    have:=hc 0 x (by rw[tK];rfl)
    rw[aa hg]at this
    exact h8 _ _ this
theorem qm{B:Nat}(h:au W b c ps)(h0:au W b0 c0 E7)(hS:eE W B b0 E7.length c0 a1 d1 c1 a2 d2 c2 q)(hk:∀j,j≠B->W'.heap[j]? =W.heap[j]?):au W' b c ps:=
 cO (g:=B) (λ j _ hj=>hk j hj) h (db.acG h h0 hS
  (λ j x=>by
    intro e;have:=Array.mem_of_getElem? e;simp at this)
  (λ j a n k e=>by
    have:=Array.mem_of_getElem? e;simp at this
    exact this.imp (·.2.1) λ h=>⟨h.1,h.2.1⟩))
theorem mb(h:au W b c ps){d:Bool}(hX:ew W X B0 id y wk wn kn tx g m s d a p1 e1 f1 p2 e2 f2 wt)(hk:∀j,j≠X->W'.heap[j]? =W.heap[j]?):au W' b c ps:=
 cO (g:=X) (λ j _ hj=>hk j hj) h (db.Fw h hX
  (λ j x=>by
    intro e;have:=Array.mem_of_getElem? e;simp at this)
  (λ j a' n k e=>by
    have:=Array.mem_of_getElem? e;simp at this;omega))
theorem It(hS:eE w B0 b ps.length cf a1 d1 c1 a2 d2 c2 q)(hX:ew w X B0 id y wk wn kn tx g m s false a p1 e1 f1 p2 e2 f2 wt)(bS:X≠B0)
 (hF:au w b cf ps)(hm:Marks (al ps))(h1:1<=tx.size)(h2:tx.size<=4096)(fG:(al ps).length+(dq (al ps).length (eV (dk tx))).length<=524288):
 Calls Tryz.prog 60 (dW (zp X)) w λ e w'=>∃(b':Option Addr) (bL:Nat) (bY:List Piece),e= .returned (.int .i64 0)/\eE w' B0 b' bY.length bL a1 d1 c1 a2 d2 c2 q/\ew w' X B0 id y wk wn kn tx g m s false (br (al ps).length) p1 e1 f1 p2 e2 f2 wt/\au w' b' bL bY/\al bY=al ps++dq (al ps).length (eV (dk tx))/\gd (λ j=>j=X\/j=B0) w w':=by
 have Ii:=(aX hX).1
 have QJ:=(aX hS).1
 obtain⟨cA,wA,hcA,Ms,Sn,zC,Nw⟩:=gO tx w
 have yM:=af (λ (V:World) (hV:Below w w V)=>show V.heap[X]? =some (.cells #[.pointer (zp B0),.string id,.string (aU y.id),.int .u32 (y.g:Int),.int .u32 (y.m:Int),.int .u64 (y.s:Int),.bool y.del,.int .i64 (y.at_:Int),.int .i64 wk,.int .i64 wn,.string ⟨#[]⟩,.slice none 0 0,.slice none 0 0,.bool kn,.string tx,.int .u32 (g:Int),.int .u32 (m:Int),.int .u64 (s:Int),.bool false,.int .i64 (a:Int),.int .i64 (p1:Int),.int .i64 (e1:Int),.int .i64 (f1:Int),.int .i64 0,.int .i64 0,.int .u64 0,.int .i64 0,.int .i64 0,.int .i64 (p2:Int),.int .i64 (e2:Int),.int .i64 (f2:Int),.int .i64 0,.int .i64 0,.int .u64 0,.int .i64 0,.int .i64 0,.bool wt] 124)from(hV.block X Ii).T hX)
 have yQ:=af (λ (V:World) (hV:Below w w V)=>hS.below hV)
 have mA:=af (λ (V:World) (hV:Below w w V)=>hF.below hV)
 have HF:Hid (∀W,Below w w W->W.cell? (za X 0)=some (.pointer (zp B0))/\W.cell? (za X 14)=some (.string tx)/\W.cell? (za X 18)=some (.bool false)/\W.cell? (za B0 0)=some (.slice none 0 0)/\W.cell? (za B0 1)=some (.slice b ps.length cf)/\W.cell? (za B0 2)=some (.int .i64 (-1))/\W.cell? (za B0 3)=some (.int .i64 (-1))/\W.cell? (za B0 4)=some (.bool false)):=af λ W hb=>by
  have h:=yM.O W hb
  have h2:=yQ.O W hb
  exact⟨(aa h 0).T rfl,(aa h 14).T rfl,(aa h 18).T rfl,(aa h2 0).T rfl,(aa h2 1).T rfl,(aa h2 2).T rfl,(aa h2 3).T rfl,(aa h2 4).T rfl⟩
 have HPT:=af (DK (hF.below zC) hm (dk tx) (zp w) cA Ms (by rw[dI];exact h1) (by rw[dI];exact h2) fG)
 rw[dI]at HPT
 have ei:=af (Below.refl w w)
 have uk:=af bS
 have TH:=cj Ii QJ
 unfold aE at HPT
 clear hS hX Ii QJ hF hm h1 h2 fG bS Ms Sn Nw
 go_enter Tryz.func60,Tryz.ntmps60
 obtain⟨x0,qR,Gg,s0,s1,s2,s3,s4⟩:=HF.O _ ei.O
 go_wp2_with fail
 refine bP 30 ?_
 refine tP [0,1,2,3,4,5,6,7,8,9,10,11,12,13,14,15] ?_
 iterate 16 refine tO ?_
 refine ah 14 rfl ?_
 refine sP 16 [12,13,14,15] λ K hK=>?_
 go_simp
 clear x0 qR Gg s0 s1 s2 s3 s4
 obtain⟨x0,qR,Gg,s0,s1,s2,s3,s4⟩:=HF.O _ zC
 refine nP hK ?_
 clear hK K
 refine sP 17 [5,6,7,8,9,10,11,12,13,14,15,16] λ K hK=>?_
 go_simp
 (with_reducible refine HPT.O.mono ?_);rintro e w3 ⟨b',c',pc,rfl,Mo,AJ,kK,aL⟩
 have bA:=af (zC.T (aL.mono zC.size))
 have Dc:=cV Mo AJ kK
 clear aL Mo AJ kK
 clear x0 qR Gg s0 s1 s2 s3 s4
 obtain⟨x0,qR,Gg,s0,s1,s2,s3,s4⟩:=HF.O _ bA.O
 refine nP hK ?_
 clear hK K
 refine tP [18,19,20,21,22,23] ?_
 iterate 6 refine tO ?_
 refine ah 6 rfl ?_
 refine sP 24 [0,1,2,3,5,6,7,8,9,10,11,12,13,14,15,16,17,18,19,22,23] λ K hK=>?_
 refine lB ?_
 refine bI 37 _ _ rfl B0 0 (zJ b ps.length cf a1 d1 c1 a2 d2 c2 q) (cK b' (ps.length+1) c') 97 rfl rfl (yQ.O w3 bA.O) aR aO (by simp[Value.oneCell']) (λ w7 g1 g2 g3=>?_)
 simp only[aF,bD]at g1
 have qC:=qm Dc.O.1 (mA.O w3 bA.O) (yQ.O w3 bA.O) g2
 have nc:=(g2 X uk.O).T (yM.O w3 bA.O)
 have x19:=(aa nc 19).T rfl
 simp only[aD]at x19
 have xf:=ak nc 19
 have eX:=jo g1 nc qC (g3 0 w3 (Nat.zero_le _) (dp))
 have Dg:=af (λ j (hj:j≠B0)=>g2 j hj)
 clear g1 g2 g3 qC nc x0 qR Gg s0 s1 s2 s3 s4
 refine nP hK ?_
 clear hK K
 refine tP [25,26,27] ?_
 iterate 3 refine tO ?_
 refine ah 2 rfl ?_
 refine sP 28 [0,1,2,3,4,5,6,7,8,9,10,11,12,13,14,15,16,17,18,19,20,22,23,24,25,26,27] λ K hK=>?_
 go_simp
 refine nP hK ?_
 clear hK K
 refine tP [29] ?_
 refine tO ?_
 refine ah 0 rfl ?_
 refine dP ?_
 go_simp
 go_wp2_with fail
 go_ret
 obtain⟨hl,aH,da,cL⟩:=eX.O
 have oN:∀j,j≠X->(w7.setCell (za X 19) (.int .i64 ((br (al ps).length:Nat):Int))).heap[j]? =w7.heap[j]? := λ j hj=>Below.heap_setCell _ _ _ _ hj
 refine⟨b',c',ps++[pc],rfl,?_,?_,mb da aH oN,?_,?_⟩
 ·rw[List.length_append];exact(oN B0 (λ e=>uk.O e.symm)).T hl
 ·unfold ew qA;simpa using aq (j:=19) (.int .i64 ((br (al ps).length:Nat):Int)) aH
 ·have:al (ps++[pc])=al ps++pc.2.1:=by simp[al]
  rw[this,Dc.O.2.1]
 ·have h3:=bA.O
  refine(gd.aA h3).T (gd.T (V:=w7) ⟨cL.os,cL.tape,cL.output,cL.size, λ j _ hj=>Dg.O j (λ e=>hj (.inr e))⟩ ⟨rfl,rfl,rfl,by simp[World.setCell], λ j _ hj=>oN j (λ e=>hj (.inl e))⟩)
theorem Pn{ka va:Option Addr}{kl kc vl vc:Nat}{p:Bool}{key val:List Nat}(h:W.heap[R]? =some (.cells (oB ka kl kc p va vl vc) 194))(hk:ai W ka key)(hv:ai W va val)(h1:key.length=kl)(h2:val.length=vl):dS W (zp R) [⟨ka,key,kc,p,va,val,vc⟩]:=by
 subst h1 h2
 refine⟨.inr ⟨R,0,rfl, λ j x hj=>?_⟩, λ x hx=>?_⟩
 ·rcases j with _|j
  ·cases hj;exact aj h
  ·simp at hj
 ·rw[List.mem_singleton]at hx;subst hx;exact⟨hk,hv⟩
theorem SO(hS:eE w B0 b ps.length cf a1 d1 c1 a2 d2 c2 q){d:Bool}(hX:ew w X B0 id y wk wn kn tx g m s d a p1 e1 f1 p2 e2 f2 wt)(bS:X≠B0)
 (hF:au w b cf ps)(hm:Marks (al ps))(hI:rJ g m s d a)(h1:1<=id.size)(h2:id.size<=24)(ht:dh (al ps) a1 d1 c1 items)(vf:items.length<=200)(fy:its=dK items [⟨dk id,true,b5 g m s d a⟩])(hlen:its.length<=200)(fG:cQ its)(dX:(al ps).length+200*its.length<=524288):
 Calls Tryz.prog 61 (dW (zp X)) w λ e w'=>∃(oA d' c':Nat) (b':Option Addr) (bL:Nat) (bz:List Piece),e= .returned (.int .i64 0)/\eE w' B0 b' bz.length bL a1 d1 c1 a2 d2 c2 q/\ew w' X B0 id y wk wn kn tx g m s d a oA d' c' p2 e2 f2 wt/\au w' b' bL bz/\Marks (al bz)/\dh (al bz) oA d' c' its/\(∃m,al bz=al ps++m)/\(al bz).length<=(al ps).length+120*its.length/\gd (λ j=>j=X\/j=B0) w w':=by
 have Ii:=(aX hX).1
 have QJ:=(aX hS).1
 have yM:=af (λ (V:World) (hV:Below w w V)=>show V.heap[X]? =some (.cells (zK (zp B0) id (aU y.id) y.g y.m y.s y.del y.at_ wk wn kn tx g m s d a p1 e1 f1 p2 e2 f2 wt) 124)from(hV.block X Ii).T hX)
 have yQ:=af (λ (V:World) (hV:Below w w V)=>hS.below hV)
 have mA:=af (λ (V:World) (hV:Below w w V)=>hF.below hV)
 have HF:Hid (∀W,Below w w W->W.cell? (za X 0)=some (.pointer (zp B0))/\W.cell? (za X 1)=some (.string id)/\W.cell? (za B0 0)=some (.slice none 0 0)/\W.cell? (za B0 1)=some (.slice b ps.length cf)/\W.cell? (za B0 2)=some (.int .i64 (-1))/\W.cell? (za B0 3)=some (.int .i64 (-1))/\W.cell? (za B0 4)=some (.bool false)/\W.cell? (za B0 5)=some (.int .i64 (a1:Int))/\W.cell? (za B0 6)=some (.int .i64 (d1:Int))/\W.cell? (za B0 7)=some (.int .i64 (c1:Int))/\W.cell? (za B0 8)=some (.int .i64 0)/\W.cell? (za B0 9)=some (.int .i64 0)/\W.cell? (za B0 10)=some (.int .u64 0)/\W.cell? (za B0 11)=some (.int .i64 0)/\W.cell? (za B0 12)=some (.int .i64 0)):=af λ W hb=>by
  have h:=yM.O W hb
  have h2:=yQ.O W hb
  exact⟨(aa h 0).T rfl,(aa h 1).T rfl,(aa h2 0).T rfl,(aa h2 1).T rfl,(aa h2 2).T rfl,(aa h2 3).T rfl,(aa h2 4).T rfl,(aa h2 5).T rfl,(aa h2 6).T rfl,(aa h2 7).T rfl,(aa h2 8).T rfl,(aa h2 9).T rfl,(aa h2 10).T rfl,(aa h2 11).T rfl,(aa h2 12).T rfl⟩
 have Kz:=af (vA hI w)
 have Lu:w.rangeAt X 15 (qW g m s d a):=bp (o:=0) [.pointer (zp B0),.string id,.string (aU y.id),.int .u32 (y.g:Int),.int .u32 (y.m:Int),.int .u64 (y.s:Int),.bool y.del,.int .i64 (y.at_:Int),.int .i64 wk,.int .i64 wn,.string ⟨#[]⟩,.slice none 0 0,.slice none 0 0,.bool kn,.string tx] (qW g m s d a) [.int .i64 (p1:Int),.int .i64 (e1:Int),.int .i64 (f1:Int),.int .i64 0,.int .i64 0,.int .u64 0,.int .i64 0,.int .i64 0,.int .i64 (p2:Int),.int .i64 (e2:Int),.int .i64 (f2:Int),.int .i64 0,.int .i64 0,.int .u64 0,.int .i64 0,.int .i64 0,.bool wt] (aj hX)
 have Fy:Hid (∀(V:World) (ea:Option Addr) (l:List bN),Below w w V->dS V ea l->l.map rF=[⟨dk id,true,b5 g m s d a⟩]->Calls Tryz.prog 80 #[aE b ps.length cf,cM a1 d1 c1,.slice ea 1 1] V λ e w'=>∃(oA d' c':Nat) (b':Option Addr) (bL:Nat) (bz:List Piece),e= .returned (.tuple #[aE b' bz.length bL,cM oA d' c',.int .i64 0])/\au w' b' bL bz/\Marks (al bz)/\dh (al bz) oA d' c' its/\(∃m,al bz=al ps++m)/\(al bz).length<=(al ps).length+120*its.length/\Below V V w'):=af λ V ea l hV he hl=>by
  have sj:l.length=1:=by have:=congrArg List.length hl;simpa using this
  have WA:(b5 g m s d a).length=21:=by simp[b5,nE]
  obtain⟨x,rfl⟩:=List.length_eq_one_iff.1 sj
  have hx:rF x=⟨dk id,true,b5 g m s d a⟩:=by simpa using hl
  have k1:x.key=dk id:=congrArg Ed.key hx
  have k2:x.put=true:=congrArg Ed.put hx
  have k3:x.val=b5 g m s d a:=congrArg Ed.val hx
  have bt:=Bv (ce:=1) (hF.below hV) hm ht vf he aR (λ z hz=>by
   rw[List.mem_singleton]at hz;subst hz
   refine⟨by rw[k1,dI];exact h1,by rw[k1,dI];omega,by rw[k3,WA];decide, λ e=>by rw[k2]at e;cases e⟩) (λ j a b h1 h2=>by rcases j with _|j<;>simp at h2) aR (fy.T (by rw[hl])) hlen fG dX
  exact bt
 have uk:=af bS
 have TH:=jo Ii QJ h1 h2
 unfold oy at Kz
 unfold aE cM at Fy
 clear hS hX Ii QJ hF hm h1 h2 fG bS hI ht vf fy hlen dX
 go_enter Tryz.func61,Tryz.ntmps61
 go_wp2_with first
  |(refine bh 104 ?_)
  |((with_reducible refine Kz.O.mono ?_);rintro e w1 ⟨va,vc,rfl,xi,acH,acI,aQ⟩
    have OP:=af xi
    have cZ:=af aQ
    clear xi acH acI aQ Lu)
  |fail
 obtain⟨cA,wA,hcA,Ms,Sn,zC,Nw⟩:=gO id w1
 obtain⟨wS,Ja⟩:=aK (wA.alloc (.cells (zL (zp w1) id.size cA va 21 vc) 194))
 have hbS:Below wA wA wS:=by rw[Ja];go_grown
 have XW:wS.heap[wA.heap.size]? =some (.cells (zL (zp w1) id.size cA va 21 vc) 194):=jJ Ja
 have AO:=af (cZ.O.T (zC.mono cZ.O.size))
 have F7:=af (AO.O.T (hbS.mono AO.O.size))
 have zB:=af (Fy.O wS _ _ F7.O (Pn XW (Ms.below hbS) ((OP.O.below zC).below hbS) (dI id) (by simp[b5,nE])) rfl)
 have Zt:=af Ja
 clear Ms Sn zC Ja hbS XW
 rw[Nw]at zB
 obtain⟨x0,x1,s0,s1,s2,s3,s4,s5,s6,s7,s8,s9,Xd,Xe,Xf⟩:=HF.O _ cZ.O
 refine bP 40 ?_
 refine tP [0,1,2,3,4,5,6,7,8,9,10,11,12,13,14,15,16,17,18,19,20,21,22,23,25] ?_
 iterate 25 refine tO ?_
 refine ah 15 rfl ?_
 refine sP 24 [20,21,22,23] λ K hK=>?_
 go_simp
 clear x0 x1 s0 s1 s2 s3 s4 s5 s6 s7 s8 s9 Xd Xe Xf
 obtain⟨x0,x1,s0,s1,s2,s3,s4,s5,s6,s7,s8,s9,Xd,Xe,Xf⟩:=HF.O _ AO.O
 refine nP hK ?_
 clear hK K
 refine tP [26] ?_
 refine tO ?_
 refine ah 13 rfl ?_
 refine sP 27 [20,21,22,23,24,25,26] λ K hK=>?_
 go_simp
 rw[<-Zt.O]
 clear x0 x1 s0 s1 s2 s3 s4 s5 s6 s7 s8 s9 Xd Xe Xf
 obtain⟨x0,x1,s0,s1,s2,s3,s4,s5,s6,s7,s8,s9,Xd,Xe,Xf⟩:=HF.O _ F7.O
 refine nP hK ?_
 clear hK K
 refine sP 28 [5,6,7,8,9,10,11,12,13,14,15,16,17,18,19,20,21,22,23,24,25,26,27] λ K hK=>?_
 go_simp
 (with_reducible refine zB.O.mono ?_);rintro e w5 ⟨oA,d',c',b',bL,bz,rfl,yY,JN,JO,jG,Gh,bJ⟩
 have eN:=af (F7.O.T (bJ.mono F7.O.size))
 have nY:=BM yY JN JO jG Gh
 clear yY JN JO jG Gh bJ
 clear x0 x1 s0 s1 s2 s3 s4 s5 s6 s7 s8 s9 Xd Xe Xf
 obtain⟨x0,x1,s0,s1,s2,s3,s4,s5,s6,s7,s8,s9,Xd,Xe,Xf⟩:=HF.O _ eN.O
 refine nP hK ?_
 clear hK K
 refine tP [29,30,31,32,33,34] ?_
 iterate 6 refine tO ?_
 refine ah 5 rfl ?_
 refine sP 35 [0,1,2,3,5,6,7,8,9,10,11,12,13,14,15,16,17,18,19,20,21,22,23,24,25,26,27,28,29,30,33,34] λ K hK=>?_
 refine lB ?_
 refine bI 37 _ _ rfl B0 0 (zJ b ps.length cf a1 d1 c1 a2 d2 c2 q) (cK b' bz.length bL) 97 rfl rfl (yQ.O w5 eN.O) aR aO (by simp[Value.oneCell']) (λ w7 g1 g2 g3=>?_)
 simp only[aF,bD]at g1
 have qC:=qm nY.O.1 (mA.O w5 eN.O) (yQ.O w5 eN.O) g2
 have nc:=(g2 X uk.O).T (yM.O w5 eN.O)
 have eX:=jo g1 nc qC (g3 0 w5 (Nat.zero_le _) (dp))
 have Dg:=af (λ j (hj:j≠B0)=>g2 j hj)
 clear g1 g2 g3 qC nc x0 x1 s0 s1 s2 s3 s4 s5 s6 s7 s8 s9 Xd Xe Xf
 refine nP hK ?_
 clear hK K
 refine tP [36,37] ?_
 iterate 2 refine tO ?_
 refine ah 2 rfl ?_
 refine sP 38 [0,1,2,3,4,5,6,7,8,9,10,11,12,13,14,15,16,17,18,19,20,21,22,23,24,25,26,27,28,29,30,31,33,34,35,36,37] λ K hK=>?_
 refine lB ?_
 refine bI 41 _ _ rfl X 20 (zK (zp B0) id (aU y.id) y.g y.m y.s y.del y.at_ wk wn kn tx g m s d a p1 e1 f1 p2 e2 f2 wt) (ju oA d' c') 124 rfl rfl eX.O.2.1 aR aO (by simp[Value.oneCell']) (λ w9 g1 g2 g3=>?_)
 simp only[aF,bD]at g1
 have Pm:=jo g1 ((g2 B0 (λ e=>uk.O e.symm)).T eX.O.1) (mb eX.O.2.2.1 eX.O.2.1 g2) (g3 0 w7 (Nat.zero_le _) (dp))
 have SP:=af (λ j (hj:j≠X)=>g2 j hj)
 clear g1 g2 g3
 refine nP hK ?_
 clear hK K
 refine tP [39] ?_
 refine tO ?_
 refine ah 0 rfl ?_
 refine dP ?_
 go_simp
 go_wp2_with fail
 go_ret
 obtain⟨Jy,Po,SQ,oQ⟩:=Pm.O
 obtain⟨zM,nc,qC,mv⟩:=eX.O
 refine⟨oA,d',c',b',bL,bz,rfl,Po,Jy,SQ,nY.O.2.1,nY.O.2.2.1,nY.O.2.2.2.1,nY.O.2.2.2.2,?_⟩
 exact(gd.aA eN.O).T (gd.T (V:=w7) ⟨mv.os,mv.tape,mv.output,mv.size, λ j _ hj=>Dg.O j (λ e=>hj (.inr e))⟩ ⟨oQ.os,oQ.tape,oQ.output,oQ.size, λ j _ hj=>SP.O j (λ e=>hj (.inl e))⟩)
end
end Go.Proofs.YtkgapncajjafoaaGreatDoor

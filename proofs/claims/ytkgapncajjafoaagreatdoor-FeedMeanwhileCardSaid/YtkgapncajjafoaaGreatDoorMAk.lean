/- The store, part 11. -/
import Derived.Test.YtkgapncajjafoaaGreatDoorMAa
import Derived.Test.YtkgapncajjafoaaGreatDoorMAj
import Derived.Test.YtkgapncajjafoaaGreatDoorMAh
import Derived.Test.YtkgapncajjafoaaGreatDoorMAb
import Derived.MapKept
import Derived.Test.YtkgapncajjafoaaGreatDoorMAi
import Derived.Test.YtkgapncajjafoaaGreatDoorMAe
import Derived.Test.YtkgapncajjafoaaGreatDoorMAg
set_option linter.unusedSimpArgs false
set_option linter.unusedVariables false
set_option maxRecDepth 100000
set_option maxHeartbeats 16000000
namespace Go.Proofs.YtkgapncajjafoaaGreatDoor
open Go.RowKit Go.Shelf
variable{n₀ B n cf a1 d1 c1 a2 d2 c2 q M d at_ lo D k i:Nat}{W W' w:World}{v:Value}{a b:Option Addr}{ps:List Piece}{all:List Nat}{ys:List aw}{its s sy:List KV}{xs:List an}{r:aN}{pre es:List aG}
section
attribute [local go_sem] Oper.semAt_some
attribute [-go_sem] Builtin.append_
structure kh(n₀ B:Nat)(W W':World):Prop where
 below:Below n₀ W W'
 bT:∀(k:Nat) (cs:Array Value) (t:TypeId) (fz:Nat×Nat),W.heap[k]? =some (.cells cs t fz)->k≠B->W'.heap[k]? =some (.cells cs t fz)
 box:∀n:Int,W.heap[B]? =some (.cells (qV n) 3)->∃m:Int,W'.heap[B]? =some (.cells (qV m) 3)
theorem kh.refl(n₀ B:Nat)(W:World):kh n₀ B W W:=⟨dp, λ _ _ _ _ h _=>h, λ n h=>⟨n,h⟩⟩
theorem kh.T{n₀ B:Nat}{U V W:World}(h:kh n₀ B U V)(k:kh n₀ B V W):kh n₀ B U W:=
 ⟨h.below.T k.below, λ j cs t fz hj hB=>k.bT j cs t fz (h.bT j cs t fz hj hB) hB, λ n hn=>by obtain⟨m,hm⟩:=h.box n hn;exact k.box m hm⟩
theorem kh.aA(h:Below W W W')(hn:n₀<=W.heap.size):kh n₀ B W W':=
 ⟨h.mono hn, λ k _ _ _ hk _=>(h.block k (aX hk).1).T hk, λ n hk=>⟨n,(h.block B (aX hk).1).T hk⟩⟩
theorem kh.putObj{n₀ B:Nat}(W:World)(l:Nat)(o o':Obj)(h:W.heap[l]? =some o)(ho:o.isCells=false)(hn:n₀<=l):kh n₀ B W (W.putObj l o'):=by
 have key:∀(k:Nat) (cs:Array Value) (t:TypeId) (fz:Nat×Nat),W.heap[k]? =some (.cells cs t fz)->(W.putObj l o').heap[k]? =some (.cells cs t fz):= λ k cs t fz hk=>
  (World.putObj_heap_other λ e=>by subst e;rw[hk]at h;cases h;cases ho).T hk
 exact⟨(Below.refl n₀ W).grown (grownBy_putObj' W l o') (by have:=(aX h).1;omega) (λ k e=>by cases e;omega), λ k cs t fz hk _=>key _ _ _ _ hk, λ n hk=>⟨n,key _ _ _ _ hk⟩⟩
theorem kh.cell(h:kh n₀ B W W'){n:Int}(hb:W.heap[B]? =some (.cells (qV n) 3)){p:Addr}(hc:W.cell? p=some v)(hv:∀m,v≠.int .i64 m):W'.cell? p=some v:=by
 obtain⟨o,ho,Tx⟩:=cells_of_cell hc
 cases o<;>simp[Obj.isCells]at Tx
 rename_i cs t fz
 by_cases hk:p.block=B
 ·exfalso
  rw[hk,hb]at ho
  cases ho
  obtain⟨pb,po,pn⟩:=p
  simp only at hk
  subst hk
  have h0:=hc
  simp only[World.cell?,hb]at h0
  rcases pn with _|pn
  ·rcases po with _|po
   ·simp at h0;exact hv n h0.symm
   ·simp at h0
  ·simp at h0
 ·exact(World.cell?_of_block (w:=W) ((h.bT _ _ _ _ ho hk).T ho.symm)).T hc
theorem ai.aaI(h:kh n₀ B W W'){n:Int}(hb:W.heap[B]? =some (.cells (qV n) 3)){xs:List Nat}(hx:ai W a xs):ai W' a xs:=by
 refine⟨hx.1,?_⟩
 rcases hx.2 with h0|⟨C,o,ha,hc⟩
 ·exact .inl h0
 ·exact .inr ⟨C,o,ha, λ j x hj=>h.cell hb (hc j x hj) (λ m e=>by cases e)⟩
theorem E0(items:List KV):lQ (-1) (iO we items)=items:=by
 have h:∀kv∈items,we.holds kv.1=true:= λ kv _=>by
  unfold jH.holds jH.ends we
  have:0<=cmpL kv.1 []:=by cases kv.1<;>simp[cmpL]
  simp[this]
 unfold lQ iO
 rw[if_pos bd,List.filter_eq_self.2 h]
theorem OK{w0:World}(hF:au w0 b cf ps)(hm:Marks (al ps)){ds:List aG}(ht:dh (al ps) a1 d1 c1 (ds.map yF))(gW:∀x∈ds,vK (al ps) q x)(hlen:ds.length<=1000)(B B0 Bp:Nat)(w:World)(nh:Below w0 w0 w)(hS:eE w B0 b ps.length cf a1 d1 c1 a2 d2 c2 q)(hp:w.heap[Bp]? =some (.cells (dW (zp B0)) 95))(YW:B0≠B)(hBp:Bp≠B){n0:Int}(hB:w.heap[B]? =some (.cells (qV n0) 3)):
 Gx Tryz.prog 53 (dW (zp Bp)) (λ x=>#[Lr x,.bool true]) (kh w0.heap.size B) (λ _=>False) (λ _=>True) ds w:=by
 intro n l J Jx W hn kN hJ Nf hY h0
 have Nl:Below w0 w0 W:=nh.T (kN.mono nh.size)
 have MV:w0.heap.size<=W.heap.size:=Nl.size
 have TY:=hS.below kN
 have hpW:=(kN.block Bp (aX hp).1).T hp
 have Sa:=(kN.block B (aX hB).1).T hB
 have pH:=af (nN (w:=W.drew) (l:=we) ((hF.below Nl).below (Below.refl _ W).drew) hm ht ⟨ai.nil _ _,ai.nil _ _⟩ (-1) (.inl rfl) (by simpa using hlen))
 rw[E0]at pH
 have HR:Hid (∀(V:World) (x:aG),Below w0 w0 V->eE V B0 b ps.length cf a1 d1 c1 a2 d2 c2 q->x∈ds->∀(C o:Nat) (ka:Option Addr) (kc vc:Nat),ai V ka x.id->ai V (some ⟨C,o,none⟩) x.enc->21<=vc->∀m,CallsIn Fence.wide m Tryz.prog 54 (tQ (zp B0) (.agg (dv ka x.id.length kc (some ⟨C,o,none⟩) 21 vc))) V λ e w'=>e= .returned (.tuple (lD (.agg (vR (aU x.id) x.g x.m x.s x.del x.at_ (kindOf x.del) (gG x.del x.n)))))/\Below V V w'):=af λ V x hV hs hx C o ka kc vc hk hv uI m=>by
  have hd:=gW x hx
  exact callsIn_wide.2 (Bd hs (hF.below hV) hm hk (by have:=(rK hd.id).2;omega) hd.id hd.info hv uI hd.body)
 have oG:=af TY
 have HPP:=af hpW
 have Ni:=af Sa
 have Ve:=af MV
 have Gy:=af Nl
 have uk:=cj YW hBp
 have HJ:=af hJ
 have HY:=af hY
 have H0:=af h0
 have TZ:=af hlen
 have g0:=aJ hpW
 have hF0:W.cell? (za B0 0)=some (.slice none 0 0)/\W.cell? (za B0 1)=some (.slice b ps.length cf)/\W.cell? (za B0 2)=some (.int .i64 (-1))/\W.cell? (za B0 3)=some (.int .i64 (-1))/\W.cell? (za B0 4)=some (.bool false)/\W.cell? (za B0 5)=some (.int .i64 (a1:Int))/\W.cell? (za B0 6)=some (.int .i64 (d1:Int))/\W.cell? (za B0 7)=some (.int .i64 (c1:Int))/\W.cell? (za B0 8)=some (.int .i64 0)/\W.cell? (za B0 9)=some (.int .i64 0)/\W.cell? (za B0 10)=some (.int .u64 0)/\W.cell? (za B0 11)=some (.int .i64 0)/\W.cell? (za B0 12)=some (.int .i64 0):=by
  have h:=TY
  exact⟨(aa h 0).T rfl,(aa h 1).T rfl,(aa h 2).T rfl,(aa h 3).T rfl,(aa h 4).T rfl,(aa h 5).T rfl,(aa h 6).T rfl,(aa h 7).T rfl,(aa h 8).T rfl,(aa h 9).T rfl,(aa h 10).T rfl,(aa h 11).T rfl,(aa h 12).T rfl⟩
 obtain⟨f0,f1,f2,f3,f4,f5,f6,f7,f8,f9,f10,f11,f12⟩:=hF0
 unfold aE cM jH.v we at pH
 simp only[List.length_nil]at pH
 clear hF hm ht gW hlen nh hS hp YW hBp hB kN hJ Nf hY h0 Nl MV TY hpW Sa
 refine callsIn_of_wp Tryz.func53 rfl trivial ?_ rfl
 simp only[Tryz.ntmps53,zEn,Nat.reduceAdd,Nat.reduceSub]
 gi_wp2_with fail
 refine wpIn_wide.2 ?_
 refine bP 16 ?_
 refine tP [0,1,2,3,4,5,6,7,8,9] ?_
 iterate 10 refine tO ?_
 refine ah 6 rfl ?_
 refine sP 10 [0,1,2,3,4,5,6,7,8,9] λ K hK=>?_
 go_simp
 (with_reducible refine pH.O.mono ?_);rintro e w3 ⟨ys,a,k,rfl,xF,ax,aL⟩;have bA:Hid (Below W W w3):=af (((Below.refl _ W).drew).T aL);have qJ:=af xF;have yc:=af ax;clear aL xF ax
 refine nP hK ?_
 clear hK K
 refine tP [11,12,13,14,15] ?_
 iterate 5 refine tO ?_
 refine ah 0 rfl ?_
 refine dP ?_
 go_simp
 clear f0 f1 f2 f3 f4 f5 f6 f7 f8 f9 f10 f11 f12 g0
 have r6:ys.length=ds.length:=by have:=congrArg List.length qJ.O;simpa using this
 have HYL:=af r6
 obtain⟨L,hL⟩:=aK ys.length
 have HL:=af hL
 rw[<-hL]
 have sk:(L:Int)<=1000:=aM TZ.O
 have DD:Hid (J [] w3):=af (HJ.O _ _ _ H0.O (dz.aA bA.O))
 have mK:Hid (kh w0.heap.size B W w3):=af (kh.aA bA.O Ve.O)
 have E1:Hid (w3.heap[B]? =some (.cells (qV n0) 3)):=af ((bA.O.block _ (aX Ni.O).1).T Ni.O)
 clear r6 hL H0
 gi_wp2_with fail
 gi_loopw [28] (λ iv wr=>∃(i:Nat),iv= .int .i64 (i:Int)/\i<=L/\Hid (J (ds.take i) wr/\kh w0.heap.size B w3 wr)) (λ iv _=>L - (intOf iv).toNat)
 case atStart=>exact⟨0,rfl,Nat.zero_le _,af ⟨DD.O,kh.refl _ _ _⟩⟩
 case round=>
  obtain⟨i,rfl,hiL,An⟩:=hrel
  by_cases vf:i<L
  ·obtain⟨y,hy⟩:∃y,ys[i]? =some y:=⟨_,List.getElem?_eq_getElem (aM HL.O)⟩
   obtain⟨x,hx⟩:∃x,ds[i]? =some x:=⟨_,List.getElem?_eq_getElem (cG HL.O HYL.O)⟩
   have CG:eC y=yF x:=by
    have h1:=congrArg (λ l=>l[i]?) qJ.O
    simp only[List.getElem?_map,hy,hx,Option.map_some,Option.some.injEq]at h1
    exact h1
   have e1:y.key=x.id:=congrArg Prod.fst CG
   have e2:y.val=x.enc:=congrArg Prod.snd CG
   have qw:y∈ys:=List.mem_of_getElem? hy
   have Cq:x∈ds:=List.mem_of_getElem? hx
   have rX:=yc.O.2 y qw
   have fY:ai w3 y.ka x.id:=by rw[<-e1];exact rX.1.1
   have OL:ai w3 y.va x.enc:=by rw[<-e2];exact rX.1.2
   have hvl:y.val.length=21:=by rw[e2,ti]
   have uI:y.vc=21:=by rw[rX.2,hvl]
   obtain⟨C,o,Ls⟩:∃C o,y.va=some ⟨C,o,none⟩:=by
    rcases OL.2 with h0|⟨C,o,h0,_⟩
    ·have:=ti x;rw[h0]at this;cases this
    ·exact⟨C,o,h0⟩
   obtain⟨R,oo,rfl,kL⟩:∃R oo,a=some ⟨R,oo,none⟩/\(w3.cell? ⟨R,oo+i*4,none⟩=some (.slice y.ka y.key.length y.kc)/\w3.cell? ⟨R,oo+i*4+1,none⟩=some (.slice y.va y.val.length y.vc)/\w3.cell? ⟨R,oo+i*4+2,none⟩=some (.bool false)/\w3.cell? ⟨R,oo+i*4+3,none⟩=some (.int .i64 0)):=by
    rcases yc.O.at.1 with h0|⟨R,oo,e,hc⟩
    ·rw[h0]at qw;cases qw
    ·exact⟨R,oo,e,hc i y hy⟩
   have hRB:R≠B:= λ e=>by
    have h1:=kL.1
    rw[e]at h1
    obtain⟨ob,ho1,vY⟩:=cells_of_cell h1
    have hb:=E1.O
    rw[show(⟨B,oo+i*4,none⟩:Addr).block=B from rfl,hb]at ho1
    cases ho1
    simp only[World.cell?,hb]at h1
    rcases Nat.eq_zero_or_pos (oo+i*4)with hz|hz
    ·rw[hz]at h1;simp at h1
    ·simp[show¬ (oo+i*4<1)by omega]at h1
   have XM:∀(p:Addr) (v:Value),p.block=R->w3.cell? p=some v->wr.cell? p=some v:= λ p v hp hc=>by
    obtain⟨ob,ho1,vY⟩:=cells_of_cell hc
    cases ob<;>simp[Obj.isCells]at vY
    exact(World.cell?_of_block (w:=w3) ((An.O.2.bT _ _ _ _ ho1 (by rw[hp];exact hRB)).T ho1.symm)).T hc
   rw[e1,hvl,uI,Ls]at kL
   rw[Ls]at OL
   obtain⟨kc,zt⟩:=aK y.kc
   obtain⟨ka,Lt⟩:=aK y.ka
   rw[<-zt,<-Lt]at kL
   rw[<-Lt]at fY
   have Lu:wr.rangeAt R (oo+i*4) (dv ka x.id.length kc (some ⟨C,o,none⟩) 21 21):= λ j v hv=>by
    rcases j with _|_|_|_|j
    ·cases hv;exact XM _ _ rfl kL.1
    ·cases hv;exact XM _ _ rfl kL.2.1
    ·cases hv;exact XM _ _ rfl kL.2.2.1
    ·cases hv;exact XM _ _ rfl kL.2.2.2
    ·simp at hv
   obtain⟨wx,oH⟩:=aK (wr.alloc (.cells (dv ka x.id.length kc (some ⟨C,o,none⟩) 21 21) 114))
   have ey:Below wr wr wx:=by rw[oH];go_grown
   have qz:wx.heap[wr.heap.size]? =some (.cells (dv ka x.id.length kc (some ⟨C,o,none⟩) 21 21) 114):=jJ oH
   have Wv:=aj qz
   have ZD:=(An.O.2.bT Bp _ _ _ ((bA.O.block _ (aX HPP.O).1).T HPP.O) uk.O.2)
   have g0:=aJ ((ey.block _ (aX ZD).1).T ZD)
   have iU:eE wr B0 b ps.length cf a1 d1 c1 a2 d2 c2 q:=An.O.2.bT B0 _ _ _ (oG.O.below bA.O) uk.O.1
   have CH:Below w0 w0 wr:=Gy.O.T ((bA.O.mono Ve.O).T An.O.2.below)
   have hRD:=af (HR.O wx x (CH.T (ey.mono CH.size)) (iU.below ey) Cq C o ka kc 21 ((fY.aaI An.O.2 E1.O).below ey) ((OL.aaI An.O.2 E1.O).below ey) (aW))
   rw[oH]at Wv g0
   have Ga:=af oH
   have mQ:=cj ey CH.size
   have AY:ds.take i++[x]=ds.take (i+1):=by rw[List.take_add_one,hx];rfl
   have aaJ:(i:Int)<(L:Int):=ag
   have JA:=af AY
   have HXM:=af hx
   clear hy hx CG e1 e2 qw Cq rX fY OL hvl uI Ls hRB XM kL zt Lt oH ey qz ZD iU CH AY
   gi_wp2_with first
    |(refine fE rfl 114 _ rfl _ _ rfl _ _ UB Tryz.underlying114 rfl aO ?_)
    |(refine iy 114 rfl _ _ rfl _ _ _ rfl aR rfl (by rfl) aO (by simp[Value.oneCell']) ?_)
    |((refine⟨True.intro, λ _=>ag,?_⟩);rw[<-Ga.O];(with_reducible refine(hRD.O _).mono ?_);rintro e w5 ⟨rfl,bJ⟩
      have hj5:=HJ.O _ _ _ (HJ.O _ _ _ An.O.1 (dz.aA mQ.O.1)) (dz.aA bJ)
      obtain⟨f1,t1,aa1,b1,lA,J8⟩:=HY.O (ds.take i) x w5 hj5 (by rw[JA.O];exact⟨ds.drop (i+1),List.take_append_drop _ _⟩)
      have eN:=af bJ
      clear bJ hj5)
    |fail
   refine⟨λ _=>ag,J8.mono ?_⟩
   have HL5:=af (An.O.2.T ((kh.aA (B:=B) mQ.O.1 mQ.O.2).T (kh.aA eN.O (Nat.le_trans mQ.O.2 mQ.O.1.size))))
   rintro e w6 (⟨rfl,rj,TC⟩|⟨rfl,kD,TC⟩)
   ·gi_wp2_with fail
    go_roundw
    case rel=>exact⟨i+1,by simp,ag,af ⟨by rw[<-JA.O];exact rj,HL5.O.T TC⟩⟩
    case measure=>simp[intOf];omega
   ·gi_wp2_with fail
    refine bodyPost_ret (results_none rfl _ _ _) rfl ?_
    exact⟨⟨_,rfl⟩,.inr ⟨_,(by rw[JA.O];exact⟨ds.drop (i+1),List.take_append_drop _ _⟩),kD⟩,trivial⟩
  ·obtain rfl:i=L:=ag
   have HE:Hid (J ds wr):=af (by have:=An.O.1;rwa [List.take_of_length_le (cG HL.O HYL.O)]at this)
   gi_wp2
   go_end0
   exact⟨⟨_,rfl⟩,.inl HE.O,trivial⟩
end
section
open Go.MapKept (IsKey)
def l9(W:World)(M:Nat)(l:List (Value×Value)):Prop:=∃(es:Array MapEntry) (clock:Nat),W.heap[M]? =some (.map es clock)/\es.toList.map (λ e=>(e.key,e.val))=l
theorem l9.new(W:World):l9 (W.alloc (.map #[] 0)) W.heap.size []:=⟨#[],0,World.alloc_heap_new _ _,rfl⟩
theorem l9.same{l:List (Value×Value)}(h:l9 W M l)(e:W'.heap[M]? =W.heap[M]?):l9 W' M l:=by
 obtain⟨es,c,h1,h2⟩:=h;exact⟨es,c,e.T h1,h2⟩
theorem l9.below{l:List (Value×Value)}(h:l9 W M l)(hb:Below W W W'):l9 W' M l:=by
 obtain⟨es,c,h1,h2⟩:=h;exact⟨es,c,(hb.block M (aX h1).1).T h1,h2⟩
section
variable {P : Program} {W : World} {M T K E : Nat} {d : TypeDesc} {l : List (Value × Value)} {key : Value}
theorem Lv(h:l9 W M l)(hT:P.underlying T=some (.map K E))(hK:P.underlying K=some d)(hk:IsKey d key)(fK:∀p∈l,IsKey d p.1){z:Value}(hz:(zeroValue E).run P W= .ok z W)(km:∀p∈l,p.1≠key)(ok:Bool):
 (Instr.lookup T (.map (some M)) key ok).run P W= .ok (if ok then .tuple #[z,.bool false]else z) W:=by
 obtain⟨es,c,hb,hl⟩:=h
 subst hl
 rcases MapKept.findNow_spec hk es.toList 0 (λ x hx=>fK _ (List.mem_map.2 ⟨x,hx,rfl⟩))with⟨h1,h2⟩|⟨j,e,h1,h2,h3⟩
 ·simp[Instr.lookup,run_underlying hT,MapKept.run_getObj_map hb,MapKept.run_checkKey hK hk,MapKept.run_findKey hK h1,hz,Result.andThen]
 ·exact absurd h3 (km _ (List.mem_map.2 ⟨e,List.mem_of_getElem? h2,rfl⟩))
theorem Lw(h:l9 W M l)(hT:P.underlying T=some (.map K E))(hK:P.underlying K=some d)(hk:IsKey d key)(fK:∀p∈l,IsKey d p.1)(zU:∀p∈l,p.1=key->p.2=v)(qN:∃p∈l,p.1=key)(ok:Bool):
 (Instr.lookup T (.map (some M)) key ok).run P W= .ok (if ok then .tuple #[v,.bool true]else v) W:=by
 obtain⟨es,c,hb,hl⟩:=h
 subst hl
 rcases MapKept.findNow_spec hk es.toList 0 (λ x hx=>fK _ (List.mem_map.2 ⟨x,hx,rfl⟩))with⟨h1,h2⟩|⟨j,e,h1,h2,h3⟩
 ·obtain⟨p,hp,hpk⟩:=qN
  obtain⟨x,hx,rfl⟩:=List.mem_map.1 hp
  exact absurd hpk (h2 x hx)
 ·have hv:e.val=v:=zU (e.key,e.val) (List.mem_map.2 ⟨e,List.mem_of_getElem? h2,rfl⟩) h3
  simp[Instr.lookup,run_underlying hT,MapKept.run_getObj_map hb,MapKept.run_checkKey hK hk,MapKept.run_findKey hK h1,Result.andThen,hv]
theorem Sq(h:l9 W M l)(hT:P.underlying T=some (.map K E))(hK:P.underlying K=some d)(hk:IsKey d key)(fK:∀p∈l,IsKey d p.1)(v:Value)(km:∀p∈l,p.1≠key):
 ∃o,(Instr.mapUpdate T (.map (some M)) key v).run P W= .ok () (W.putObj M o)/\l9 (W.putObj M o) M (l++[(key,v)])/\o.isCells=false/\∃es c,W.heap[M]? =some (.map es c):=by
 obtain⟨es,c,hb,hl⟩:=h
 subst hl
 rcases MapKept.findNow_spec hk es.toList 0 (λ x hx=>fK _ (List.mem_map.2 ⟨x,hx,rfl⟩))with⟨h1,h2⟩|⟨j,e,h1,h2,h3⟩
 ·refine⟨.map (es.push ⟨key,v,c⟩) (c+1),?_,⟨_,_,(MapKept.heap_set hb).1,by simp⟩,rfl,_,_,hb⟩
  simp[Instr.mapUpdate,run_underlying hT,MapKept.run_getObj_map hb,MapKept.run_checkKey hK hk,MapKept.run_findKey hK h1,MapKept.run_setObj_map _ hb,Result.andThen,World.putObj]
 ·exact absurd h3 (km _ (List.mem_map.2 ⟨e,List.mem_of_getElem? h2,rfl⟩))
end
end
section
attribute [local go_sem] Oper.semAt_some
attribute [-go_sem] Builtin.append_
structure Oct(W:World)(R q i:Nat):Prop where
 arr:∃M:Array Value,W.heap[R]? =some (.cells M 5)/\M.size=8/\∀j,j<i->M[j]? =some (.int .u8 ((q/2^(56 - 8*j)%256:Nat):Int))
theorem je(q:Nat)(hq:q<18446744073709551616)(w:World):
 Calls Tryz.prog 39 (vS q) w λ e w'=>e= .returned (.slice (zp w) 8 8)/\ai w' (zp w) ((List.range 8).map λ j=>q/2^(56 - 8*j)%256)/\Below w w w':=by
 obtain⟨M,XK,hM2,IV⟩:=Gu 8 8 bd bd
 have Y7:∀W:World,(Instr.makeSlice 34 (.int .i64 8) (.int .i64 8)).run Tryz.prog W= .ok (.slice (zp W) 8 8) (W.alloc (.cells M 5)):= λ W=>IV W
 have Gy:Hid (Oct (w.alloc (.cells M 5)) w.heap.size q 0):=af ⟨M,World.alloc_heap_new _ _,XK, λ j hj=>ag⟩
 have HQ:=af hq
 have Al:Hid (∀(i:Nat) (W:World),i<8->Oct W w.heap.size q i->Below w w W->(∃v,W.cell? ⟨w.heap.size,i,none⟩=some v)/\W.frozen? ⟨w.heap.size,i,none⟩=false/\Hid (Oct (W.setCell ⟨w.heap.size,i,none⟩ (.int .u8 ((q/2^(56 - 8*i)%256:Nat):Int))) w.heap.size q (i+1)/\Below w w (W.setCell ⟨w.heap.size,i,none⟩ (.int .u8 ((q/2^(56 - 8*i)%256:Nat):Int))))):=af λ i W hi hd hb=>by
  obtain⟨M,h1,h2,h3⟩:=hd.arr
  refine⟨⟨M[i]'ag,by rw[aa h1];exact Array.getElem?_eq_getElem ag⟩,ak h1 i,af ⟨⟨M.setIfInBounds i (.int .u8 ((q/2^(56 - 8*i)%256:Nat):Int)),aq _ h1,by rw[Array.size_setIfInBounds];exact h2, λ j hj=>?_⟩,hb.setCell (p:=⟨w.heap.size,i,none⟩) (aW) _⟩⟩
  by_cases gy:j=i
  ·subst gy;rw[Array.getElem?_setIfInBounds_self_of_lt ag]
  ·rw[Array.getElem?_setIfInBounds_ne ag];exact h3 j ag
 clear XK hM2 IV hq
 go_enter Tryz.func39,Tryz.ntmps39
 go_wp2_with fail
 go_loopw [4,8] (λ _ iv wr=>∃i:Nat,i<=8/\iv= .int .i64 (i:Int)/\Hid (Oct wr w.heap.size q i/\Below w w wr)) (λ _ iv _=>8 - (intOf iv).toNat)
 case atStart=>exact⟨0,ag,rfl,af ⟨Gy.O,(Below.refl _ w).alloc (aW) _⟩⟩
 case round=>
  obtain⟨i,hi,rfl,hw⟩:=hrel
  by_cases bg:i<8
  ·obtain⟨⟨v0,hv0⟩,hf0,fR⟩:=Al.O i wr bg hw.O.1 hw.O.2
   obtain⟨x,hx⟩:=aK (q/2^(56 - 8*i)%256)
   rw[<-hx]at fR
   have HX:=af hx
   clear hx
   rcases(show i=0\/i=1\/i=2\/i=3\/i=4\/i=5\/i=6\/i=7 by omega)with rfl|rfl|rfl|rfl|rfl|rfl|rfl|rfl
   ·have e:(q:Int)/72057594037927936%256=(x:Int):=by have h:=HX.O;simp only[Nat.reduceMul,Nat.reduceSub,Nat.reducePow]at h;omega
    go_wp2_with fail
    exact⟨⟨1,ag,rfl,fR⟩,by simp[intOf]⟩
   ·have e:(q:Int)/281474976710656%256=(x:Int):=by have h:=HX.O;simp only[Nat.reduceMul,Nat.reduceSub,Nat.reducePow]at h;omega
    go_wp2_with fail
    exact⟨⟨2,ag,rfl,fR⟩,by simp[intOf]⟩
   ·have e:(q:Int)/1099511627776%256=(x:Int):=by have h:=HX.O;simp only[Nat.reduceMul,Nat.reduceSub,Nat.reducePow]at h;omega
    go_wp2_with fail
    exact⟨⟨3,ag,rfl,fR⟩,by simp[intOf]⟩
   ·have e:(q:Int)/4294967296%256=(x:Int):=by have h:=HX.O;simp only[Nat.reduceMul,Nat.reduceSub,Nat.reducePow]at h;omega
    go_wp2_with fail
    exact⟨⟨4,ag,rfl,fR⟩,by simp[intOf]⟩
   ·have e:(q:Int)/16777216%256=(x:Int):=by have h:=HX.O;simp only[Nat.reduceMul,Nat.reduceSub,Nat.reducePow]at h;omega
    go_wp2_with fail
    exact⟨⟨5,ag,rfl,fR⟩,by simp[intOf]⟩
   ·have e:(q:Int)/65536%256=(x:Int):=by have h:=HX.O;simp only[Nat.reduceMul,Nat.reduceSub,Nat.reducePow]at h;omega
    go_wp2_with fail
    exact⟨⟨6,ag,rfl,fR⟩,by simp[intOf]⟩
   ·have e:(q:Int)/256%256=(x:Int):=by have h:=HX.O;simp only[Nat.reduceMul,Nat.reduceSub,Nat.reducePow]at h;omega
    go_wp2_with fail
    exact⟨⟨7,ag,rfl,fR⟩,by simp[intOf]⟩
   ·have e:(q:Int)%256=(x:Int):=by have h:=HX.O;simp only[Nat.reduceMul,Nat.reduceSub,Nat.reducePow]at h;omega
    go_wp2_with fail
    exact⟨⟨8,ag,rfl,fR⟩,by simp[intOf]⟩
  ·obtain rfl:i=8:=ag
   have eJ:Hid (ai wr (zp w) ((List.range 8).map λ j=>q/2^(56 - 8*j)%256)):=af (by
    obtain⟨M,h1,h2,h3⟩:=hw.O.1.arr
    refine⟨λ x hx=>?_,.inr ⟨_,_,rfl, λ j x hx=>?_⟩⟩
    ·obtain⟨j, -,rfl⟩:=List.mem_map.1 hx;omega
    ·rw[aa h1,Nat.zero_add]
     have hj:j<8:=by have:=(List.getElem?_eq_some_iff.1 hx).1;simpa using this
     rw[List.getElem?_map,List.getElem?_range hj]at hx
     cases hx
     exact h3 j hj)
   go_wp2_with fail
   go_ret
   exact⟨rfl,eJ.O,hw.O.2⟩
theorem Ic(q:Nat)(hq:q<18446744073709551616)(w:World):
 Calls Tryz.prog 39 (vS q) w λ e w'=>∃a,e= .returned (.slice a 8 8)/\ai w' a ((List.range 8).map λ j=>q/2^(56 - 8*j)%256)/\Below w w w':=
 (je q hq w).mono λ _ _ ⟨h1,h2,h3⟩=>⟨_,h1,h2,h3⟩
theorem JB{α:Type}{P:Program}{g:Operand}{p1 p2:Tmp}(d1 d2:Tmp){assign body:Code}{Q:Exit->Act->World->Prop}{a:Act}
 (h1:5<=n){gf:Nat}{lb:Array Value}(hg:a.eval g= .func (.func gf) #[] lb)(eg:∀args w,(callFunc gf args).run P w= .ok (.enter gf args) w)
 {e1 e2:α->Value}{Kp:World->World->Prop}{dw:Nat->Prop}{E:World->Prop}{zw:List α->Prop}{At:α->World->Prop}{Full:List α->Prop}(mf:Dx P gf lb (λ x=>#[e1 x,e2 x]) Kp dw E zw At Full w)(Qf:∀x A B,At x A->dz w.heap.size dw A B->At x B)
 (rY:∀{A B C:World},Kp A B->Kp B C->Kp A C)(xe:∀(W:World) (l:Nat) (o o':Obj),w.heap.size<=l->W.heap[l]? =some o->o.isCells=false->Kp W (W.putObj l o'))
 (mI:∀k,dw k->k<w.heap.size)
 (I:List α->World->Prop)(Ix:Code->List α->World->Prop)(hI:∀s A B,I s A->dz w.heap.size dw A B->I s B)(hIx:∀c s A B,Ix c s A->dz w.heap.size dw A B->Ix c s B)(hE:∀(W:World) (l:Nat) (o o':Obj),w.heap.size<=l->W.heap[l]? =some o->o.isCells=false->E W->E (W.putObj l o'))(h0:I [] w)(Ex:α->World->World)(Oe:∀x W,Below W.heap.size W (Ex x W))(Z2:∀x W,w.heap.size<=W.heap.size->Kp W (Ex x W))
 (fb:∀(l:Nat) (x:α) (W:World) (K:Act->World->Prop),K ({tmps:=(((a.tmps.setIfInBounds p1 (e1 x)).setIfInBounds p2 (e2 x)).setIfInBounds d1 (.pointer (zp W.heap.size))).setIfInBounds d2 (e2 x),defers:=[]}:Act) (Ex x W)->
   assign.wpIn (Fence.wide.inRound l) (n - 1 - 1) P (Exit.then K (λ _ _ _=>False)) {tmps:=(a.tmps.setIfInBounds p1 (e1 x)).setIfInBounds p2 (e2 x),defers:=[]} W)
 (kF:∀(l:Nat) (pre:List α) (x:α) (U W:World),w.heap.size<=U.heap.size->(∀(k:Nat) (o:Obj),(Ex x U).heap[k]? =some o->o.isCells=true->W.heap[k]? =some o)->I pre W->zw (pre++[x])->At x W->body.wpIn (Fence.wide.inRound l) (n - 1 - 1) P (xt w.heap.size Kp I Ix (pre++[x]) W) ({tmps:=(((a.tmps.setIfInBounds p1 (e1 x)).setIfInBounds p2 (e2 x)).setIfInBounds d1 (.pointer (zp U.heap.size))).setIfInBounds d2 (e2 x),defers:=[]}:Act) W)
 (kG:∀(D:Nat) (s:List α) (W:World),w.heap.size<=D->Full s->I s W->E W->W.heap[D]? =some (.deferred (some []))->Q .normal {a with defers:={target:=.collected D,args:=#[]}::a.defers} W)
 (kH:∀(D:Nat) (c:Code) (pre:List α) (W:World),w.heap.size<=D->zw pre->Ix c pre W->E W->W.heap[D]? =some (.deferred (some []))->c.wpIn Fence.wide n P Q {a with defers:={target:=.collected D,args:=#[]}::a.defers} W):
 (Code.rangeFunc g #[p1,p2] assign body).wpIn Fence.wide n P Q a w:=
 G1 h1 hg eg mf Qf rY xe (dp) (λ _=>rfl) mI I Ix hI hIx hE h0 (λ x U=>({tmps:=(((a.tmps.setIfInBounds p1 (e1 x)).setIfInBounds p2 (e2 x)).setIfInBounds d1 (.pointer (zp U.heap.size))).setIfInBounds d2 (e2 x),defers:=[]}:Act)) Ex Oe Z2 (λ l x W K hK=>by simpa using fb l x W K hK) kF kG kH
theorem E2{all:List Nat}{d:Nat}:∀(xs ys:List aw) (cq:List (List KV)),ys.map aw.key=xs.map aw.key->ys.map aw.at_=xs.map aw.at_->ys.map aw.count=xs.map aw.count->cq.length=xs.length->
 (∀(j:Nat) (x:aw) (s:List KV),xs[j]? =some x->cq[j]? =some s->∃n:Nd,3<=n.tL/\x.count=n.red/\n.keys[0]? =some x.key/\er all d n x.at_ s)->aT (qO all d) ys cq.flatten
 |[],[],[],_,_,_,_,_=>rfl
 |x::xs,y::ys,s::cq,hk,ha,hc,hl,h=>by
  simp only[List.map_cons,List.cons.injEq]at hk ha hc
  refine⟨s,cq.flatten,?_,E2 xs ys cq hk.2 ha.2 hc.2 (by simpa using hl) λ j x s hx hs=>h (j+1) x s hx hs,rfl⟩
  obtain⟨n,h1,h2,h3,h4⟩:=h 0 x s rfl rfl
  exact⟨n,by show er all d n y.at_ s;rw[ha.1];exact h4,by show y.count=_;rw[hc.1];exact h2,by show _=some y.key;rw[hk.1];exact h3,h1⟩
 |[],_::_,_,hk,_,_,_,_=>by simp at hk
 |_::_,[],_,hk,_,_,_,_=>by simp at hk
 |[],[],_::_,_,_,_,hl,_=>by simp at hl
 |_::_,_::_,[],_,_,_,hl,_=>by simp at hl
theorem yJ{xs:List aw}(h:er all (d+1) (.inner xs) at_ its)(hk:ys.map aw.key=xs.map aw.key)(ha:ys.map aw.at_=xs.map aw.at_)(hc:ys.map aw.count=xs.map aw.count):aT (qO all d) ys its:=by
 obtain⟨_,_,cq,h3,rfl,h5⟩:=h
 exact E2 xs ys cq hk ha hc h3 λ j x s hx hs=>(h5 j x s hx hs).2
theorem CI:∀(xs ys:List an),ys.map an.key=xs.map an.key->ys.map an.val=xs.map an.val->ys.map eC=xs.map eC
 |[],[],_,_=>rfl
 |x::xs,y::ys,hk,hv=>by
  simp only[List.map_cons,List.cons.injEq]at hk hv
  rw[List.map_cons,List.map_cons,CI xs ys hk.2 hv.2]
  unfold eC;rw[hk.1,hv.1]
 |[],_::_,hk,_=>by simp at hk
 |_::_,[],hk,_=>by simp at hk
theorem Lx{ys:List an}(h:er all 0 (.leaf xs) at_ its)(hk:ys.map an.key=xs.map an.key)(hv:ys.map an.val=xs.map an.val):aT zE ys its:=by
 rw[aT.its,CI xs ys hk hv];exact h.2.2
theorem Ly(h:cW all r its)(h0:r.h=0):∃xs,er all 0 (.leaf xs) r.k.at_ its/\3<=xs.length:=by
 obtain⟨n,h1,_,_,h4⟩:=h
 rw[h0]at h1
 cases n with
 |leaf xs=>exact⟨xs,h1,by simpa[Nd.tL,Nd.n1,Nd.n2]using h4⟩
 |inner xs=>exact h1.elim
theorem yK(h:cW all r its)(h0:r.h=d+1):∃xs,er all (d+1) (.inner xs) r.k.at_ its/\3<=xs.length:=by
 obtain⟨n,h1,_,_,h4⟩:=h
 rw[h0]at h1
 cases n with
 |leaf xs=>exact h1.elim
 |inner xs=>exact⟨xs,h1,by simpa[Nd.tL,Nd.n1,Nd.n2]using h4⟩
section
variable {α : Type}
def dZ(rs:List aN):List (Pv α):=rs.map .kept
def iz(all:List Nat)(S:α->List KV->Prop)(lo:Nat)(first:Bool)(its:List KV)(ky:List (Pv α)):Prop:=
 ∃zs rs,3<=zs.length/\ky=(if first then .loose zs::dZ rs else dZ rs++[.loose zs])/\aT (nk all S lo) ky its
theorem iz.leaf{S:α->List KV->Prop}{first:Bool}{zs:List α}(h3:3<=zs.length)(h:aT S zs its):iz all S lo first its [.loose zs]:=
 ⟨zs,[],h3,by cases first<;>rfl,aT.one.2 h⟩
theorem yL{all:List Nat}{S:α->List KV->Prop}{lo d:Nat}(hd:lo<=d):∀{ys:List aw} {its:List KV},aT (qO all d) ys its->aT (nk all S lo) (dZ (ys.map λ y=>⟨y,d⟩)) its
 |[],_,h=>h
 |_::_,_,⟨s,r,h1,h2,h3⟩=>⟨s,r,⟨h1,hd⟩,yL hd h2,h3⟩
theorem iz.first{S:α->List KV->Prop}(hd:lo<=d){r:List KV}{ky:List (Pv α)}(h:iz all S lo true s ky)(hy:aT (qO all d) ys r):iz all S lo true (s++r) (ky++dZ (ys.map λ y=>⟨y,d⟩)):=by
 obtain⟨zs,rs,h3,he,hs⟩:=h
 refine⟨zs,rs++ys.map λ y=>⟨y,d⟩,h3,?_,aT.app.2 ⟨s,r,hs,yL hd hy,rfl⟩⟩
 rw[he];simp[dZ]
theorem iz.last{S:α->List KV->Prop}(hd:lo<=d){r:List KV}{ky:List (Pv α)}(h:iz all S lo false s ky)(hy:aT (qO all d) ys r):iz all S lo false (r++s) (dZ (ys.map λ y=>⟨y,d⟩)++ky):=by
 obtain⟨zs,rs,h3,he,hs⟩:=h
 refine⟨zs,(ys.map λ y=>⟨y,d⟩)++rs,h3,?_,aT.app.2 ⟨r,s,yL hd hy,hs,rfl⟩⟩
 rw[he];simp[dZ]
theorem bj.JC{β:Type}{f:β->List Value}{sz:Nat}{xs:List β}(h:bj f sz W a xs)(j:Nat):(xs.drop j=[]\/∃B o,a=some ⟨B,o,none⟩/\bj f sz W (some ⟨B,o+j*sz,none⟩) (xs.drop j)):=by
 rcases h with h|⟨B,o,e,h⟩
 ·exact .inl (by rw[h];simp)
 ·exact .inr ⟨B,o,e,bj.drop (.inr ⟨B,o,rfl,by cases e;exact h⟩) j⟩
theorem bU.take{K:sI α}{W:World}{a:Option Addr}{c:Nat}{ps:List (Pc α)}(h:bU K W a c ps)(i:Nat):bU K W a c (ps.take i):=by
 refine⟨?_, λ p hp=>h.each p (List.mem_of_mem_take hp),by rw[List.length_take];have:=h.cap;omega,h.nil,h.plain⟩
 rcases h.row with h|⟨B,o,e,h⟩
 ·exact .inl (by rw[h];simp)
 ·refine .inr ⟨B,o,e, λ j x hx=>h j x ?_⟩
  rw[List.getElem?_take]at hx
  split at hx
  ·exact hx
  ·cases hx
theorem bU.JC{K:sI α}{W:World}{B o c:Nat}{ps:List (Pc α)}(h:bU K W (some ⟨B,o,none⟩) c ps)(i:Nat)(hi:i<=ps.length):bU K W (if c=i then some ⟨B,o,none⟩else some ⟨B,o+i*11,none⟩) (c - i) (ps.drop i):=by
 have ja:=h.cap
 refine⟨?_, λ p hp=>h.each p (List.mem_of_mem_drop hp),by rw[List.length_drop];omega, λ e=>(by split at e<;>cases e),?_⟩
 ·by_cases hc:c=i
  ·exact .inl (List.drop_eq_nil_iff.2 ag)
  ·rw[if_neg hc]
   rcases h.row.JC i with h|⟨B2,o2,e,h⟩
   ·exact .inl h
   ·cases e;exact h
 ·split
  ·exact .inr ⟨_,_,rfl⟩
  ·exact .inr ⟨_,_,rfl⟩
end
theorem bp{o:Nat}(xs bs cs:List Value)(h:W.rangeAt B o (xs++(bs++cs))):W.rangeAt B (o+xs.length) bs:= λ j v hj=>by
 have h1:=(List.getElem?_eq_some_iff.1 hj).1
 have:=h (xs.length+j) v (by rw[List.getElem?_append_right (Nat.le_add_right _ _),Nat.add_sub_cancel_left,List.getElem?_append_left h1];exact hj)
 rw[Nat.add_assoc];exact this
theorem JD{α:Type}{ps:List (Pc α)}{A B:List (Pv α)}(h:ps.map Pc.val=A++.kept r::B):ps[A.length]? =some (.kept r)/\(ps.take A.length).map Pc.val=A/\(ps.drop (A.length+1)).map Pc.val=B/\A.length<ps.length:=by
 have hl:=congrArg List.length h
 simp only[List.length_map,List.length_append,List.length_cons]at hl
 have h1:(ps.map Pc.val)[A.length]? =some (.kept r):=by rw[h,List.getElem?_append_right (aW)];simp
 rw[List.getElem?_map]at h1
 refine⟨?_,?_,?_,ag⟩
 ·cases hp:ps[A.length]? with
  |none=>rw[hp]at h1;cases h1
  |some p=>
   rw[hp]at h1
   cases p with
   |kept q=>simp only[Option.map_some,Pc.val,Option.some.injEq,Pv.kept.injEq]at h1;rw[h1]
   |loose a c ys=>simp[Pc.val]at h1
 ·rw[List.map_take,h];simp
 ·rw[List.map_drop,h,show A.length+1=(A++[Pv.kept r]).length by simp,show A++Pv.kept r::B=(A++[Pv.kept r])++B by simp,List.drop_left]
theorem Ao(B0:Nat)(w:World):Calls Tryz.prog 37 (dW (zp B0)) w λ e w'=>
 e= .returned (.func (.func 53) #[] (dW (zp w)))/\w'=w.alloc (.cells (dW (zp B0)) 95):=by
 go_enter Tryz.func37,Tryz.ntmps37
 go_wp2_with fail
 go_ret
 exact⟨rfl,rfl⟩
abbrev Ie(a1 d1 c1 a2 d2 c2 q:Nat):Array Value:=(cw a1 d1 c1 a2 d2 c2 q)
def cU(a1 d1 c1 a2 d2 c2 q:Nat):Value:=.agg (Ie a1 d1 c1 a2 d2 c2 q)
def Yb(x:aG):Value×Value:=(.int .u64 (x.s:Int),.string (aU x.id))
structure qQ(w:World)(n M:Nat)(b:Option Addr)(k cf a1 d1 c1 a2 d2 c2 q:Nat)(pre:List aG)(W:World):Prop where
 fil:W.heap[n]? =some (.cells (cK b k cf) 37)
 oI:W.heap[n+1]? =some (.cells (Ie a1 d1 c1 a2 d2 c2 q) 43)
 res:W.heap[n+1+1]? =some (.cells mc 24)
 mpb:W.heap[M+1]? =some (.cells #[.map (some M)] 99)
 mp:l9 W M (pre.map Yb)
 wj:W.heap[M+1+1]? =some (.cells (Au pre.length) 3)
 oJ:Below n w W
theorem qQ.Oc{V:World}(h:qQ w n M b k cf a1 d1 c1 a2 d2 c2 q pre W)(hk:dz D (λ _=>False) W V)(hM:M<D)(hn:n<=D)(Cj:n<=w.heap.size):qQ w n M b k cf a1 d1 c1 a2 d2 c2 q pre V:=by
 refine⟨hk.bT _ _ h.fil (.inr rfl) id,hk.bT _ _ h.oI (.inr rfl) id,hk.bT _ _ h.res (.inr rfl) id,hk.bT _ _ h.mpb (.inr rfl) id,?_,hk.bT _ _ h.wj (.inr rfl) id,gJ h.oJ hk hn (λ k h1 h2=>h2) Cj⟩
 obtain⟨es,c,h1,h2⟩:=h.mp
 exact⟨es,c,hk.bT _ _ h1 (.inl hM) id,h2⟩
theorem qQ.below{w:World}{n M k cf a1 d1 c1 a2 d2 c2 q:Nat}{b:Option Addr}{pre:List aG}{W V:World}(h:qQ w n M b k cf a1 d1 c1 a2 d2 c2 q pre W)(hb:Below W W V)(hn:n<=W.heap.size):qQ w n M b k cf a1 d1 c1 a2 d2 c2 q pre V:=by
 have key:∀(j:Nat) (o:Obj),W.heap[j]? =some o->V.heap[j]? =some o:= λ j o e=>(hb.block j (aX e).1).T e
 exact⟨key _ _ h.fil,key _ _ h.oI,key _ _ h.res,key _ _ h.mpb,h.mp.below hb,key _ _ h.wj,h.oJ.T (hb.mono hn)⟩
theorem OM{x:aG}{o:Obj}(h:qQ w n M b k cf a1 d1 c1 a2 d2 c2 q pre W)(_:o.isCells=false)(hm:l9 (W.putObj M o) M (pre.map Yb++[Yb x]))(hM:n+1+1<M)(hD:M+1+1<D):
 KeepsFrom D W ((W.putObj M o).setCell (za (M+1+1) 0) (.int .i64 ((pre.length:Int)+1)))/\kh n (M+1+1) W ((W.putObj M o).setCell (za (M+1+1) 0) (.int .i64 ((pre.length:Int)+1)))/\qQ w n M b k cf a1 d1 c1 a2 d2 c2 q (pre++[x]) ((W.putObj M o).setCell (za (M+1+1) 0) (.int .i64 ((pre.length:Int)+1))):=by
 obtain⟨es,c,h1,h2⟩:=h.mp
 have bg:M<W.heap.size:=(aX h1).1
 have key:∀j,j≠M->j≠M+1+1->((W.putObj M o).setCell (za (M+1+1) 0) (.int .i64 ((pre.length:Int)+1))).heap[j]? =W.heap[j]? := λ j j1 j2=>(Below.heap_setCell _ _ _ _ j2).T (World.putObj_heap_other j1)
 have hB:((W.putObj M o).setCell (za (M+1+1) 0) (.int .i64 ((pre.length:Int)+1))).heap[M+1+1]? =some (.cells (qV ((pre.length:Int)+1)) 3):=aq (j:=0) _ ((World.putObj_heap_other ag).T h.wj)
 have hnM:∀(j:Nat) (cs:Array Value) (t:TypeId) (fz:Nat×Nat),W.heap[j]? =some (.cells cs t fz)->j≠M:= λ j cs t fz e1 e2=>by subst e2;rw[h1]at e1;cases e1
 have zY:∀(n':Nat) (U:World),n'<=M->Below n' U W->Below n' U ((W.putObj M o).setCell (za (M+1+1) 0) (.int .i64 ((pre.length:Int)+1))):= λ n' U hn hb=>((hb.grown (grownBy_putObj' W M o) ag (λ k e=>by cases e;exact hn)).setCell (p:=(za (M+1+1) 0)) (show n'<=M+1+1 by omega) _)
 refine⟨⟨by simp[World.setCell], λ j u hj hu hc=>(key j ag ag).T hu⟩,⟨zY _ _ ag (dp), λ j cs t fz hj hk=>(key j (hnM _ _ _ _ hj) hk).T hj, λ m hm=>⟨_,hB⟩⟩,
  ⟨(key _ ag ag).T h.fil,(key _ ag ag).T h.oI,(key _ ag ag).T h.res,(key _ ag ag).T h.mpb,?_,?_,zY _ _ ag h.oJ⟩⟩
 ·rw[List.map_append];exact hm.same (Below.heap_setCell _ _ _ _ (show M≠M+1+1 by omega))
 ·rw[hB];simp
theorem ON{l:List aG}:∀p∈l.map Yb,MapKept.IsKey (.int .u64) p.1:= λ p hp=>by obtain⟨z,_,rfl⟩:=List.mem_map.1 hp;trivial
theorem Ww(s:Nat)(h:s<18446744073709551616):numOf (e8 s)=s:=by rw[Hy];exact xG 8 s ag
theorem rL(hF:au w b cf ps)(hm:Marks (al ps))(hC:cB (al ps) a1 d1 c1 a2 d2 c2 q es)(hq:q<=1099511627776):
 Calls Tryz.prog 28 #[aE b ps.length cf,cU a1 d1 c1 a2 d2 c2 q] w λ e w'=>e= .returned (.int .i64 0)/\Below w w w':=by
 obtain⟨n,hn⟩:=aK w.heap.size
 obtain⟨ds,Gc,Yc⟩:=hC.aaH
 have vT:ds.length=es.length:=Gc.length_eq
 have Wy:∀x∈ds,vK (al ps) q x:= λ x hx=>hC.ok x (Gc.mem_iff.1 hx)
 have ma:=hC.many
 obtain⟨w1,aH⟩:=aK (((w.alloc (.cells (cK b ps.length cf) 37)).alloc (.cells (Ie a1 d1 c1 a2 d2 c2 q) 43)).alloc (.cells mc 24))
 have aQ:Below n w w1:=by rw[aH,hn];go_grown
 have bB:=eH (w2:=w1) (by rw[aH];exact dp)
 rw[<-hn]at bB
 have dm:w1.heap.size=n+1+1+1:=by rw[aH,hn];simp
 have fx:w1.rangeAt n 0 (cK b ps.length cf):=aj bB.1
 have Hi:=af (gg (hF.below (hn▸aQ)))
 have HT:Hid (∀V:World,Below n w V->Calls Tryz.prog 36 #[aE b ps.length cf,cM a1 d1 c1] V λ e w'=>e= .returned (.int .i64 0)/\Below V V w'):=af λ V hV=>rH (hF.below (hn▸hV)) hm Yc
 have HS:Hid (∀V:World,Below n w V->Calls Tryz.prog 36 #[aE b ps.length cf,cM a2 d2 c2] V λ e w'=>e= .returned (.int .i64 0)/\Below V V w'):=af λ V hV=>rH (hF.below (hn▸hV)) hm hC.Lo
 have Cv:=af (λ (B B0 Bp:Nat) (V:World) (n0:Int) (hV:Below w w V) (hS:eE V B0 b ps.length cf a1 d1 c1 a2 d2 c2 q) (hp:V.heap[Bp]? =some (.cells (dW (zp B0)) 95)) (h0:B0≠B) (h1:Bp≠B) (hB:V.heap[B]? =some (.cells (qV n0) 3))=>OK hF hm Yc Wy (by rw[vT];omega) B B0 Bp V hV hS hp h0 h1 hB)
 have pH:=af (λ (V:World) (hV:Below n w V)=>nN (l:=we) (hF.below (hn▸hV)) hm hC.Lo ⟨ai.nil V _,ai.nil V _⟩ (-1) (.inl rfl) (by rw[List.length_map];omega))
 rw[E0]at pH
 have T0:=jo Gc vT Wy ma
 have HRI:=cj hC.oW hC.ok
 have I3:decide ((1099511627776:Int)<(q:Int))=false:=bV
 have j7:¬ ((1099511627776:Int)<(q:Int)):=ag
 have H1:=cV aQ dm bB
 have CJ:= @run_makeMap Tryz.prog
 unfold aE cM at HT HS
 unfold aE at Hi
 unfold aE cU
 rw[hn]at fx
 rw[aH]at Hi fx
 have HN:=af hn
 have kg:=af aH
 clear hF hm hC Gc Yc vT Wy ma aQ bB dm hq
 refine(callsIn_wide (n:=5)).1 ?_
 refine callsIn_of_wp_marks Tryz.func28 rfl trivial ?_ rfl
 simp only[Tryz.ntmps28,zEn,Nat.reduceAdd,Nat.reduceSub]
 refine wpIn_wide.2 ?_
 clear hn aH
 go_wp2_with first
  |(refine bh 37 ?_)
  |(refine bh 43 ?_)
  |((with_reducible refine Hi.O.mono ?_);rintro e w2 ⟨rfl,aC⟩
    rw[<-kg.O]at aC
    obtain⟨w3,cL⟩:=aK (w2.alloc (.cells (Sc b ps.length cf a1 d1 c1 a2 d2 c2 q) 97))
    have aL:Below w1 w1 w3:=by rw[cL];exact aC.alloc aC.size _
    have iU:w3.heap.size=w2.heap.size+1:=by rw[cL];simp
    have iZ:eE w3 w2.heap.size b ps.length cf a1 d1 c1 a2 d2 c2 q:=jJ cL
    have Jf:=(aC.block _ (by rw[H1.O.2.1];omega)).T H1.O.2.2.1
    have Da:=(aC.block _ (by rw[H1.O.2.1];omega)).T H1.O.2.2.2.1
    have Mo:=(aL.block _ (by rw[H1.O.2.1];omega)).T H1.O.2.2.1
    have uK:=(aL.block _ (by rw[H1.O.2.1];omega)).T H1.O.2.2.2.1
    have kO:=(aL.block _ (by rw[H1.O.2.1];omega)).T H1.O.2.2.2.2
    have gR:=aj Jf
    have uJ:=aj Da
    have HT3:=af (HT.O w3 (H1.O.1.T (aL.mono (show n<=w1.heap.size by have:=H1.O.2.1;omega))))
    obtain⟨f0,f1,f2,f3,f4⟩:=df Mo
    have k0:=(aa uK 0).T rfl
    have k1:=(aa uK 1).T rfl
    have k2:=(aa uK 2).T rfl
    have k3:=(aa uK 3).T rfl
    have k4:=(aa uK 4).T rfl
    have k5:=(aa uK 5).T rfl
    have k6:=(aa uK 6).T rfl
    have k7:=(aa uK 7).T rfl
    have k8:=(aa uK 8).T rfl
    have k9:=(aa uK 9).T rfl
    have Kn:=(aa uK 10).T rfl
    have T1:=(aa uK 11).T rfl
    have T2:=(aa uK 12).T rfl
    have T3:=(aa uK 13).T rfl
    have T4:=(aa uK 14).T rfl
    have T5:=(aa uK 15).T rfl
    have T6:=(aa uK 16).T rfl
    simp only[aD]at k0 k1 k2 k3 k4 k5 k6 k7 k8 k9 Kn T1 T2 T3 T4 T5 T6
    have H3:=J6 aL iU iZ Mo uK kO (H1.O.1.T (aL.mono (show n<=w1.heap.size by have:=H1.O.2.1;omega)))
    have H2S:=af (show n+1+1+1<=w2.heap.size by have:=aC.size;have:=H1.O.2.1;omega)
    rw[HN.O]at gR uJ f0 f1 f2 f3 f4 k0 k1 k2 k3 k4 k5 k6 k7 k8 k9 Kn T1 T2 T3 T4 T5 T6
    rw[cL]at HT3 f0 f1 f2 f3 f4 k0 k1 k2 k3 k4 k5 k6 k7 k8 k9 Kn T1 T2 T3 T4 T5 T6
    have mL:=af cL
    clear aC cL aL iU iZ Jf Da Mo uK kO)
  |((with_reducible refine HT3.O.mono ?_);rintro e w4 ⟨rfl,bH⟩
    rw[<-mL.O]at bH
    have Yd:=af (HS.O w4 (H3.O.2.2.2.2.2.2.T (bH.mono (cG H3.O.2.2.2.2.2.2.size HN.O))))
    clear f0 f1 f2 f3 f4 k0 k1 k2 k3 k4 k5 k6 k7 k8 k9 Kn T1 T2 T3 T4 T5 T6
    have GC:=(bH.block _ (aX H3.O.2.2.2.1).1).T H3.O.2.2.2.1
    have qZ:=(bH.block _ (aX H3.O.2.2.2.2.1).1).T H3.O.2.2.2.2.1
    obtain⟨f0,f1,f2,f3,f4⟩:=df GC
    have k8:=(aa qZ 8).T rfl
    have k9:=(aa qZ 9).T rfl
    have Kn:=(aa qZ 10).T rfl
    have T1:=(aa qZ 11).T rfl
    have T2:=(aa qZ 12).T rfl
    have T3:=(aa qZ 13).T rfl
    have T4:=(aa qZ 14).T rfl
    have T5:=(aa qZ 15).T rfl
    simp only[aD]at k8 k9 Kn T1 T2 T3 T4 T5
    rw[HN.O]at f0 f1 f2 f3 f4 k8 k9 Kn T1 T2 T3 T4 T5
    have H4:=af bH
    clear bH GC qZ)
  |((with_reducible refine Yd.O.mono ?_);rintro e w5 ⟨rfl,bJ⟩
    have H5:=af (H4.O.T (bJ.mono H4.O.size))
    clear f0 f1 f2 f3 f4 k8 k9 Kn T1 T2 T3 T4 T5 bJ)
  |((with_reducible refine(Ao _ _).mono ?_);rintro e w6 ⟨rfl,zX⟩)
  |fail
 rw[<-zX]
 have h6:Below w5 w5 w6:=by rw[zX];go_grown
 have h0:Below n w w5:=H3.O.2.2.2.2.2.2.T (H5.O.mono (cG H3.O.2.2.2.2.2.2.size HN.O))
 have Cj:n<=w5.heap.size:=cG h0.size HN.O
 have Sl:n+1+1+1<=w2.heap.size/\w2.heap.size<w5.heap.size:=⟨H2S.O,by have:=H5.O.size;have:=H3.O.2.1;omega⟩
 have key:∀(j:Nat) (o:Obj),w3.heap[j]? =some o->w6.heap[j]? =some o:= λ j o e=>by
  have e1:=(H5.O.block j (aX e).1).T e
  exact(h6.block j (aX e1).1).T e1
 have kD:w6.heap[w5.heap.size]? =some (.map #[] 0)/\w6.heap[w5.heap.size+1]? =some (.cells #[.map (some w5.heap.size)] 99)/\w6.heap[w5.heap.size+1+1]? =some (.cells mc 3)/\w6.heap[w5.heap.size+1+1+1]? =some (.cells (dW (zp w2)) 95):=by
  obtain⟨v,hv⟩:=aK (w5.alloc (.map #[] 0))
  rw[<-hv]at zX
  have hvs:v.heap.size=w5.heap.size+1:=by rw[hv];simp
  have hb:=eH (w2:=w6) (w:=v) (by rw[zX];exact dp)
  rw[hvs]at hb
  have fD:Below v v w6:=by rw[zX];go_grown
  exact⟨(fD.block _ ag).T (jJ hv),hb⟩
 have kC:w6.heap.size=w5.heap.size+1+1+1+1:=by rw[zX];simp
 have E3:qQ w n w5.heap.size b ps.length cf a1 d1 c1 a2 d2 c2 q [] w6:=
  ⟨key _ _ H3.O.2.2.2.1,key _ _ H3.O.2.2.2.2.1,key _ _ H3.O.2.2.2.2.2.1,kD.2.1,⟨#[],0,kD.1,rfl⟩,kD.2.2.1,h0.T (h6.mono Cj)⟩
 have aaK:=af (Cv.O (w5.heap.size+1+1) w2.heap.size (w5.heap.size+1+1+1) w6 0 (HN.O▸E3.oJ) (key _ _ H3.O.2.2.1) kD.2.2.2 ag ag kD.2.2.1).g
 rw[<-HN.O]at aaK
 have yM:=af E3
 have HG:=cV Sl kC Cj
 have T7:ds.Pairwise λ x y=>x.s≠y.s:=by
  refine(T0.O.1.pairwise_iff (λ {x y} h=> λ e=>h e.symm)).2 ?_
  exact HRI.O.1.imp λ {x y} h e=>ag
 have HDI:=af T7
 clear Cv zX h6 h0 key kD E3 T7 HT HS Hi CJ
 clear fx gR uJ HT3 Yd
 refine(wpIn_wide (n:=5)).1 ?_
 refine JB (n:=5) 9 10 ag rfl (enters_of Tryz.func53 aO rfl) aaK.O (λ _ _ _ _ _=>trivial) kh.T (λ W l o o' hl h ho=>kh.putObj W l o o' h ho ag) (λ _ h=>h.elim)
  (λ pre W=>qQ w n w5.heap.size b ps.length cf a1 d1 c1 a2 d2 c2 q pre W) (λ _ _ _=>False) ?hI (λ _ _ _ _ h _=>h.elim) (λ _ _ _ _ _ _ _ _=>trivial) yM.O (λ x U=>U.alloc (.cells (vR (aU x.id) x.g x.m x.s x.del x.at_ (kindOf x.del) (gG x.del x.n)) 106)) (λ x U=>(Below.refl _ U).alloc (aW) _) (λ x U h=>kh.aA ((Below.refl _ U).alloc (aW) _) ag) ?assign ?body ?done (λ _ _ _ _ _ _ h=>h.elim)
 case hI=>
  intro pre U V h hk
  exact h.Oc hk ag ag (by rw[HN.O];exact aW)
 case assign=>
  intro l x W K hK
  unfold Lr Ln at hK⊢
  gi_wp2_with first
   |(refine iy 106 rfl _ _ rfl _ _ _ rfl aR rfl (by rfl) aO (by simp[Value.oneCell']) ?_)
   |fail
  simpa using hK
 case body=>
  rintro l pre x U W hU dF E3 R5 -
  have Lz:x∈ds:=R5.subset aR
  have gW:=T0.O.2.2.1 x Lz
  have hD:=dF U.heap.size _ (World.alloc_heap_new U _) rfl
  have wH:pre.length<=32:=by
   have:=R5.length_le
   have:=T0.O.2.1
   have:=T0.O.2.2.2
   simp at*;omega
  have gj:∀z∈pre,z.s≠x.s:=by
   obtain⟨r,hr⟩:=R5
   have:=HDI.O
   rw[<-hr,List.append_assoc,List.pairwise_append]at this
   exact λ z hz=>this.2.2 z hz x aR
  have km:∀p∈pre.map Yb,p.1≠.int .u64 (x.s:Int):= λ p hp e=>by
   obtain⟨z,hz,rfl⟩:=List.mem_map.1 hp
   have:(Value.int .u64 (z.s:Int))= .int .u64 (x.s:Int):=e
   injection this with _ h2
   exact gj z hz ag
  have Ye:=Lv (P:=Tryz.prog) (T:=99) (K:=22) (E:=9) (key:=.int .u64 (x.s:Int)) E3.mp aO (d:=.int .u64) aO rfl ON (z:=.string ⟨#[]⟩) aO km true
  obtain⟨o,hmu,zF,Tx, -⟩:=Sq (P:=Tryz.prog) (T:=99) (K:=22) (E:=9) (key:=.int .u64 (x.s:Int)) E3.mp aO (d:=.int .u64) aO rfl ON (.string (aU x.id)) km
  have iZ:=OM (D:=w5.heap.size+1+1+1+1) (x:=x) E3 Tx zF ag ag
  have d0:=(aa hD 0).T rfl
  have d3:=(aa hD 3).T rfl
  have q0:=(aa E3.oI 16).T rfl
  simp only[aD]at d0 d3 q0
  have m0:=aJ E3.mpb
  have QI:(W.putObj w5.heap.size o).heap[w5.heap.size+1+1]? =some (.cells (Au pre.length) 3):=(World.putObj_heap_other ag).T E3.wj
  obtain⟨wp,hwp⟩:=aK (W.putObj w5.heap.size o)
  rw[<-hwp]at iZ hmu QI
  have n0:=aJ QI
  have nf:=ak QI 0
  have Wz:decide ((q:Int)<(x.s:Int))=false:=by have:=gW.le;simp;omega
  have adD:¬ ((q:Int)<(x.s:Int)):=aM gW.le
  have Wi:(pre.length:Int)<=32:=ag
  have oG:=af iZ
  rw[HN.O]at q0
  simp only[if_true]at Ye
  clear iZ QI hwp zF Tx km gj wH hD gW Lz R5 E3 dF
  gi_wp2_with fail
  exact oG.O
 case done=>
  rintro D s W hD rfl E3 - hK
  have hTR:=pH.O W E3.oJ
  have qq:=aj E3.fil
  have hco:W.rangeAt (n+1) 8 (ju a2 d2 c2):=bp (o:=0) (ju a1 d1 c1) (ju a2 d2 c2) [.int .u64 (q:Int)] (aj E3.oI)
  have WA:s.length=es.length:=T0.O.2.1
  have hem:=T0.O.2.2.2
  obtain⟨L,hL⟩:=aK es.length
  rw[<-hL]at WA hem
  have WB:=af hTR
  have Sr:=af E3
  have HKW:=af hK
  have Gv:=af hL
  have HSL:=cj WA hem
  have zv:decide ((32:Int)<(L:Int))=false:=bV
  have sj:¬ ((32:Int)<(L:Int)):=ag
  have oD:(L:Int)<=32:=ag
  rw[HN.O]at qq hco
  unfold aE cM jH.v we at WB
  simp only[List.length_nil]at WB
  have Db:=af hD
  clear hTR E3 hK hL WA hem hD
  go_wp2_with first
   |(refine bh 37 ?_)
   |(refine bh 41 ?_)
   |((with_reducible refine WB.O.mono ?_);rintro e w8 ⟨ys,a,k,rfl,xF,ax,qt⟩
     have r6:ys.length=L:=by have:=congrArg List.length xF;rw[List.length_map,List.length_map]at this;rw[this];exact Gv.O.symm
     rw[r6]
     have Mh:=(qt.block _ (aX Sr.O.wj).1).T Sr.O.wj
     rw[HSL.O.1]at Mh
     have n8:=aJ Mh
     have H8:=jo qt xF r6 ax
     clear qt xF ax r6 Mh qq hco)
   |fail
  have HC8:=af (Sr.O.below H8.O.1 (cG Sr.O.oJ.size HN.O))
  have HK8:Hid (w8.heap[D]? =some (.deferred (some []))):=af ((H8.O.1.block _ (aX HKW.O).1).T HKW.O)
  clear n8 zv sj
  go_loopw [104] (λ iv wr=>∃(i:Nat),iv= .int .i64 (i:Int)/\i<=L/\Hid (Below w8 w8 wr)) (λ iv _=>L - (intOf iv).toNat)
  case atStart=>exact⟨0,rfl,Nat.zero_le _,af (dp)⟩
  case round=>
   obtain⟨i,rfl,hiL,LA⟩:=hrel
   by_cases vf:i<L
   ·obtain⟨y,hy⟩:∃y,ys[i]? =some y:=⟨_,List.getElem?_eq_getElem (aM H8.O.2.2.1)⟩
    obtain⟨x,hx⟩:∃x,es[i]? =some x:=⟨_,List.getElem?_eq_getElem (aM Gv.O)⟩
    have CG:eC y=iP x:=by
     have h1:=congrArg (λ l=>l[i]?) H8.O.2.1
     simp only[List.getElem?_map,hy,hx,Option.map_some,Option.some.injEq]at h1
     exact h1
    have e1:y.key=e8 x.s:=congrArg Prod.fst CG
    have e2:y.val=x.id:=congrArg Prod.snd CG
    have qw:y∈ys:=List.mem_of_getElem? hy
    have Cq:x∈es:=List.mem_of_getElem? hx
    have gW:=HRI.O.2 x Cq
    have rX:=H8.O.2.2.2.2 y qw
    have Tv:ai wr y.ka (e8 x.s):=by rw[<-e1];exact rX.1.1.below LA.O|> λ h=>h
    have hv8:ai wr y.va x.id:=by rw[<-e2];exact rX.1.2.below LA.O|> λ h=>h
    have YV:y.key.length=8:=by rw[e1,dC]
    obtain⟨C,o,Lt⟩:∃C o,y.ka=some ⟨C,o,none⟩:=by
     rcases Tv.2 with h0|⟨C,o,h0,_⟩
     ·have:=dC x.s;rw[h0]at this;cases this
     ·exact⟨C,o,h0⟩
    obtain⟨R,oo,rfl,kL⟩:∃R oo,a=some ⟨R,oo,none⟩/\(w8.cell? ⟨R,oo+i*4,none⟩=some (.slice y.ka y.key.length y.kc)/\w8.cell? ⟨R,oo+i*4+1,none⟩=some (.slice y.va y.val.length y.vc)/\w8.cell? ⟨R,oo+i*4+2,none⟩=some (.bool false)/\w8.cell? ⟨R,oo+i*4+3,none⟩=some (.int .i64 0)):=by
     rcases H8.O.2.2.2.at.1 with h0|⟨R,oo,e,hc⟩
     ·rw[h0]at qw;cases qw
     ·exact⟨R,oo,e,hc i y hy⟩
    rw[YV,e2,Lt]at kL
    rw[Lt]at Tv
    obtain⟨kc,zt⟩:=aK y.kc
    obtain⟨vc,uI⟩:=aK y.vc
    obtain⟨va,Ls⟩:=aK y.va
    rw[<-zt,<-uI,<-Ls]at kL
    rw[<-Ls]at hv8
    have Lu:wr.rangeAt R (oo+i*4) (dv (some ⟨C,o,none⟩) 8 kc va x.id.length vc):= λ j v hv=>by
     rcases j with _|_|_|_|j
     ·cases hv;exact carry LA.O kL.1
     ·cases hv;exact carry LA.O kL.2.1
     ·cases hv;exact carry LA.O kL.2.2.1
     ·cases hv;exact carry LA.O kL.2.2.2
     ·simp at hv
    obtain⟨wx,oH⟩:=aK (wr.alloc (.cells (dv (some ⟨C,o,none⟩) 8 kc va x.id.length vc) 114))
    have ey:Below wr wr wx:=by rw[oH];go_grown
    have qz:wx.heap[wr.heap.size]? =some (.cells (dv (some ⟨C,o,none⟩) 8 kc va x.id.length vc) 114):=jJ oH
    have Gd:=jo ey qz (Tv.below ey) (hv8.below ey)
    have Qg:=cV hx Cq gW
    have aaJ:(i:Int)<(L:Int):=ag
    obtain⟨z0,z1,z2,z3⟩:=uw qz
    have Ga:=af oH
    rw[oH]at z0 z1 z2 z3
    clear hy hx CG e1 e2 qw Cq gW rX Tv hv8 YV Lt kL zt uI Ls oH ey qz
    go_wp2_with first
     |(refine bh 114 ?_)
     |(refine et 114 ?_)
     |fail
    go_loopw [17,111] (λ nv kv wq=>∃(k nn:Nat),nv= .int .u64 (nn:Int)/\kv= .int .i64 (k:Int)/\k<=8/\wq=wr.alloc (.cells (dv (some ⟨C,o,none⟩) 8 kc va x.id.length vc) 114)/\Hid (nn=numOf ((e8 x.s).take k))) (λ _ kv _=>8 - (intOf kv).toNat)
    case atStart=>exact⟨0,0,rfl,rfl,ag,rfl,af rfl⟩
    case round=>
     obtain⟨k2,nn,rfl,rfl,Tv,rfl,RW⟩:=hrel
     by_cases hk:k2<8
     ·obtain⟨v,hv⟩:∃v,(e8 x.s)[k2]? =some v:=⟨_,List.getElem?_eq_getElem (by rw[dC];exact hk)⟩
      have Ml:(wr.alloc (.cells (dv (some ⟨C,o,none⟩) 8 kc va x.id.length vc) 114)).cell? (za C (o+k2))=some (.int .u8 (v:Int)):=by
       rw[<-Ga.O]
       rcases Gd.O.2.2.1.2 with h0|⟨C',o',e,hc⟩
       ·have:=dC x.s;rw[h0]at this;cases this
       ·cases e;exact hc k2 v hv
      have MW:(k2:Int)<8:=ag
      have HV:=af hv
      clear hv
      go_wp2_with fail
      have hv8:=pG x.s v (List.mem_of_getElem? HV.O)
      have Vu:nn<72057594037927936:=by rw[RW.O];exact Ea 7 _ (λ y hy=>pG _ y (List.mem_of_mem_take hy)) bV
      exact⟨⟨k2+1,nn*256+v,by rw[or8 _ _ Vu hv8],by simp,ag,trivial,af (by rw[List.take_add_one,HV.O,Option.toList_some,xE,<-RW.O])⟩,by simp[intOf];omega⟩
     ·obtain rfl:k2=8:=ag
      obtain rfl:nn=x.s:=by rw[RW.O,List.take_of_length_le (by rw[dC];exact aW),Ww _ Qg.O.2.2.Ta]
      have hxw:Below w8 w8 (wr.alloc (.cells (dv (some ⟨C,o,none⟩) 8 kc va x.id.length vc) 114)):=by rw[<-Ga.O];exact LA.O.T (Gd.O.1.mono LA.O.size)
      have Ye:=Lw (P:=Tryz.prog) (T:=99) (K:=22) (E:=9) (key:=.int .u64 (x.s:Int)) (HC8.O.mp.below hxw) aO (d:=.int .u64) aO rfl ON (v:=.string (aU x.id)) (λ p hp e=>by
       obtain⟨z,hz,rfl⟩:=List.mem_map.1 hp
       have:(Value.int .u64 (z.s:Int))= .int .u64 (x.s:Int):=e
       injection this with _ h2
       have hzx:z=x:=yG (f:=aG.s) (HRI.O.1.imp λ {a b} h e=>ag) (T0.O.1.mem_iff.1 hz) Qg.O.2.1 ag
       rw[hzx];rfl) ⟨Yb x,List.mem_map.2 ⟨x,T0.O.1.mem_iff.2 Qg.O.2.1,rfl⟩,rfl⟩ true
      simp only[if_true]at Ye
      have m0:=aJ (HC8.O.below hxw (cG HC8.O.oJ.size HN.O)).mpb
      clear hxw
      go_wp2_with fail
      rw[<-Ga.O]
      clear Ye m0 z0 z1 z2 z3
      obtain⟨z0,z1,z2,z3⟩:=uw Gd.O.2.1
      have cv1:=cy (W:=wx.drew) (k:=8) (c:=kc) (Gd.O.2.2.1.below (Below.refl _ wx).drew) (dC x.s)
      refine Jq ?_
      refine bP 22 ?_
      refine tP [0,1,2,3,4,5,6,7,8,9,10] ?_
      iterate 11 refine tO ?_
      refine ah 11 rfl ?_
      refine sP 11 [0,1,2,3,4,5,6,10] λ K hK=>?_
      go_simp
      (with_reducible refine(Ic x.s Qg.O.2.2.Ta _).mono ?_);rintro e w9 ⟨a9,rfl,h9,oQ⟩
      have QF:Hid (Below wx wx w9):=af (((Below.refl _ wx).drew).T oQ)
      clear z0 z1 z2 z3 cv1 oQ
      obtain⟨z0,z1,z2,z3⟩:=uw ((QF.O.block _ (aX Gd.O.2.1).1).T Gd.O.2.1)
      have cv1:=cy (k:=8) (c:=kc) (Gd.O.2.2.1.below QF.O) (dC x.s)
      have cv2:=cy (W:=w9) (a:=a9) (k:=8) (c:=8) (xs:=e8 x.s) h9 (dC x.s)
      have cv3:=cy (k:=x.id.length) (c:=vc) (Gd.O.2.2.2.below QF.O) rfl
      clear h9
      refine nP hK ?_
      clear hK K
      refine tP [12,13,14,15,16,17,18,19,20,21] ?_
      iterate 10 refine tO ?_
      refine ah 0 rfl ?_
      refine dP ?_
      go_simp
      go_wp2_with fail
      exact⟨⟨i+1,by simp,ag,af (LA.O.T ((Gd.O.1.mono LA.O.size).T (QF.O.mono (Nat.le_trans LA.O.size Gd.O.1.size))))⟩,by simp[intOf];omega⟩
   ·obtain rfl:i=L:=ag
    have xp:=HC8.O.below LA.O (cG HC8.O.oJ.size HN.O)
    have r0:=aJ xp.res
    have rf:=ak xp.res 0
    rw[HN.O]at r0 rf
    have Ss:=Db.O
    have jK:=xp.res
    rw[HN.O]at jK
    have hz:((wr.setCell (za (w.heap.size+1+1) 0) (.int .i64 0)).putObj D (.deferred none)).heap[w.heap.size+1+1]? =some (.cells mc 24):=(World.putObj_heap_other (Tm HG.O.1.1 HG.O.1.2 HG.O.2.1 HN.O)).T (aq (j:=0) (.int .i64 0) jK)
    have WC:(wr.setCell (za (w.heap.size+1+1) 0) (.int .i64 0)).heap[D]? =some (.deferred (some [])):=(Below.heap_setCell _ _ _ _ (show D≠w.heap.size+1+1 by have:=HG.O.1.1;have:=HG.O.1.2;have:=HG.O.2.1;have:=HN.O;omega)).T ((LA.O.block D (aX HK8.O).1).T HK8.O)
    have zV:Below w w ((wr.setCell (za (w.heap.size+1+1) 0) (.int .i64 0)).putObj D (.deferred none)):=eG ((HN.O▸xp.oJ).setCell (p:=(za (w.heap.size+1+1) 0)) (show w.heap.size<=w.heap.size+1+1 by omega) _) _ WC (Tm HG.O.1.1 HG.O.1.2 HG.O.2.1 HN.O)
    have hzc:=aJ hz
    have eJ:=cj WC zV
    clear xp jK hz WC zV Ss
    go_wp2_with fail
    refine⟨by simp,.inl ⟨_,_,rfl,run_takeDeferred eJ.O.1,?_⟩⟩
    exact⟨_,by rw[cD rfl];go_simp,rfl,eJ.O.2⟩
def aV:aG:=⟨[],0,0,0,false,0,0⟩
abbrev qA(B0:Nat)(id:ByteArray)(y:aG)(wk wn:Int)(kn:Bool)(tx:ByteArray)(g m s:Nat)(d:Bool)(a p1 e1 f1 p2 e2 f2:Nat)(wt:Bool):Array Value:=(zK (zp B0) id (aU y.id) y.g y.m y.s y.del y.at_ wk wn kn tx g m s d a p1 e1 f1 p2 e2 f2 wt)
def ew(W:World)(X B0:Nat)(id:ByteArray)(y:aG)(wk wn:Int)(kn:Bool)(tx:ByteArray)(g m s:Nat)(d:Bool)(a p1 e1 f1 p2 e2 f2:Nat)(wt:Bool):Prop:=W.heap[X]? =some (.cells (qA B0 id y wk wn kn tx g m s d a p1 e1 f1 p2 e2 f2 wt) 124)
def fT(es:List aG)(id:List Nat):Option aG->Prop
 |some x=>x∈es/\x.id=id
 |none=>∀x∈es,x.id≠id
def bZ(o:Option aG):Bool:=match o with|some x=> !x.del|none=>false
theorem Bh(hF:au w b cf ps)(hm:Marks (al ps))(hC:cB (al ps) a1 d1 c1 a2 d2 c2 q es)(hq:q<=1099511627776)(s:ByteArray)(j4:s.size<=4611686018427387904):
 Calls Tryz.prog 44 #[aE b ps.length cf,cU a1 d1 c1 a2 d2 c2 q,.string s] w λ e w'=>Below w w w'/\((oR s≠0/\e= .returned (.tuple #[.pointer none,.int .i64 290]))\/(oR s=0/\∃(o:Option aG) (X B0:Nat) (wk wn:Int),e= .returned (.tuple #[.pointer (zp X),.int .i64 0])/\w.heap.size<=X/\w.heap.size<=B0/\X≠B0/\fT es (dk s) o/\eE w' B0 b ps.length cf a1 d1 c1 a2 d2 c2 q/\ew w' X B0 s (o.getD aV) wk wn o.isSome ⟨#[]⟩ 0 0 0 false 0 0 0 0 0 0 0 (bZ o))):=by
 obtain⟨w1,aH⟩:=aK ((w.alloc (.cells (cK b ps.length cf) 37)).alloc (.cells (Ie a1 d1 c1 a2 d2 c2 q) 43))
 have aQ:Below w w w1:=by rw[aH];go_grown
 have dm:w1.heap.size=w.heap.size+1+1:=by rw[aH];simp
 have bB:=aS (w2:=w1) (by rw[aH];exact dp)
 have jP:=aj bB.1
 have fx:=aj bB.2
 have C5:=af (rL (hF.below aQ) hm hC hq)
 have HDK:=af (yE s j4)
 have H1:=jo aQ dm bB aH
 have V9:=af (λ (hid:oR s=0) (B0:Nat) (V:World) (hV:Below w w V) (hS:eE V B0 b ps.length cf a1 d1 c1 a2 d2 c2 q)=>OH hS (hF.below hV) hm hC s hid)
 have bt:=hC.apart
 rw[aH]at C5 jP fx
 unfold aE at C5
 unfold cU at C5
 unfold aE cU
 clear hF hm hC hq j4 aQ dm bB aH
 by_cases hid:oR s=0
 ·have Su:=af hid
  rw[hid]at HDK
  by_cases hk:∃x,x∈es/\x.id=dk s
  ·obtain⟨x,hx,vm⟩:=hk
   have HFD:Hid (∀(B0:Nat) (V:World),Below w w V->eE V B0 b ps.length cf a1 d1 c1 a2 d2 c2 q->Calls Tryz.prog 58 (BK (zp B0) s) V λ e w'=>e= .returned (.tuple (lD (.agg (vR (aU x.id) x.g x.m x.s x.del x.at_ (kindOf x.del) (gG x.del x.n)))))/\Below V V w'):=af λ B0 V hV hS=>(V9.O Su.O B0 V hV hS).mono λ e w' ⟨hb,h⟩=>by
    rcases h with⟨z,hz,hzi,rfl⟩|⟨km,_⟩
    ·have:z=x:=yG (f:=aG.id) bt hz hx (hzi.T vm.symm)
     subst this
     exact⟨rfl,hb⟩
    ·exact absurd vm (km x hx)
   have HX:Hid (fT es (dk s) (some x)):=af ⟨hx,vm⟩
   clear V9 hid bt hx vm
   go_enter Tryz.func44,Tryz.ntmps44
   go_wp2_with first
    |(refine bh 37 ?_)
    |(refine bh 43 ?_)
    |((with_reducible refine C5.O.mono ?_);rintro e w2 ⟨rfl,aC⟩
      rw[<-H1.O.2.2.2]at aC
      obtain⟨w3,cL⟩:=aK ((w2.alloc (.cells (zJ b ps.length cf a1 d1 c1 a2 d2 c2 q) 97)).alloc (.cells (ME (zp w2) s) 124))
      have aL:Below w1 w1 w3:=by rw[cL];exact(aC.alloc aC.size _).alloc (by have:=aC.size;simp;omega) _
      have fZ:=aC.size
      have jS:=aS (w:=w2) (w2:=w3) (by rw[cL];exact dp)
      have Jf:=(aC.block _ (aM H1.O.2.1)).T H1.O.2.2.1.1
      have Da:=(aC.block _ (aM H1.O.2.1)).T H1.O.2.2.1.2
      have gR:=aj Jf
      have uJ:=aj Da
      have WD:Below w w w3:=H1.O.1.T (aL.mono H1.O.1.size)
      have g0:=(aa jS.2 0).T rfl
      simp only[aD]at g0
      have H3:=cV jS WD (show w.heap.size+1+1<=w2.heap.size by have:=H1.O.2.1;omega)
      have sa:=af (HFD.O w2.heap.size w3 WD jS.1)
      have um:=af (show w3.heap.size=w2.heap.size+1+1 by rw[cL];simp)
      rw[cL]at g0 sa
      have mL:=af cL
      clear aC cL aL jS Jf Da WD fZ)
    |((with_reducible refine(HDK.O _).mono ?_);rintro e w4 ⟨rfl,gA⟩;rw[gA];clear gA w4)
    |((with_reducible refine sa.O.mono ?_);rintro e w4 ⟨rfl,bH⟩
      rw[<-mL.O]at bH
      have H4:=af bH
      have lz:=(bH.block _ (by rw[um.O];omega)).T H3.O.1.2
      have HX4:=af lz
      clear bH lz g0)
    |(refine aP 106 rfl _ _ rfl (w2.heap.size+1) 2 (ME (zp w2) s) (vR (aU x.id) x.g x.m x.s x.del x.at_ (kindOf x.del) (gG x.del x.n)) 124 rfl rfl HX4.O aR aO (by simp[Value.oneCell']) (λ w5 h1 h2 h3=>?_)
      simp only[aF,bD]at h1
      have x0:=(aa h1 0).T rfl
      have x6:=(aa h1 6).T rfl
      have yN:=(aa h1 13).T rfl
      have tj:=(aa h1 36).T rfl
      simp only[aD]at x0 x6 yN tj
      have xf:=ak h1 13
      have xg:=ak h1 36
      have Ge:=cV h1 ((h2 w2.heap.size ag).T ((H4.O.block _ (by rw[um.O];omega)).T H3.O.1.1)) (h3 w w (aM H3.O.2.2) (H3.O.2.1.T (H4.O.mono H3.O.2.1.size)))
      clear h1 h2 h3)
    |fail
   go_ret2
   have cu:((w5.setCell (za (w2.heap.size+1) 13) (.bool true)).setCell (za (w2.heap.size+1) 36) (.bool (!x.del))).heap[w2.heap.size+1]? =some (.cells #[.pointer (zp w2),.string s,.string (aU x.id),.int .u32 (x.g:Int),.int .u32 (x.m:Int),.int .u64 (x.s:Int),.bool x.del,.int .i64 (x.at_:Int),.int .i64 (kindOf x.del),.int .i64 (gG x.del x.n),.string ⟨#[]⟩,.slice none 0 0,.slice none 0 0,.bool true,.string ⟨#[]⟩,.int .u32 0,.int .u32 0,.int .u64 0,.bool false,.int .i64 0,.int .i64 0,.int .i64 0,.int .i64 0,.int .i64 0,.int .i64 0,.int .u64 0,.int .i64 0,.int .i64 0,.int .i64 0,.int .i64 0,.int .i64 0,.int .i64 0,.int .i64 0,.int .u64 0,.int .i64 0,.int .i64 0,.bool (!x.del)] 124):=by simpa using aq (j:=36) (.bool (!x.del)) (aq (j:=13) (.bool true) Ge.O.1)
   have iZ:eE ((w5.setCell (za (w2.heap.size+1) 13) (.bool true)).setCell (za (w2.heap.size+1) 36) (.bool (!x.del))) w2.heap.size b ps.length cf a1 d1 c1 a2 d2 c2 q:=(Below.heap_setCell _ _ _ _ aR).T ((Below.heap_setCell _ _ _ _ aR).T Ge.O.2.1)
   have zY:Below w w ((w5.setCell (za (w2.heap.size+1) 13) (.bool true)).setCell (za (w2.heap.size+1) 36) (.bool (!x.del))):=(Ge.O.2.2.setCell (p:=(za (w2.heap.size+1) 13)) (show w.heap.size<=w2.heap.size+1 by have:=H3.O.2.2;omega) _).setCell (p:=(za (w2.heap.size+1) 36)) (show w.heap.size<=w2.heap.size+1 by have:=H3.O.2.2;omega) _
   exact⟨zY,.inr ⟨Su.O,some x,w2.heap.size+1,w2.heap.size,kindOf x.del,gG x.del x.n,rfl,by have:=H3.O.2.2;omega,by have:=H3.O.2.2;omega,ag,HX.O,iZ,cu⟩⟩
  ·have HFD:Hid (∀(B0:Nat) (V:World),Below w w V->eE V B0 b ps.length cf a1 d1 c1 a2 d2 c2 q->Calls Tryz.prog 58 (BK (zp B0) s) V λ e w'=>e= .returned (.tuple (Gj (.agg kA)))/\Below V V w'):=af λ B0 V hV hS=>(V9.O Su.O B0 V hV hS).mono λ e w' ⟨hb,h⟩=>by
    rcases h with⟨z,hz,hzi,rfl⟩|⟨km,rfl⟩
    ·exact absurd ⟨z,hz,hzi⟩ hk
    ·exact⟨rfl,hb⟩
   have HNO:Hid (fT es (dk s) none):=af λ x hx e=>hk ⟨x,hx,e⟩
   clear V9 hid bt hk
   go_enter Tryz.func44,Tryz.ntmps44
   go_wp2_with first
    |(refine bh 37 ?_)
    |(refine bh 43 ?_)
    |((with_reducible refine C5.O.mono ?_);rintro e w2 ⟨rfl,aC⟩
      rw[<-H1.O.2.2.2]at aC
      obtain⟨w3,cL⟩:=aK ((w2.alloc (.cells (zJ b ps.length cf a1 d1 c1 a2 d2 c2 q) 97)).alloc (.cells (ME (zp w2) s) 124))
      have aL:Below w1 w1 w3:=by rw[cL];exact(aC.alloc aC.size _).alloc (by have:=aC.size;simp;omega) _
      have fZ:=aC.size
      have jS:=aS (w:=w2) (w2:=w3) (by rw[cL];exact dp)
      have Jf:=(aC.block _ (aM H1.O.2.1)).T H1.O.2.2.1.1
      have Da:=(aC.block _ (aM H1.O.2.1)).T H1.O.2.2.1.2
      have gR:=aj Jf
      have uJ:=aj Da
      have WD:Below w w w3:=H1.O.1.T (aL.mono H1.O.1.size)
      have g0:=(aa jS.2 0).T rfl
      simp only[aD]at g0
      have H3:=cV jS WD (show w.heap.size+1+1<=w2.heap.size by have:=H1.O.2.1;omega)
      have sa:=af (HFD.O w2.heap.size w3 WD jS.1)
      have um:=af (show w3.heap.size=w2.heap.size+1+1 by rw[cL];simp)
      rw[cL]at g0 sa
      have mL:=af cL
      clear aC cL aL jS Jf Da WD fZ)
    |((with_reducible refine(HDK.O _).mono ?_);rintro e w4 ⟨rfl,gA⟩;rw[gA];clear gA w4)
    |((with_reducible refine sa.O.mono ?_);rintro e w4 ⟨rfl,bH⟩
      rw[<-mL.O]at bH
      have H4:=af bH
      have lz:=(bH.block _ (by rw[um.O];omega)).T H3.O.1.2
      have HX4:=af lz
      clear bH lz g0)
    |(refine aP 106 rfl _ _ rfl (w2.heap.size+1) 2 (ME (zp w2) s) kA 124 rfl rfl HX4.O aR aO (by simp[Value.oneCell']) (λ w5 h1 h2 h3=>?_)
      simp only[aF,bD]at h1
      have x0:=(aa h1 0).T rfl
      have x6:=(aa h1 6).T rfl
      have yN:=(aa h1 13).T rfl
      have tj:=(aa h1 36).T rfl
      simp only[aD]at x0 x6 yN tj
      have xf:=ak h1 13
      have xg:=ak h1 36
      have Ge:=cV h1 ((h2 w2.heap.size ag).T ((H4.O.block _ (by rw[um.O];omega)).T H3.O.1.1)) (h3 w w (aM H3.O.2.2) (H3.O.2.1.T (H4.O.mono H3.O.2.1.size)))
      clear h1 h2 h3)
    |fail
   go_ret2
   have cu:((w5.setCell (za (w2.heap.size+1) 13) (.bool false)).setCell (za (w2.heap.size+1) 36) (.bool false)).heap[w2.heap.size+1]? =some (.cells (ME (zp w2) s) 124):=by simpa using aq (j:=36) (.bool false) (aq (j:=13) (.bool false) Ge.O.1)
   have iZ:eE ((w5.setCell (za (w2.heap.size+1) 13) (.bool false)).setCell (za (w2.heap.size+1) 36) (.bool false)) w2.heap.size b ps.length cf a1 d1 c1 a2 d2 c2 q:=(Below.heap_setCell _ _ _ _ aR).T ((Below.heap_setCell _ _ _ _ aR).T Ge.O.2.1)
   have zY:Below w w ((w5.setCell (za (w2.heap.size+1) 13) (.bool false)).setCell (za (w2.heap.size+1) 36) (.bool false)):=(Ge.O.2.2.setCell (p:=(za (w2.heap.size+1) 13)) (show w.heap.size<=w2.heap.size+1 by have:=H3.O.2.2;omega) _).setCell (p:=(za (w2.heap.size+1) 36)) (show w.heap.size<=w2.heap.size+1 by have:=H3.O.2.2;omega) _
   exact⟨zY,.inr ⟨Su.O,none,w2.heap.size+1,w2.heap.size,0,0,rfl,by have:=H3.O.2.2;omega,by have:=H3.O.2.2;omega,ag,HNO.O,iZ,cu⟩⟩
 ·have aaL:oR s=290:=by
   unfold oR at hid⊢
   split at hid
   ·exact absurd rfl hid
   ·rename_i h;rw[if_neg h]
  have Su:=af hid
  rw[aaL]at HDK
  clear V9 hid bt aaL
  go_enter Tryz.func44,Tryz.ntmps44
  go_wp2_with first
   |(refine bh 37 ?_)
   |(refine bh 43 ?_)
   |((with_reducible refine C5.O.mono ?_);rintro e w2 ⟨rfl,aC⟩
     rw[<-H1.O.2.2.2]at aC
     have bR:=af aC
     clear aC)
   |((with_reducible refine(HDK.O _).mono ?_);rintro e w4 ⟨rfl,gA⟩;rw[gA];clear gA w4)
   |fail
  go_ret2
  exact⟨H1.O.1.T (bR.O.mono H1.O.1.size),.inl ⟨Su.O,rfl⟩⟩
section
variable {α : Type} {all : List Nat} {S : α -> List KV -> Prop} {lo : Nat}
theorem iC:∀{l:List (Pv α)} {ys:List α},Tidy l->Pv.loose ys∈l->1<=ys.length
 |[],_,_,h=>by cases h
 | .kept _::l,ys,ht,h=>by
   rcases List.mem_cons.1 h with h|h
   ·cases h
   ·exact iC (l:=l) ht h
 | .loose zs::l,ys,ht,h=>by
   rcases List.mem_cons.1 h with h|h
   ·cases h;exact ht.1
   ·exact iC ht.2.2 h
theorem nT(hS:∀x s,S x s->1<=s.length):∀{V:List (Pv α)} {its:List KV},aT (nk all S lo) V its->bu V<=its.length
 |[],_,_=>Nat.zero_le _
 | .kept r::V,_,⟨s,t,_,h2,h3⟩=>by
   have:=nT hS h2
   rw[h3,List.length_append];simp only[bu];omega
 | .loose ys::V,_,⟨s,t,h1,h2,h3⟩=>by
   have:=nT hS h2
   have h4:=aT.len 1 hS (show aT S ys s from h1)
   rw[h3,List.length_append];simp only[bu];omega
theorem pI(hS:∀x s,S x s->1<=s.length):∀{V:List (Pv α)} {its:List KV},aT (nk all S lo) V its->(∀ys,Pv.loose ys∈V->1<=ys.length)->V.length<=its.length
 |[],_,_,_=>Nat.zero_le _
 | .kept r::V,_,⟨s,t,h1,h2,h3⟩,hn=>by
   have h4:=pI hS h2 λ ys h=>hn ys (List.mem_cons_of_mem _ h)
   obtain⟨kv,l,e,_⟩:=cW.first h1.1
   rw[h3,List.length_append,e];simp only[List.length_cons];omega
 | .loose ys::V,_,⟨s,t,h1,h2,h3⟩,hn=>by
   have h4:=pI hS h2 λ ys h=>hn ys (List.mem_cons_of_mem _ h)
   have h5:=aT.len 1 hS (show aT S ys s from h1)
   have:=hn ys List.mem_cons_self
   rw[h3,List.length_append];simp only[List.length_cons];omega
theorem E4{V:List (Pv α)}{p:Pv α}(h:V[i]? =some p):∃A B,V=A++p::B/\A.length=i:=by
 obtain⟨h1,h2⟩:=List.getElem?_eq_some_iff.1 h
 refine⟨V.take i,V.drop (i+1),?_,by rw[List.length_take];omega⟩
 rw[<-h2,<-List.drop_eq_getElem_cons h1,List.take_append_drop]
theorem LB{V:List (Pv α)}{ys:List α}(hs:aT (nk all S lo) V its)(ht:Tidy V)(hi:V[i]? =some (.loose ys))(hl:i+1<V.length):
 ∃A r B a sy s sb,V=A++.loose ys::.kept r::B/\A.length=i/\aT (nk all S lo) A a/\aT S ys sy/\cW all r s/\lo<=r.h/\aT (nk all S lo) B sb/\its=a++(sy++(s++sb)):=by
 obtain⟨r,hr⟩:=(sM ht hi).2 _ (List.getElem?_eq_getElem hl)
 obtain⟨A,B',hV,hA⟩:=E4 hi
 have h1:B'[0]? =some (.kept r):=by
  have:V[i+1]? =some (.kept r):=by rw[List.getElem?_eq_getElem hl,hr]
  rw[hV,List.getElem?_append_right ag,show i+1 - A.length=1 by omega]at this
  exact this
 cases B' with
 |nil=>simp at h1
 |cons q B=>
  have hq:q= .kept r:=by simpa using h1
  subst hq
  rw[hV]at hs
  obtain⟨a,b,e1,⟨sy,r1,e2,⟨s,sb,e3,e4,e5⟩,e6⟩,e7⟩:=aT.app.1 hs
  exact⟨A,r,B,a,sy,s,sb,hV,hA,e1,e2,e3.1,e3.2,e4,by rw[e7,e6,e5]⟩
theorem OO{V:List (Pv α)}{ys:List α}(hs:aT (nk all S lo) V its)(ht:Tidy V)(hi:V[i+1]? =some (.loose ys))(hl:i+1+1=V.length):
 ∃A r a s sy,V=A++.kept r::[Pv.loose ys]/\A.length=i/\aT (nk all S lo) A a/\aT S ys sy/\cW all r s/\lo<=r.h/\its=a++(s++sy):=by
 have h0:V[i]? =some V[i]:=List.getElem?_eq_getElem ag
 obtain⟨A,B',hV,hA⟩:=E4 h0
 have hB:B'=[Pv.loose ys]:=by
  have h1:B'.length=1:=by rw[hV]at hl;simp at hl;omega
  have h2:B'[0]? =some (.loose ys):=by
   rw[hV,List.getElem?_append_right ag,show i+1 - A.length=1 by omega]at hi
   exact hi
  match B',h1,h2 with
  |[q],_,h2=>simpa using h2
 have hp:∃r,V[i]= .kept r:=by
  cases hv:V[i]with
  |kept r=>exact⟨r,rfl⟩
  |loose zs=>
   rw[hv]at h0
   obtain⟨r,hr⟩:=(sM ht h0).2 _ hi
   cases hr
 obtain⟨r,hr⟩:=hp
 rw[hr,hB]at hV
 rw[hV]at hs
 obtain⟨a,b,e1,⟨s,r1,e2,e3,e4⟩,e5⟩:=aT.app.1 hs
 exact⟨A,r,a,s,r1,hV,hA,e1,aT.one.1 e3,e2.1,e2.2,by rw[e5,e4]⟩
theorem nU:∀(rs:List aN),bC (dZ rs:List (Pv α))=0
 |[]=>rfl
 |r::rs=>by
  have:=nU rs
  show bC ([Pv.kept r]++dZ rs)=0
  rw[cl,this];rfl
theorem pJ:∀(rs:List aN),bW (dZ rs:List (Pv α))=rs.length
 |[]=>rfl
 |r::rs=>by
  have:=pJ rs
  show bW ([Pv.kept r]++dZ rs)=rs.length+1
  rw[cF,this];simp[bW];omega
theorem rM:∀(rs:List aN),bu (dZ rs:List (Pv α))=0
 |[]=>rfl
 |_::rs=>rM rs
theorem Bi{rs:List aN}{ys:List α}(h:Pv.loose ys∈dZ rs):False:=by
 obtain⟨r,_,hr⟩:=List.mem_map.1 h
 cases hr
theorem E5{V:List (Pv α)}(hs:aT (nk all S lo) V its):aT (nk all S lo) (lP V) its/\Tidy (lP V)/\bW (lP V)=bW V/\bu (lP V)=bu V:=by
 refine⟨?_,tidy_fold (l:=V) (out:=[]) trivial,?_,?_⟩
 ·have:=Eu (out:=[]) (a:=[]) (l:=V) rfl hs
  exact this
 ·unfold lP;rw[xX];simp[bW]
 ·unfold lP;rw[ur];simp[bu]
theorem yO{V A B ky:List (Pv α)}{a sb:List KV}{ys:List α}(hS:∀x s,S x s->1<=s.length)(ht:Tidy V)(hV:V=A++.loose ys::.kept r::B)(h3:ys.length<3)(hA:aT (nk all S lo) A a)(hy:aT S ys sy)(hm:iz all S lo true s ky)(hB:aT (nk all S lo) B sb)(hi:its=a++(sy++(s++sb))):
 aT (nk all S lo) ((A++[Pv.loose ys])++(ky++B)) its/\((A++[Pv.loose ys])++(ky++B)).length<=its.length/\bC (lP ((A++[Pv.loose ys])++(ky++B)))<bC V/\bW V+bu V<=bW ((A++[Pv.loose ys])++(ky++B))+bu ((A++[Pv.loose ys])++(ky++B)):=by
 obtain⟨zs,rs,hz,CK,Yf⟩:=hm
 rw[if_pos rfl]at CK
 have lA:1<=ys.length:=iC ht (by rw[hV];simp)
 have lh:aT (nk all S lo) ((A++[Pv.loose ys])++(ky++B)) its:=by
  refine aT.app.2 ⟨a++sy,s++sb,aT.app.2 ⟨a,sy,hA,aT.one.2 hy,rfl⟩,aT.app.2 ⟨s,sb,Yf,hB,rfl⟩,by rw[hi];simp⟩
 refine⟨lh,pI hS lh λ ws hw=>?_,?_,?_⟩
 ·rw[CK]at hw
  rcases List.mem_append.1 hw with h|h
  ·rcases List.mem_append.1 h with h|h
   ·exact iC ht (by rw[hV];simp[h])
   ·rw[List.mem_singleton]at h;cases h;exact lA
  ·rcases List.mem_append.1 h with h|h
   ·rcases List.mem_cons.1 h with h|h
    ·cases h;omega
    ·exact(Bi h).elim
   ·exact iC ht (by rw[hV];simp[h])
 ·have h1:=vy (A:=A) (M:=dZ rs) (B:=B) lA (show 1<=zs.length by omega) ag (nU rs)
  have e:(A++[Pv.loose ys])++(ky++B)=A++(Pv.loose ys::Pv.loose zs::(dZ rs++B)):=by rw[CK];simp
  rw[e,hV]
  have e2:bC (A++(Pv.loose ys::Pv.kept r::B))=bC A+(1+bC B):=by
   rw[cl,show Pv.loose ys::Pv.kept r::B=[Pv.loose ys]++([Pv.kept r]++B)from rfl,cl,cl,gE,gE]
   simp[isSmall,h3]
  omega
 ·rw[CK,hV]
  have e1:bW (A++Pv.loose ys::Pv.kept r::B)=bW A+(0+(1+bW B)):=by
   rw[cF,show Pv.loose ys::Pv.kept r::B=[Pv.loose ys]++([Pv.kept r]++B)from rfl,cF,cF];simp[bW]
  have e2:bW ((A++[Pv.loose ys])++(Pv.loose zs::dZ rs++B))=bW A+0+(0+rs.length+bW B):=by
   rw[cF,cF,cF,show Pv.loose zs::dZ rs=[Pv.loose zs]++dZ rs from rfl,cF,pJ];simp[bW]
  have e3:bu (A++Pv.loose ys::Pv.kept r::B)=bu A+(ys.length+bu B):=by rw[cH];simp[bu]
  have e4:bu ((A++[Pv.loose ys])++(Pv.loose zs::dZ rs++B))=bu A+ys.length+(zs.length+0+bu B):=by
   rw[cH,cH,cH];simp[bu,rM]
  omega
theorem Bj{V A ky:List (Pv α)}{a:List KV}{ys:List α}(hS:∀x s,S x s->1<=s.length)(ht:Tidy V)(hV:V=A++.kept r::[Pv.loose ys])(h3:ys.length<3)(hA:aT (nk all S lo) A a)(hy:aT S ys sy)(hm:iz all S lo false s ky)(hi:its=a++(s++sy)):
 aT (nk all S lo) (A++(ky++[Pv.loose ys])) its/\(A++(ky++[Pv.loose ys])).length<=its.length/\bC (lP (A++(ky++[Pv.loose ys])))<bC V/\bW V+bu V<=bW (A++(ky++[Pv.loose ys]))+bu (A++(ky++[Pv.loose ys])):=by
 obtain⟨zs,rs,hz,CK,Yf⟩:=hm
 rw[if_neg bd]at CK
 have lA:1<=ys.length:=iC ht (by rw[hV];simp)
 have lh:aT (nk all S lo) (A++(ky++[Pv.loose ys])) its:=
  aT.app.2 ⟨a,s++sy,hA,aT.app.2 ⟨s,sy,Yf,aT.one.2 hy,rfl⟩,hi⟩
 refine⟨lh,pI hS lh λ ws hw=>?_,?_,?_⟩
 ·rw[CK]at hw
  rcases List.mem_append.1 hw with h|h
  ·exact iC ht (by rw[hV];simp[h])
  ·rcases List.mem_append.1 h with h|h
   ·rcases List.mem_append.1 h with h|h
    ·exact(Bi h).elim
    ·rw[List.mem_singleton]at h;cases h;omega
   ·rw[List.mem_singleton]at h;cases h;exact lA
 ·have h1:=vy (A:=A++dZ rs) (M:=[]) (B:=[]) (show 1<=zs.length by omega) lA ag rfl
  have e:A++(ky++[Pv.loose ys])=(A++dZ rs)++(Pv.loose zs::Pv.loose ys::([]++[])):=by rw[CK];simp
  rw[e,hV]
  have e2:bC (A++[Pv.kept r,Pv.loose ys])=bC A+(0+1):=by
   rw[cl,show[Pv.kept r,Pv.loose ys]=[Pv.kept r]++[Pv.loose ys]from rfl,cl,gE,gE]
   simp[isSmall,h3]
  rw[cl,nU]at h1
  have:bC ([]:List (Pv α))=0:=rfl
  omega
 ·rw[CK,hV]
  have e1:bW (A++[Pv.kept r,Pv.loose ys])=bW A+1:=by
   rw[cF];simp[bW]
  have e2:bW (A++((dZ rs++[Pv.loose zs])++[Pv.loose ys]))=bW A+(rs.length+0+0):=by
   rw[cF,cF,cF,pJ];simp[bW]
  have e3:bu (A++[Pv.kept r,Pv.loose ys])=bu A+ys.length:=by rw[cH];simp[bu]
  have e4:bu (A++((dZ rs++[Pv.loose zs])++[Pv.loose ys]))=bu A+(0+zs.length+ys.length):=by
   rw[cH,cH,cH,rM];simp[bu]
  omega
theorem E6(h:cW all r s)(hl:s.length<=200):r.h<=50:=by
 have h1:=h.many
 refine Nat.le_of_not_lt λ hc=>?_
 have:=RG (show 51<=r.h+1 by omega)
 have h51:3^51>200:=by decide
 omega
def CL(W:World)(B o j:Nat):Bool:=match W.cell? ⟨B,o+j*11,none⟩,W.cell? ⟨B,o+j*11+10,none⟩with
 |some (.bool false),some (.slice _ m _)=>decide (m<3)
 |_,_=>false
def nV(W:World):Value->Nat
 | .slice (some ⟨B,o,none⟩) n _=>(List.range n).countP (CL W B o)
 |_=>0
theorem count_range{β:Type}(q:β->Bool):∀(l:List β) (p:Nat->Bool),(∀(j:Nat) (x:β),l[j]? =some x->p j=q x)->(List.range l.length).countP p=l.countP q:=by
 intro l
 induction l with
 |nil=>intro p _;rfl
 |cons x l ih=>
  intro p h
  rw[List.length_cons,List.range_succ_eq_map,List.countP_cons,List.countP_cons,List.countP_map,h 0 x rfl,ih (p∘Nat.succ) λ j y hy=>h (j+1) y hy]
theorem qh{K:sI α}{c:Nat}{ps:List (Pc α)}(h:bU K W a c ps):nV W (.slice a ps.length c)=bC (ps.map Pc.val):=by
 cases ps with
 |nil=>rcases a with _|⟨B,o,_|_⟩<;>rfl
 |cons p0 E7=>
  obtain⟨B,o,rfl⟩:=h.row.some_ aR
  show(List.range (p0::E7).length).countP (CL W B o)=_
  unfold bC
  rw[List.countP_map]
  refine count_range _ _ _ λ j p hp=>?_
  have hg:=h.row.get hp
  unfold CL
  cases p with
  |kept r=>
   have h0:=hg 0 _ rfl
   rw[Nat.add_zero]at h0
   rw[h0];rfl
  |loose a c ys=>
   have h0:=hg 0 _ rfl
   have h1:=hg 10 _ rfl
   rw[Nat.add_zero]at h0
   rw[h0,h1];rfl
structure lj(all:List Nat)(S:α->List KV->Prop)(lo:Nat)(V V':List (Pv α))(its:List KV):Prop where
 Gf:aT (nk all S lo) V' its
 tidy:Tidy V'
 more:bW V+bu V<=bW V'+bu V'
theorem lj.start{V:List (Pv α)}(h:aT (nk all S lo) V its):lj all S lo V (lP V) its:=by
 obtain⟨h1,h2,h3,h4⟩:=E5 h
 exact⟨h1,h2,ag⟩
theorem lj.next{V V1 V2:List (Pv α)}(h:lj all S lo V V1 its)(h2:aT (nk all S lo) V2 its)(h3:bW V1+bu V1<=bW V2+bu V2):lj all S lo V (lP V2) its:=by
 obtain⟨e1,e2,e3,e4⟩:=E5 h2
 exact⟨e1,e2,by have:=h.more;omega⟩
theorem lj.len{V V1:List (Pv α)}(hS:∀x s,S x s->1<=s.length)(h:lj all S lo V V1 its):V1.length<=its.length:=pI hS h.Gf λ _ hy=>iC h.tidy hy
theorem LC{V:List (Pv α)}(h:∀(j:Nat) (p:Pv α),j<V.length->V[j]? =some p->isSmall p=false):bC V=0:=by
 unfold bC
 rw[List.countP_eq_zero]
 intro p hp
 obtain⟨j,hj⟩:=List.getElem?_of_mem hp
 rw[h j p (List.getElem?_eq_some_iff.1 hj).1 hj];decide
end
theorem LD(x y:an)(hx:ai w x.ka x.key/\ai w x.va x.val)(hy:ai w y.ka y.key/\ai w y.va y.val)(hs:x.key.length<=1000/\x.val.length<=1000):
 Calls Tryz.prog 205 (YI (.agg (dv x.ka x.key.length x.kc x.va x.val.length x.vc)) (.agg (dv y.ka y.key.length y.kc y.va y.val.length y.vc))) w λ e w'=>∃r,e= .returned (.bool r)/\(r=true->eC x=eC y)/\Below w w w':=by
 obtain⟨w1,aH⟩:=aK ((w.alloc (.cells (dv x.ka x.key.length x.kc x.va x.val.length x.vc) 114)).alloc (.cells (dv y.ka y.key.length y.kc y.va y.val.length y.vc) 114))
 have aQ:Below w w w1:=by rw[aH];go_grown
 have bB:=aS (w2:=w1) (by rw[aH];exact dp)
 have HE:=af (rD x.kc y.kc (hx.1.below aQ) (hy.1.below aQ) ag)
 have HV:=af (λ (V:World) (hV:Below w1 w1 V)=>rD x.vc y.vc ((hx.2.below aQ).below hV) ((hy.2.below aQ).below hV) ag)
 have p0:=(aa bB.1 0).T rfl
 have p1:=(aa bB.1 1).T rfl
 have p2:=(aa bB.1 2).T rfl
 have p3:=(aa bB.1 3).T rfl
 simp only[aD]at p0 p1 p2 p3
 have q0:=(aa bB.2 0).T rfl
 have q1:=(aa bB.2 1).T rfl
 have q2:=(aa bB.2 2).T rfl
 have q3:=(aa bB.2 3).T rfl
 simp only[aD]at q0 q1 q2 q3
 have H1:=cV aQ bB aH
 rw[aH]at HE p0 p1 p2 p3 q0 q1 q2 q3
 clear hx hy hs aQ bB aH
 by_cases hk:x.key=y.key
 ·have e1:decide (x.key=y.key)=true:=by simp[hk]
  rw[e1]at HE
  have HK:=af hk
  clear hk e1
  by_cases hv:x.val=y.val
  ·have e2:decide (x.val=y.val)=true:=by simp[hv]
   rw[e2]at HV
   have HR:=af (show eC x=eC y by unfold eC;rw[HK.O,hv])
   clear hv e2
   go_enter Tryz.func205,Tryz.ntmps205
   go_wp2_with first
    |((with_reducible refine HE.O.mono ?_);rintro e w2 ⟨rfl,aC⟩
      rw[<-H1.O.2.2]at aC
      have g1:=(aC.block _ (aX H1.O.2.1.1).1).T H1.O.2.1.1
      have g2:=(aC.block _ (aX H1.O.2.1.2).1).T H1.O.2.1.2
      have s0:=(aa g1 0).T rfl
      have s1:=(aa g1 1).T rfl
      have s2:=(aa g1 2).T rfl
      have s3:=(aa g1 3).T rfl
      simp only[aD]at s0 s1 s2 s3
      have u0:=(aa g2 0).T rfl
      have u1:=(aa g2 1).T rfl
      have u2:=(aa g2 2).T rfl
      have u3:=(aa g2 3).T rfl
      simp only[aD]at u0 u1 u2 u3
      have vp:=af (HV.O _ aC)
      have bR:=cV aC g1 g2
      clear aC g1 g2)
    |((with_reducible refine vp.O.mono ?_);rintro e w3 ⟨rfl,aL⟩
      have g1:=(aL.block _ (aX bR.O.2.1).1).T bR.O.2.1
      have g2:=(aL.block _ (aX bR.O.2.2).1).T bR.O.2.2
      have m0:=(aa g1 0).T rfl
      have m1:=(aa g1 1).T rfl
      have m2:=(aa g1 2).T rfl
      have m3:=(aa g1 3).T rfl
      simp only[aD]at m0 m1 m2 m3
      have n0:=(aa g2 0).T rfl
      have n1:=(aa g2 1).T rfl
      have n2:=(aa g2 2).T rfl
      have n3:=(aa g2 3).T rfl
      simp only[aD]at n0 n1 n2 n3
      have bA:=af aL
      clear aL g1 g2)
    |fail
   go_ret
   exact⟨true,rfl, λ _=>HR.O,H1.O.1.T ((bR.O.1.T (bA.O.mono bR.O.1.size)).mono H1.O.1.size)⟩
  ·have e2:decide (x.val=y.val)=false:=by simp[hv]
   rw[e2]at HV
   clear hv e2
   go_enter Tryz.func205,Tryz.ntmps205
   go_wp2_with first
    |((with_reducible refine HE.O.mono ?_);rintro e w2 ⟨rfl,aC⟩
      rw[<-H1.O.2.2]at aC
      have g1:=(aC.block _ (aX H1.O.2.1.1).1).T H1.O.2.1.1
      have g2:=(aC.block _ (aX H1.O.2.1.2).1).T H1.O.2.1.2
      have s0:=(aa g1 0).T rfl
      have s1:=(aa g1 1).T rfl
      have s2:=(aa g1 2).T rfl
      have s3:=(aa g1 3).T rfl
      simp only[aD]at s0 s1 s2 s3
      have u0:=(aa g2 0).T rfl
      have u1:=(aa g2 1).T rfl
      have u2:=(aa g2 2).T rfl
      have u3:=(aa g2 3).T rfl
      simp only[aD]at u0 u1 u2 u3
      have vp:=af (HV.O _ aC)
      have bR:=af aC
      clear aC g1 g2)
    |((with_reducible refine vp.O.mono ?_);rintro e w3 ⟨rfl,aL⟩
      have bA:=af aL
      clear aL)
    |fail
   go_ret
   exact⟨false,rfl, λ h=>(by cases h),H1.O.1.T ((bR.O.T (bA.O.mono bR.O.size)).mono H1.O.1.size)⟩
 ·have e1:decide (x.key=y.key)=false:=by simp[hk]
  rw[e1]at HE
  clear hk e1
  go_enter Tryz.func205,Tryz.ntmps205
  go_wp2_with first
   |((with_reducible refine HE.O.mono ?_);rintro e w2 ⟨rfl,aC⟩
     rw[<-H1.O.2.2]at aC
     have bR:=af aC
     clear aC)
   |fail
  go_ret
  exact⟨false,rfl, λ h=>(by cases h),H1.O.1.T (bR.O.mono H1.O.1.size)⟩
theorem Ig{ys:List an}(c d:Nat)(hx:dQ w a xs)(hy:dQ w b ys)(hs:xs.length<=1000/\∀x∈xs,x.key.length<=1000/\x.val.length<=1000):
 Calls Tryz.prog 204 #[.slice a xs.length c,.slice b ys.length d,.func (.func 205) #[] #[]] w λ e w'=>∃r,e= .returned (.bool r)/\(r=true->xs.map eC=ys.map eC)/\Below w w w':=by
 have HA:=af (kV.1 hx)
 have HB:=af (kV.1 hy)
 have HS:=af hs.2
 have RI:(xs.length:Int)<=1000:=ag
 clear hx hy hs
 by_cases hl:xs.length=ys.length
 ·have bS:((xs.length:Int)==(ys.length:Int))=true:=by simp[hl]
  have ab1:((xs.length:Int)=(ys.length:Int)):=ag
  have HL:=af hl
  clear hl
  go_enter Tryz.func204,Tryz.ntmps204
  go_wp2_with fail
  go_loopw [17] (λ iv wr=>∃i:Nat,i<=xs.length/\iv= .int .i64 (i:Int)/\Hid (Below w w wr)/\Hid ((xs.map eC).take i=(ys.map eC).take i)) (λ iv _=>xs.length - (intOf iv).toNat)
  case atStart=>exact⟨0,ag,rfl,af (dp),af rfl⟩
  case round=>
   obtain⟨i,hi,rfl,hw,hc⟩:=hrel
   by_cases bg:i<xs.length
   ·obtain⟨x,hx⟩:∃x,xs[i]? =some x:=⟨xs[i],by simp[bg]⟩
    obtain⟨y,hy⟩:∃y,ys[i]? =some y:=⟨ys[i]'(aM HL.O),by have:=HL.O;simp⟩
    obtain⟨B,o,rfl⟩:=HA.O.1.some_ ag
    obtain⟨B',o',rfl⟩:=HB.O.1.some_ (aM HL.O)
    have hgx:wr.rangeAt B (o+i*4) (dv x.ka x.key.length x.kc x.va x.val.length x.vc):=(HA.O.1.below hw.O).get hx
    obtain⟨V1,lO⟩:=aK (wr.alloc (.cells (dv x.ka x.key.length x.kc x.va x.val.length x.vc) 114))
    have aQ:Below wr wr V1:=by rw[lO];go_grown
    have ZY:V1.rangeAt B' (o'+i*4) (dv y.ka y.key.length y.kc y.va y.val.length y.vc):=((HB.O.1.below hw.O).below aQ).get hy
    obtain⟨V2,CM⟩:=aK (V1.alloc (.cells (dv y.ka y.key.length y.kc y.va y.val.length y.vc) 114))
    have aC:Below V1 V1 V2:=by rw[CM];go_grown
    have n1:=World.alloc_heap_new wr (.cells (dv x.ka x.key.length x.kc x.va x.val.length x.vc) 114)
    rw[<-lO]at n1
    have n1':=(aC.block _ (aX n1).1).T n1
    have Wv:=aj n1'
    have n2:=World.alloc_heap_new V1 (.cells (dv y.ka y.key.length y.kc y.va y.val.length y.vc) 114)
    rw[<-CM]at n2
    have aaM:=aj n2
    have s1:V1.heap.size=wr.heap.size+1:=by rw[lO];simp
    have sN:Below w w V2:=(hw.O.T (aQ.mono hw.O.size)).T (aC.mono (Nat.le_trans hw.O.size aQ.size))
    have ey:=HA.O.2 x (List.mem_of_getElem? hx)
    have eZ:=HB.O.2 y (List.mem_of_getElem? hy)
    have HE:=af (LD x y ⟨ey.1.below sN,ey.2.below sN⟩ ⟨eZ.1.below sN,eZ.2.below sN⟩ (HS.O x (List.mem_of_getElem? hx)))
    have H2:=cj sN CM
    rw[s1]at aaM
    rw[CM,lO]at Wv aaM HE
    rw[lO]at ZY
    have gy:(i:Int)<(xs.length:Int):=ag
    have Vr:(i:Int)<(ys.length:Int):=ag
    have rj:(i:Int)<=1000:=ag
    have HX:=cj hx hy
    have OP:=af lO
    clear hx hy aQ aC n1 n1' n2 sN ey eZ lO CM s1
    go_wp2_with first
     |(refine bh 114 ?_)
     |(refine et 114 ?_)
     |((with_reducible refine HE.O.mono ?_);rintro e w3 ⟨r,rfl,hr,aL⟩
       rw[<-OP.O,<-H2.O.2]at aL
       have bA:=cj hr (H2.O.1.T (aL.mono H2.O.1.size))
       clear hr aL
       cases r)
     |fail
    ·go_ret
     exact⟨false,rfl, λ h=>(by cases h),bA.O.2⟩
    ·exact⟨⟨i+1,ag,by simp,af bA.O.2,af (by rw[List.take_add_one,List.take_add_one,hc.O,List.getElem?_map,List.getElem?_map,HX.O.1,HX.O.2,Option.map_some,Option.map_some,bA.O.1 trivial])⟩,by simp[intOf];omega⟩
   ·have hT:xs.map eC=ys.map eC:=by
     have h:=hc.O
     have hl:=HL.O
     rw[List.take_of_length_le bV,List.take_of_length_le bV]at h
     exact h
    have gy:¬ (i:Int)<(xs.length:Int):=ag
    have HT:=af hT
    clear hT
    go_wp2_with fail
    go_ret
    exact .inr ⟨rfl,HT.O,hw.O⟩
 ·have bS:((xs.length:Int)==(ys.length:Int))=false:=bV
  go_enter Tryz.func204,Tryz.ntmps204
  go_wp2_with fail
  go_ret
  exact⟨false,rfl, λ h=>(by cases h),dp⟩
theorem OQ{ys:List an}(c d:Nat)(hx:dQ w a xs)(hy:dQ w b ys)(hs:xs.length<=1000/\∀x∈xs,x.key.length<=1000/\x.val.length<=1000):
 Calls Tryz.prog 180 (jF a xs.length c b ys.length d) w λ e w'=>∃r,e= .returned (.bool r)/\(r=true->xs.map eC=ys.map eC)/\Below w w w':=by
 have HE:=af (Ig c d hx hy hs)
 clear hx hy hs
 go_enter Tryz.func180,Tryz.ntmps180
 go_wp2_with first
  |((with_reducible refine HE.O.mono ?_);rintro e w3 ⟨r,rfl,hr,aL⟩
    have HR:=cj hr aL
    clear hr aL)
  |fail
 go_ret
 exact⟨r,rfl,HR.O.1,HR.O.2⟩
def Pc.CN{α:Type}:Pc α->Bool| .kept _=>true| .loose _ _ _=>false
theorem CO(p:Pc an)(w:World):Calls Tryz.prog 183 #[.agg p.cells.toArray] w λ e w'=>e= .returned (.bool (!p.CN))/\Below w w w':=by
 have n0:=World.alloc_heap_new w (.cells p.cells.toArray 287)
 have hb:Below w w (w.alloc (.cells p.cells.toArray 287)):=by go_grown
 have HB:=af hb
 cases p with
 |kept r=>
  simp only[Pc.cells,List.toArray]at n0 HB⊢
  have x0:=(aa n0 0).T rfl
  simp only[aD]at x0
  clear n0 hb
  go_enter Tryz.func183,Tryz.ntmps183
  go_wp2_with fail
  go_ret
  exact⟨rfl,HB.O⟩
 |loose a c ys=>
  simp only[Pc.cells,List.toArray]at n0 HB⊢
  have x0:=(aa n0 0).T rfl
  simp only[aD]at x0
  clear n0 hb
  go_enter Tryz.func183,Tryz.ntmps183
  go_wp2_with fail
  go_ret
  exact⟨rfl,HB.O⟩
theorem LF{ps:List (Pc an)}(c:Nat)(hP:bU lC w a c ps)(hl:ps.length<=1000):
 Calls Tryz.prog 206 (UT a ps.length c (.func (.func 183) #[] #[])) w λ e w'=>∃i:Int,e= .returned (.int .i64 i)/\decide (0<=i)=ps.any (λ p=> !p.CN)/\Below w w w':=by
 have HP:=af hP
 have RI:(ps.length:Int)<=1000:=ag
 clear hP
 go_enter Tryz.func206,Tryz.ntmps206
 go_wp2_with fail
 go_loopw [8] (λ iv wr=>∃i:Nat,i<=ps.length/\iv= .int .i64 (i:Int)/\Hid (Below w w wr)/\Hid ((ps.take i).any (λ p=> !p.CN)=false)) (λ iv _=>ps.length - (intOf iv).toNat)
 case atStart=>exact⟨0,ag,rfl,af (dp),af rfl⟩
 case round=>
  obtain⟨i,hi,rfl,hw,hc⟩:=hrel
  by_cases bg:i<ps.length
  ·obtain⟨p,hp⟩:∃p,ps[i]? =some p:=⟨ps[i],by simp[bg]⟩
   obtain⟨B,o,rfl⟩:=HP.O.row.some_ ag
   have hg:=(HP.O.row.below hw.O).get hp
   have gy:(i:Int)<(ps.length:Int):=ag
   have rj:(i:Int)<=1000:=ag
   have HE:=af (CO p wr)
   obtain⟨pc,AJ⟩:=aK p.cells
   have wH:pc.length=11:=by rw[AJ];exact p.len
   rw[<-AJ]at hg HE
   obtain⟨v0,v1,v2,v3,v4,v5,v6,v7,v8,v9,v10,hv⟩:∃v0 v1 v2 v3 v4 v5 v6 v7 v8 v9 v10,pc=[v0,v1,v2,v3,v4,v5,v6,v7,v8,v9,v10]:=by
    match pc,wH with
    |[v0,v1,v2,v3,v4,v5,v6,v7,v8,v9,v10],_=>exact⟨_,_,_,_,_,_,_,_,_,_,_,rfl⟩
   rw[hv]at hg HE
   simp only[List.toArray]at HE
   have HPI:=af hp
   clear hp AJ wH hv
   cases hk:p.CN
   ·rw[hk]at HE
    have HT:Hid (ps.any (λ p=> !p.CN)=true):=af (List.any_eq_true.2 ⟨p,List.mem_of_getElem? HPI.O,by rw[hk];rfl⟩)
    clear hk
    go_wp2_with first
     |(refine bh 287 ?_)
     |((with_reducible refine HE.O.mono ?_);rintro e w3 ⟨rfl,aL⟩
       have bA:=af (hw.O.T (aL.mono hw.O.size))
       clear aL)
     |fail
    go_ret
    exact⟨(i:Int),rfl,by rw[HT.O];simp,bA.O⟩
   ·rw[hk]at HE
    have HT:Hid ((ps.take (i+1)).any (λ p=> !p.CN)=false):=af (by rw[List.take_add_one,HPI.O,List.any_append,hc.O];simp[hk])
    clear hk
    go_wp2_with first
     |(refine bh 287 ?_)
     |((with_reducible refine HE.O.mono ?_);rintro e w3 ⟨rfl,aL⟩
       have bA:=af (hw.O.T (aL.mono hw.O.size))
       clear aL)
     |fail
    exact⟨⟨i+1,ag,by simp,bA,HT⟩,by simp[intOf];omega⟩
  ·have HT:Hid (ps.any (λ p=> !p.CN)=false):=af (by have h:=hc.O;rw[List.take_of_length_le ag]at h;exact h)
   have gy:¬ (i:Int)<(ps.length:Int):=ag
   go_wp2_with fail
   go_ret
   exact⟨-1,rfl,by rw[HT.O];rfl,hw.O⟩
theorem CP{ps:List (Pc an)}(c:Nat)(hP:bU lC w a c ps)(hl:ps.length<=1000):
 Calls Tryz.prog 182 (UT a ps.length c (.func (.func 183) #[] #[])) w λ e w'=>e= .returned (.bool (ps.any (λ p=> !p.CN)))/\Below w w w':=by
 have HE:=af (LF c hP hl)
 clear hP hl
 obtain⟨q,hq⟩:=aK (ps.any (λ p=> !p.CN))
 rw[<-hq]at HE⊢
 clear hq
 go_enter Tryz.func182,Tryz.ntmps182
 go_wp2_with first
  |((with_reducible refine HE.O.mono ?_);rintro e w3 ⟨i,rfl,hi,aL⟩
    have HR:=cj hi aL
    clear hi aL)
  |fail
 go_ret
 exact⟨by rw[<-HR.O.1];rfl,HR.O.2⟩
end
end Go.Proofs.YtkgapncajjafoaaGreatDoor

/- The store, part 20. -/
import Derived.Test.YtkgapncajjafoaaGreatDoorMAa
import Derived.Test.YtkgapncajjafoaaGreatDoorMAs
import Derived.Test.YtkgapncajjafoaaGreatDoorMAj
import Derived.Test.YtkgapncajjafoaaGreatDoorMAh
import Derived.Test.YtkgapncajjafoaaGreatDoorMAk
import Derived.Test.YtkgapncajjafoaaGreatDoorMAi
import Derived.Test.YtkgapncajjafoaaGreatDoorMAr
set_option linter.unusedSimpArgs false
set_option linter.unusedVariables false
set_option maxRecDepth 100000
set_option maxHeartbeats 16000000
namespace Go.Proofs.YtkgapncajjafoaaGreatDoor
open Go.RowKit Go.Shelf
variable{W w V:World}{B c cf a1 d1 c1 a2 d2 c2 q n N D n₀ k:Nat}{a b:Option Addr}{ps:List Piece}{es:List aG}{bX:Int}{u v x:Value}{tok:ByteArray}
section
attribute [local go_sem] Oper.semAt_some
attribute [-go_sem] Builtin.append_
theorem F0{xs:List Nat}{u:Nat}{q:Option Addr}{t:TypeId}(h:ai W a xs)(hl:1<=xs.length)(hB:Boxed W B t (.slice q u c))(hr:rowOf B W=none):∀p,a=some p->Safe (λ _=>False) B W p.block:=by
 intro p hp
 refine⟨id, λ e=>?_,by rw[hr];simp⟩
 rcases h.2 with h0|⟨C,o,h0,hc⟩
 ·rw[h0]at hl;simp at hl
 ·obtain⟨x,hx⟩:∃x,xs[0]? =some x:=⟨_,List.getElem?_eq_getElem ag⟩
  have h1:=hc 0 x hx
  rw[hp]at h0
  cases h0
  simp only at e
  subst e
  rw[World.cell?,show W.heap[C]? =_ from hB]at h1
  cases o with
  |zero=>simp at h1
  |succ o=>simp at h1
theorem IK{w0:World}(hF:au w0 b cf ps)(hm:Marks (al ps))(hC:cB (al ps) a1 d1 c1 a2 d2 c2 q es)(hn:n+1<18446744073709551616)(mY:1<=bX)(B Bs Bn Bm:Nat)(w:World)(nh:Below w0 w0 w)
 (hS:CY w Bs b ps.length cf a1 d1 c1 a2 d2 c2 q)(hN:w.heap[Bn]? =some (.cells (vS n) 22))(hM:w.heap[Bm]? =some (.cells (qV bX) 3))(bS:Bs≠B/\Bn≠B/\Bm≠B)(hB:Boxed w B 44 (.slice none 0 0)):
 Gx Tryz.prog 40 (xa (zp Bs) (zp Bn) (zp Bm)) (λ x=>(np (.agg (se x.s (aU x.id) x.g x.m x.del)))) (Lets w0 (λ _=>False) B) (λ _=>False) (λ _=>True) (eS es n bX) w:=by
 intro m l J Jx W hm3 kN hJ Nf hY h0
 have Nl:Below w0 w0 W:=nh.T (kN.mono nh.size)
 have MV:w0.heap.size<=W.heap.size:=Nl.size
 have TY:CY W Bs b ps.length cf a1 d1 c1 a2 d2 c2 q:=(kN.block _ (aX hS).1).T hS
 have hNW:=(kN.block _ (aX hN).1).T hN
 have hMW:=(kN.block _ (aX hM).1).T hM
 have Sa:Boxed W B 44 (.slice none 0 0):=(kN.block _ hB.lt).T hB
 have Kl:∀x∈es,x.s<18446744073709551616:= λ x hx=>(hC.ok x hx).Ta
 have e1:((n+1:Nat):Int)=(n:Int)+1:=ag
 have Ys:=zj (n+1) hn W.drew
 rw[e1]at Ys
 have Ys:=af Ys
 have pH:Hid (∀(V:World) (fg fk:Nat),Below W W V->ai V (zp fg) (e8 (n+1))->Calls Tryz.prog 38 #[aE b ps.length cf,cM a2 d2 c2,.agg #[.slice (zp fg) 8 fk,.bool false,.slice none 0 0],.bool false,.int .i64 bX] V λ e w'=>∃(ys:List an) (a:Option Addr) (k:Nat),e= .returned (.tuple (BH a ys.length k))/\ys.map eC=(eS es n bX).map iP/\Cw w' V.heap.size a k ys/\Below W W w'):=af λ V fg fk hV Xr=>by
  have h:=nN (l:=LV (zp fg) (n+1) fk) (hF.below (Nl.T (hV.mono MV))) hm hC.Lo ⟨Xr,ai.nil _ _⟩ bX (.inr mY) (by rw[List.length_map];have:=hC.many;omega)
  rw[LW Kl hn _ _ _ mY]at h
  unfold jH.v LV at h
  simp only[dC,List.length_nil]at h
  exact h.mono λ e w' ⟨ys,a,k,h1,h2,h3,h4⟩=>⟨ys,a,k,h1,h2,h3,hV.T (h4.mono hV.size)⟩
 have HR:Hid (∀(V:World) (x:aG),Below w0 w0 V->CY V Bs b ps.length cf a1 d1 c1 a2 d2 c2 q->x∈es->∀(ka:Option Addr) (kc:Nat),ai V ka x.id->x.id.length<=kc->∀m,CallsIn Fence.wide m Tryz.prog 41 (UI ka x.id.length kc (zp Bs)) V λ e w'=>e= .returned (.tuple (np (.agg (qW x.g x.m x.s x.del x.at_))))/\Below V V w'):=af λ V x hV hs hx ka kc hk zt m=>callsIn_wide.2 (PL hs (hF.below hV) hm hC hx hk zt)
 have TU:=af (λ x (hx:x∈es)=>rK (hC.ok x hx).id)
 have RN:=af (λ x (hx:x∈eS es n bX)=>(FH x hx).1)
 have hlen:(eS es n bX).length<=32:=by
  unfold eS
  rw[List.length_take]
  have:=List.length_filter_le (λ x:aG=>decide (n<x.s)) es
  have:=hC.many
  omega
 have HFS:Hid (∀V,Below W W V->V.cell? (za Bs 0)=some (.slice none 0 0)/\V.cell? (za Bs 1)=some (.slice b ps.length cf)/\V.cell? (za Bs 2)=some (.int .i64 (-1))/\V.cell? (za Bs 3)=some (.int .i64 (-1))/\V.cell? (za Bs 4)=some (.bool false)/\V.cell? (za Bs 13)=some (.int .i64 (a2:Int))/\V.cell? (za Bs 14)=some (.int .i64 (d2:Int))/\V.cell? (za Bs 15)=some (.int .i64 (c2:Int))/\V.cell? (za Bs 16)=some (.int .i64 0)/\V.cell? (za Bs 17)=some (.int .i64 0)/\V.cell? (za Bs 18)=some (.int .u64 0)/\V.cell? (za Bs 19)=some (.int .i64 0)/\V.cell? (za Bs 20)=some (.int .i64 0)/\V.cell? (za Bn 0)=some (.int .u64 (n:Int))/\V.cell? (za Bm 0)=some (.int .i64 bX)):=af λ V hV=>by
  have h:V.heap[Bs]? =_:=(hV.block _ (aX TY).1).T TY
  exact⟨(aa h 0).T rfl,(aa h 1).T rfl,(aa h 2).T rfl,(aa h 3).T rfl,(aa h 4).T rfl,(aa h 13).T rfl,(aa h 14).T rfl,(aa h 15).T rfl,(aa h 16).T rfl,(aa h 17).T rfl,(aa h 18).T rfl,(aa h 19).T rfl,(aa h 20).T rfl,aJ ((hV.block _ (aX hNW).1).T hNW),aJ ((hV.block _ (aX hMW).1).T hMW)⟩
 have oG:=af TY
 have Ni:=af Sa
 have Ve:=af MV
 have Gy:=af Nl
 have uk:=af bS
 have HJ:=af hJ
 have HY:=af hY
 have H0:=af h0
 have TZ:=af hlen
 obtain⟨ds,Gc⟩:=aK (eS es n bX)
 rw[<-Gc]at pH RN TZ HY⊢
 have Fg:IntKind.u64.wrap ((n:Int)+1)=(n:Int)+1:=by rw[IntKind.wrap_u64];omega
 obtain⟨f0,f1,f2,f3,f4,f5,f6,f7,f8,f9,f10,f11,f12,g0,g1⟩:=HFS.O W.drew (Below.refl _ W).drew
 unfold aE cM at pH
 clear hF hm hC hS hN hM hB kN hJ Nf hY h0 Nl MV TY hNW hMW Sa Kl e1 nh hlen Gc hn mY bS
 refine callsIn_of_wp Tryz.func40 rfl trivial ?_ rfl
 simp only[Tryz.ntmps40,zEn,Nat.reduceAdd,Nat.reduceSub]
 gi_wp2_with fail
 refine wpIn_wide.2 ?_
 refine bP 16 ?_
 refine tP [0,1,2,3,4,5,6,9] ?_
 iterate 8 refine IA ?_
 refine ah 8 rfl ?_
 refine sP 7 [5,6] λ K hK=>?_
 go_simp
 (with_reducible refine Ys.O.mono ?_);rintro e w2 ⟨fg,fk,rfl,Xr,iL⟩;have aC:=((Below.refl _ W).drew).T iL;have HT2:=af (pH.O w2 fg fk aC Xr);have Qw:=af (HFS.O w2 aC);clear f0 f1 f2 f3 f4 f5 f6 f7 f8 f9 f10 f11 f12 g0 g1 aC iL Xr;obtain⟨f0,f1,f2,f3,f4,f5,f6,f7,f8,f9,f10,f11,f12,g0,g1⟩:=Qw.O
 refine nP hK ?_
 clear hK K
 refine tP [8] ?_
 refine IA ?_
 refine ah 6 rfl ?_
 refine sP 10 [0,1,2,3,4,5,6,7,8,9] λ K hK=>?_
 go_simp
 (with_reducible refine HT2.O.mono ?_);rintro e w3 ⟨ys,a,k,rfl,xF,ax,aL⟩;have bA:Hid (Below W W w3):=af aL;have qJ:=af xF;have yc:=af ax;clear aL xF ax
 refine nP hK ?_
 clear hK K
 refine tP [11,12,13,14,15] ?_
 iterate 5 refine IA ?_
 refine ah 0 rfl ?_
 refine dP ?_
 go_simp
 clear f0 f1 f2 f3 f4 f5 f6 f7 f8 f9 f10 f11 f12 g0 g1
 have r6:ys.length=ds.length:=by have:=congrArg List.length qJ.O;simpa using this
 have HYL:=af r6
 obtain⟨L,hL⟩:=aK ys.length
 have HL:=af hL
 rw[<-hL]
 have sk:(L:Int)<=1000:=aM TZ.O
 have DD:Hid (J [] w3):=af (HJ.O _ _ _ H0.O (dz.aA bA.O))
 have E1:Hid (Boxed w3 B 44 (.slice none 0 0)):=af ((bA.O.block _ Ni.O.lt).T Ni.O)
 have X4:Hid (rowOf B w3=none):=af (mF E1.O)
 have um:Hid (CY w3 Bs b ps.length cf a1 d1 c1 a2 d2 c2 q):=af ((bA.O.block _ (aX oG.O).1).T oG.O)
 clear r6 hL H0
 gi_wp2_with fail
 gi_loopw [35] (λ iv wr=>∃(i:Nat),iv= .int .i64 (i:Int)/\i<=L/\Hid (J (ds.take i) wr/\Lets w0 (λ _=>False) B w3 wr)) (λ iv _=>L - (intOf iv).toNat)
 case atStart=>exact⟨0,rfl,Nat.zero_le _,af ⟨DD.O,Lets.refl _ _ _ _⟩⟩
 case round=>
  obtain⟨i,rfl,hiL,An⟩:=hrel
  by_cases vf:i<L
  ·obtain⟨y,hy⟩:∃y,ys[i]? =some y:=⟨_,List.getElem?_eq_getElem (aM HL.O)⟩
   obtain⟨x,hx⟩:∃x,ds[i]? =some x:=⟨_,List.getElem?_eq_getElem (cG HL.O HYL.O)⟩
   have CG:eC y=iP x:=by
    have h1:=congrArg (λ l=>l[i]?) qJ.O
    simp only[List.getElem?_map,hy,hx,Option.map_some,Option.some.injEq]at h1
    exact h1
   have e2:y.val=x.id:=congrArg Prod.snd CG
   have qw:y∈ys:=List.mem_of_getElem? hy
   have Cq:x∈es:=RN.O x (List.mem_of_getElem? hx)
   have rX:=yc.O.2 y qw
   have OL:ai w3 y.va x.id:=by rw[<-e2];exact rX.1.2
   have uI:y.vc=x.id.length:=by rw[rX.2,e2]
   have abu:=(TU.O x Cq).1
   obtain⟨R,cur,rfl,hR3⟩:∃R cur,a=some ⟨R,0,none⟩/\w3.heap[R]? =some (.cells cur 114 (0,0)):=by
    rcases ay yc.O.1 with⟨_,h,_⟩|⟨R,cur,h,_,hg⟩
    ·have:=HL.O;omega
    ·exact⟨R,cur,h,hg⟩
   have kL:(w3.cell? ⟨R,i*4,none⟩=some (.slice y.ka y.key.length y.kc)/\w3.cell? ⟨R,i*4+1,none⟩=some (.slice y.va y.val.length y.vc)/\w3.cell? ⟨R,i*4+2,none⟩=some (.bool false)/\w3.cell? ⟨R,i*4+3,none⟩=some (.int .i64 0)):=by
    rcases yc.O.at.1 with h0|⟨R',oo,e,hc⟩
    ·rw[h0]at qw;cases qw
    ·cases e
     have:=hc i y hy
     simp only[Nat.zero_add]at this
     exact this
   have hRB:R≠B:= λ e=>by
    have hb:=E1.O
    rw[e]at hR3
    rw[Boxed,hR3]at hb
    injection hb with hb;injection hb with _ hb _
    exact absurd hb bd
   have hsf:Safe (λ _=>False) B w3 R:=⟨id,hRB,by rw[X4.O];simp⟩
   rw[uI,e2]at kL
   obtain⟨va,Ls⟩:=aK y.va
   obtain⟨vc,acN⟩:=aK x.id.length
   have ng:x.id.length<=vc:=ag
   have Ml:=kL
   rw[<-Ls]at kL OL
   have Lu:wr.rangeAt R (i*4) (dv y.ka y.key.length y.kc va x.id.length x.id.length):= λ j v hv=>by
    rcases j with _|_|_|_|j
    ·cases hv;exact An.O.2.mG hsf kL.1
    ·cases hv;exact An.O.2.mG hsf kL.2.1
    ·cases hv;exact An.O.2.mG hsf kL.2.2.1
    ·cases hv;exact An.O.2.mG hsf kL.2.2.2
    ·simp at hv
   have hvr:ai wr va x.id:=OL.safe An.O.2 (F0 OL abu E1.O X4.O)
   have JI:CY wr Bs b ps.length cf a1 d1 c1 a2 d2 c2 q:=An.O.2.ft ⟨id,uk.O.1,by rw[X4.O];simp⟩ um.O
   obtain⟨wx,oH⟩:=aK (wr.alloc (.cells (dv y.ka y.key.length y.kc va x.id.length x.id.length) 114))
   have ey:Below wr wr wx:=by rw[oH];go_grown
   have qz:wx.heap[wr.heap.size]? =some (.cells (dv y.ka y.key.length y.kc va x.id.length x.id.length) 114):=jJ oH
   have hsx:wx.heap.size=wr.heap.size+1:=by rw[oH];simp
   have CH:Below w0 w0 wr:=Gy.O.T ((bA.O.mono Ve.O).T An.O.2.below)
   have hRD:=af (HR.O wx x (CH.T (ey.mono CH.size)) ((ey.block _ (aX JI).1).T JI) Cq va x.id.length (hvr.below ey) (aW))
   have x1:=(aa qz 1).T rfl
   simp only[aD]at x1
   rw[oH]at x1
   have Ga:=af oH
   have hBr:B<wr.heap.size:=Nat.lt_of_lt_of_le E1.O.lt An.O.2.below.size
   have mQ:=XE ey CH.size hBr qz hsx (hvr.below ey)
   have AY:ds.take i++[x]=ds.take (i+1):=by rw[List.take_add_one,hx];rfl
   have aaJ:(i:Int)<(L:Int):=ag
   have JA:=af AY
   clear hy hx CG e2 qw Cq rX OL uI abu hR3 kL hRB hsf Ls acN ng Ml hvr JI oH ey qz hsx CH hBr AY
   gi_wp2_with first
    |(refine fE rfl 114 _ rfl _ _ rfl _ _ UB Tryz.underlying114 rfl aO ?_)
    |(refine iy 114 rfl _ _ rfl _ _ _ rfl aR rfl (by rfl) aO (by simp[Value.oneCell']) ?_)
    |(refine fE rfl 54 _ rfl _ _ rfl _ _ UB Tryz.underlying54 rfl aO ?_)
    |(refine iy 104 rfl _ _ rfl _ _ _ rfl aR rfl (by rfl) aO (by simp[Value.oneCell']) ?_)
    |((refine⟨True.intro, λ _=>ag,?_⟩);rw[<-Ga.O];(with_reducible refine(hRD.O _).mono ?_);rintro e w5 ⟨rfl,bJ⟩
      obtain⟨w6,zX⟩:=aK (w5.alloc (.cells (qW x.g x.m x.s x.del x.at_) 104))
      have fD:Below wx wx w6:=by rw[zX];exact bJ.alloc bJ.size _
      have hn6:w6.heap[w5.heap.size]? =some (.cells (qW x.g x.m x.s x.del x.at_) 104):=jJ zX
      have kD:=(fD.block wr (aM mQ.O.2.2.2.2.1)).T mQ.O.2.2.2.1
      clear x1
      have x1:=(aa kD 1).T rfl
      obtain⟨c0,c1',c2',c3',c4'⟩:=gF hn6
      simp only[aD]at x1
      have oM:w6.rangeAt w5 0 (cP x.g x.m):=bp (o:=0) [] (cP x.g x.m) [.int .u64 (x.s:Int),.bool x.del,.int .i64 (x.at_:Int)] (aj hn6)
      have Ml:=cy (c:=x.id.length) (mQ.O.2.2.2.2.2.below fD) rfl
      have rj:=HJ.O _ _ _ (HJ.O _ _ _ An.O.1 (dz.aA mQ.O.1)) (dz.aA fD)
      obtain⟨f1,t1,aa1,b1,lA,J8⟩:=HY.O (ds.take i) x w6 rj (by rw[JA.O];exact⟨ds.drop (i+1),List.take_append_drop _ _⟩)
      have jY:=af fD
      rw[zX]at x1 c2' c3' oM Ml lA J8
      have Uv:=af zX
      clear bJ zX fD hn6 kD c0 c1' c4' rj)
    |fail
   refine⟨λ _=>ag,J8.mono ?_⟩
   have HL6:=af (An.O.2.T ((Lets.aA (B:=B) (X:= λ _=>False) mQ.O.1 mQ.O.2.2.1 mQ.O.2.1).T (Lets.aA jY.O (aM mQ.O) (aM mQ.O))))
   rintro e w7 (⟨rfl,hj7,Mv⟩|⟨rfl,nc,Mv⟩)
   ·gi_wp2_with fail
    go_roundw
    case rel=>exact⟨i+1,by simp,ag,af ⟨by rw[<-JA.O];exact hj7,by rw[<-Uv.O]at Mv;exact HL6.O.T Mv⟩⟩
    case measure=>simp[intOf];omega
   ·gi_wp2_with fail
    refine bodyPost_ret (results_none rfl _ _ _) rfl ?_
    exact⟨⟨_,rfl⟩,.inr ⟨_,(by rw[JA.O];exact⟨ds.drop (i+1),List.take_append_drop _ _⟩),nc⟩,trivial⟩
  ·obtain rfl:i=L:=ag
   have HE:Hid (J ds wr):=af (by have:=An.O.1;rwa [List.take_of_length_le (cG HL.O HYL.O)]at this)
   gi_wp2
   go_end0
   exact⟨⟨_,rfl⟩,.inl HE.O,trivial⟩
def kj(tok:ByteArray)(l:List aG):ByteArray:=match l.getLast? with|none=>tok|some x=>cX x.s
theorem tH{w1:World}{x1 x2 x3 x4 x5:Array Value}{t1 t2 t3 t4 t5:TypeId}(h:w1=((((w.alloc (.cells x1 t1)).alloc (.cells x2 t2)).alloc (.cells x3 t3)).alloc (.cells x4 t4)).alloc (.cells x5 t5)):
 w1.heap[w.heap.size]? =some (.cells x1 t1)/\w1.heap[w.heap.size+1]? =some (.cells x2 t2)/\w1.heap[w.heap.size+1+1]? =some (.cells x3 t3)/\w1.heap[w.heap.size+1+1+1]? =some (.cells x4 t4)/\w1.heap[w.heap.size+1+1+1+1]? =some (.cells x5 t5):=by
 obtain⟨v,hv⟩:=aK ((w.alloc (.cells x1 t1)).alloc (.cells x2 t2))
 have h2:=aS (w:=w) (w2:=v) (by rw[hv];exact dp)
 rw[<-hv]at h
 have hs:v.heap.size=w.heap.size+1+1:=by rw[hv];simp
 have h3:=eH (w:=v) (w2:=w1) (by rw[h];exact dp)
 have hb:Below v v w1:=by rw[h];go_grown
 rw[hs]at h3 hb
 exact⟨(hb.block _ ag).T h2.1,(hb.block _ ag).T h2.2,h3⟩
theorem uV{u' v' x':Value}(hn:w.heap.size<=N)(h0:V.heap[N]? =some (.cells #[u] 44))(h1:V.heap[N+1]? =some (.cells #[v] 9))(h2:V.heap[N+1+1]? =some (.cells #[x] 24))(hb:Below w w V):
 (V.cell? (za N 0)=some u/\V.frozen? ⟨N,0,none⟩=false)/\((V.setCell (za N 0) u').cell? (za (N+1) 0)=some v/\(V.setCell (za N 0) u').frozen? ⟨N+1,0,none⟩=false)/\
 (((V.setCell (za N 0) u').setCell (za (N+1) 0) v').cell? (za (N+1+1) 0)=some x/\((V.setCell (za N 0) u').setCell (za (N+1) 0) v').frozen? ⟨N+1+1,0,none⟩=false)/\
 Hid (∃V',V'=((V.setCell (za N 0) u').setCell (za (N+1) 0) v').setCell (za (N+1+1) 0) x'/\V'.heap[N]? =some (.cells #[u'] 44)/\V'.heap[N+1]? =some (.cells #[v'] 9)/\V'.heap[N+1+1]? =some (.cells #[x'] 24)/\Below w w V'/\(∀j,j≠N->j≠N+1->j≠N+1+1->V'.heap[j]? =V.heap[j]?)):=by
 have k1:(V.setCell (za N 0) u').heap[N+1]? =_:=(Below.heap_setCell V ⟨N,0,none⟩ u' (N+1) (show N+1≠N by omega)).T h1
 have k2:(V.setCell (za N 0) u').heap[N+1+1]? =_:=(Below.heap_setCell V ⟨N,0,none⟩ u' (N+1+1) (show N+1+1≠N by omega)).T h2
 have k0:(V.setCell (za N 0) u').heap[N]? =some (.cells #[u'] 44):=aq (j:=0) u' h0
 obtain⟨A,hA⟩:=aK (V.setCell (za N 0) u')
 have Ry:∀j,j≠N->A.heap[j]? =V.heap[j]? := λ j hj=>by rw[hA];exact Below.heap_setCell V ⟨N,0,none⟩ u' j hj
 have hAb:Below w w A:=by rw[hA];exact hb.setCell (p:=(za N 0)) hn _
 rw[<-hA]at k0 k1 k2⊢
 have j2:(A.setCell (za (N+1) 0) v').heap[N+1+1]? =_:=(Below.heap_setCell A ⟨N+1,0,none⟩ v' (N+1+1) (show N+1+1≠N+1 by omega)).T k2
 have j0:(A.setCell (za (N+1) 0) v').heap[N]? =_:=(Below.heap_setCell A ⟨N+1,0,none⟩ v' N (show N≠N+1 by omega)).T k0
 have j1:(A.setCell (za (N+1) 0) v').heap[N+1]? =some (.cells #[v'] 9):=aq (j:=0) v' k1
 obtain⟨B,hB⟩:=aK (A.setCell (za (N+1) 0) v')
 have hBo:∀j,j≠N+1->B.heap[j]? =A.heap[j]? := λ j hj=>by rw[hB];exact Below.heap_setCell A ⟨N+1,0,none⟩ v' j hj
 have hBb:Below w w B:=by rw[hB];exact hAb.setCell (p:=(za (N+1) 0)) (show w.heap.size<=N+1 by omega) _
 rw[<-hB]at j0 j1 j2⊢
 exact⟨⟨aJ h0,ak h0 0⟩,⟨aJ k1,ak k1 0⟩,⟨aJ j2,ak j2 0⟩,af ⟨_,rfl,(Below.heap_setCell B ⟨N+1+1,0,none⟩ x' N (show N≠N+1+1 by omega)).T j0,(Below.heap_setCell B ⟨N+1+1,0,none⟩ x' (N+1) (show N+1≠N+1+1 by omega)).T j1,aq (j:=0) x' j2,hBb.setCell (p:=(za (N+1+1) 0)) (show w.heap.size<=N+1+1 by omega) _,
  λ j h0 h1 h2=>(Below.heap_setCell B ⟨N+1+1,0,none⟩ x' j h2).T ((hBo j h1).T (Ry j h0))⟩⟩
theorem aeJ(hF:au w b cf ps)(hm:Marks (al ps))(hC:cB (al ps) a1 d1 c1 a2 d2 c2 q es)(hq:q<=1099511627776)(mY:bX<1):
 Calls Tryz.prog 15 #[aE b ps.length cf,cU a1 d1 c1 a2 d2 c2 q,.string tok,.int .i64 bX] w λ e w'=>e= .returned (.tuple #[.slice none 0 0,.string ⟨#[]⟩,.int .i64 2])/\Below w w w':=by
 obtain⟨w1,aH⟩:=aK (((((w.alloc (.cells (cK b ps.length cf) 37)).alloc (.cells (cw a1 d1 c1 a2 d2 c2 q) 43)).alloc (.cells oS 44)).alloc (.cells IS 9)).alloc (.cells mc 24))
 have aQ:Below w w w1:=by rw[aH];go_grown
 have bB:=tH aH
 have dm:w1.heap.size=w.heap.size+1+1+1+1+1:=by rw[aH];simp
 have fx:=aj bB.1
 have gR:=aj bB.2.1
 have Hi:=af (rL (hF.below aQ) hm hC hq)
 have H1:=cV aQ dm bB
 unfold aE cU at Hi
 unfold aE cU
 rw[aH]at fx gR Hi
 have kg:=af aH
 have zF:decide (bX<1)=true:=decide_eq_true mY
 clear hF hm hC hq aH aQ bB dm
 refine(callsIn_wide (n:=5)).1 ?_
 refine callsIn_of_wp_marks Tryz.func15 rfl trivial ?_ rfl
 simp only[Tryz.ntmps15,zEn,Nat.reduceAdd,Nat.reduceSub]
 refine wpIn_wide.2 ?_
 go_wp2_with first
  |(refine bh 37 ?_)
  |(refine bh 43 ?_)
  |((with_reducible refine Hi.O.mono ?_);rintro e w2 ⟨rfl,aC⟩
    rw[<-kg.O]at aC
    have H2:=J6 (H1.O.1.T (aC.mono H1.O.1.size)) ((aC.block _ (by rw[H1.O.2.1];omega)).T H1.O.2.2.1) ((aC.block _ (by rw[H1.O.2.1];omega)).T H1.O.2.2.2.1) ((aC.block _ (by rw[H1.O.2.1];omega)).T H1.O.2.2.2.2.1) ((aC.block _ (by rw[H1.O.2.1];omega)).T H1.O.2.2.2.2.2.1) ((aC.block _ (by rw[H1.O.2.1];omega)).T H1.O.2.2.2.2.2.2) (show w.heap.size+1+1+1+1+1<=w2.heap.size by have:=aC.size;have:=H1.O.2.1;omega)
    clear aC fx gR
    obtain⟨⟨p0,p1⟩,⟨p2,p3⟩,⟨p4,p5⟩,hP⟩:=uV (u':=.slice none 0 0) (v':=.string ⟨#[]⟩) (x':=.int .i64 2) (show w.heap.size<=w.heap.size+1+1 by omega) H2.O.2.2.2.1 H2.O.2.2.2.2.1 H2.O.2.2.2.2.2.1 H2.O.1)
  |fail
 obtain⟨V',e,r0,r1,r2,zV, -⟩:=hP.O
 rw[<-e]
 have z0:=aJ r0
 have z1:=aJ r1
 have z2:=aJ r2
 exact⟨_,by rw[lS rfl];go_simp,rfl,zV⟩
theorem IL(hF:au w b cf ps)(hm:Marks (al ps))(hC:cB (al ps) a1 d1 c1 a2 d2 c2 q es)(hq:q<=1099511627776)(ht:tok.size<=100)(hz:uU tok≠0)(mY:1<=bX):
 Calls Tryz.prog 15 #[aE b ps.length cf,cU a1 d1 c1 a2 d2 c2 q,.string tok,.int .i64 bX] w λ e w'=>e= .returned (.tuple YQ)/\Below w w w':=by
 obtain⟨w1,aH⟩:=aK (((((w.alloc (.cells (cK b ps.length cf) 37)).alloc (.cells (cw a1 d1 c1 a2 d2 c2 q) 43)).alloc (.cells oS 44)).alloc (.cells IS 9)).alloc (.cells mc 24))
 have aQ:Below w w w1:=by rw[aH];go_grown
 have bB:=tH aH
 have dm:w1.heap.size=w.heap.size+1+1+1+1+1:=by rw[aH];simp
 have fx:=aj bB.1
 have gR:=aj bB.2.1
 have Hi:=af (rL (hF.below aQ) hm hC hq)
 have H1:=cV aQ dm bB
 unfold aE cU at Hi
 unfold aE cU
 rw[aH]at fx gR Hi
 have kg:=af aH
 have zF:¬ bX<1:=ag
 have acO:decide (bX<1)=false:=decide_eq_false zF
 have HP:=af (λ V:World=>JZ ht V)
 rw[Th hz]at HP
 clear hF hm hC hq aH aQ bB dm ht hz mY
 refine(callsIn_wide (n:=5)).1 ?_
 refine callsIn_of_wp_marks Tryz.func15 rfl trivial ?_ rfl
 simp only[Tryz.ntmps15,zEn,Nat.reduceAdd,Nat.reduceSub]
 refine wpIn_wide.2 ?_
 go_wp2_with first
  |(refine bh 37 ?_)
  |(refine bh 43 ?_)
  |((with_reducible refine Hi.O.mono ?_);rintro e w2 ⟨rfl,aC⟩
    rw[<-kg.O]at aC
    have H2:=J6 (H1.O.1.T (aC.mono H1.O.1.size)) ((aC.block _ (by rw[H1.O.2.1];omega)).T H1.O.2.2.1) ((aC.block _ (by rw[H1.O.2.1];omega)).T H1.O.2.2.2.1) ((aC.block _ (by rw[H1.O.2.1];omega)).T H1.O.2.2.2.2.1) ((aC.block _ (by rw[H1.O.2.1];omega)).T H1.O.2.2.2.2.2.1) ((aC.block _ (by rw[H1.O.2.1];omega)).T H1.O.2.2.2.2.2.2) (show w.heap.size+1+1+1+1+1<=w2.heap.size by have:=aC.size;have:=H1.O.2.1;omega)
    clear aC fx gR)
  |((with_reducible refine(HP.O _).mono ?_);rintro e w3 ⟨rfl,aL⟩
    have H3:=J6 (H2.O.1.T (aL.mono H2.O.1.size)) ((aL.block _ (aM H2.O.2.2.2.2.2.2)).T H2.O.2.1) ((aL.block _ (aM H2.O.2.2.2.2.2.2)).T H2.O.2.2.1) ((aL.block _ (aM H2.O.2.2.2.2.2.2)).T H2.O.2.2.2.1) ((aL.block _ (aM H2.O.2.2.2.2.2.2)).T H2.O.2.2.2.2.1) ((aL.block _ (aM H2.O.2.2.2.2.2.2)).T H2.O.2.2.2.2.2.1) (show w.heap.size+1+1+1+1+1<=w3.heap.size by have:=aL.size;have:=H2.O.2.2.2.2.2.2;omega)
    have T6:=(aa H3.O.2.2.1 16).T rfl
    simp only[aD]at T6
    obtain⟨⟨p0,p1⟩,⟨p2,p3⟩,⟨p4,p5⟩,hP⟩:=uV (u':=.slice none 0 0) (v':=.string ⟨#[]⟩) (x':=.int .i64 310) (show w.heap.size<=w.heap.size+1+1 by omega) H3.O.2.2.2.1 H3.O.2.2.2.2.1 H3.O.2.2.2.2.2.1 H3.O.1
    clear aL)
  |fail
 obtain⟨V',e,r0,r1,r2,zV, -⟩:=hP.O
 rw[<-e]
 have z0:=aJ r0
 have z1:=aJ r1
 have z2:=aJ r2
 exact⟨_,by rw[lS rfl];go_simp,rfl,zV⟩
theorem aet(hF:au w b cf ps)(hm:Marks (al ps))(hC:cB (al ps) a1 d1 c1 a2 d2 c2 q es)(hq:q<=1099511627776)(ht:tok.size<=100)(hz:uU tok=0)(hnq:q<uT tok)(mY:1<=bX):
 Calls Tryz.prog 15 #[aE b ps.length cf,cU a1 d1 c1 a2 d2 c2 q,.string tok,.int .i64 bX] w λ e w'=>e= .returned (.tuple YQ)/\Below w w w':=by
 obtain⟨w1,aH⟩:=aK (((((w.alloc (.cells (cK b ps.length cf) 37)).alloc (.cells (cw a1 d1 c1 a2 d2 c2 q) 43)).alloc (.cells oS 44)).alloc (.cells IS 9)).alloc (.cells mc 24))
 have aQ:Below w w w1:=by rw[aH];go_grown
 have bB:=tH aH
 have dm:w1.heap.size=w.heap.size+1+1+1+1+1:=by rw[aH];simp
 have fx:=aj bB.1
 have gR:=aj bB.2.1
 have Hi:=af (rL (hF.below aQ) hm hC hq)
 have H1:=cV aQ dm bB
 unfold aE cU at Hi
 unfold aE cU
 rw[aH]at fx gR Hi
 have kg:=af aH
 have zF:¬ bX<1:=ag
 have acO:decide (bX<1)=false:=decide_eq_false zF
 have HP:=af (λ V:World=>JZ ht V)
 rw[hz]at HP
 have Ac:(q:Int)<(uT tok:Int):=ag
 have eU:decide ((q:Int)<(uT tok:Int))=true:=decide_eq_true Ac
 clear hF hm hC hq aH aQ bB dm ht hz mY hnq
 refine(callsIn_wide (n:=5)).1 ?_
 refine callsIn_of_wp_marks Tryz.func15 rfl trivial ?_ rfl
 simp only[Tryz.ntmps15,zEn,Nat.reduceAdd,Nat.reduceSub]
 refine wpIn_wide.2 ?_
 go_wp2_with first
  |(refine bh 37 ?_)
  |(refine bh 43 ?_)
  |((with_reducible refine Hi.O.mono ?_);rintro e w2 ⟨rfl,aC⟩
    rw[<-kg.O]at aC
    have H2:=J6 (H1.O.1.T (aC.mono H1.O.1.size)) ((aC.block _ (by rw[H1.O.2.1];omega)).T H1.O.2.2.1) ((aC.block _ (by rw[H1.O.2.1];omega)).T H1.O.2.2.2.1) ((aC.block _ (by rw[H1.O.2.1];omega)).T H1.O.2.2.2.2.1) ((aC.block _ (by rw[H1.O.2.1];omega)).T H1.O.2.2.2.2.2.1) ((aC.block _ (by rw[H1.O.2.1];omega)).T H1.O.2.2.2.2.2.2) (show w.heap.size+1+1+1+1+1<=w2.heap.size by have:=aC.size;have:=H1.O.2.1;omega)
    clear aC fx gR)
  |((with_reducible refine(HP.O _).mono ?_);rintro e w3 ⟨rfl,aL⟩
    have H3:=J6 (H2.O.1.T (aL.mono H2.O.1.size)) ((aL.block _ (aM H2.O.2.2.2.2.2.2)).T H2.O.2.1) ((aL.block _ (aM H2.O.2.2.2.2.2.2)).T H2.O.2.2.1) ((aL.block _ (aM H2.O.2.2.2.2.2.2)).T H2.O.2.2.2.1) ((aL.block _ (aM H2.O.2.2.2.2.2.2)).T H2.O.2.2.2.2.1) ((aL.block _ (aM H2.O.2.2.2.2.2.2)).T H2.O.2.2.2.2.2.1) (show w.heap.size+1+1+1+1+1<=w3.heap.size by have:=aL.size;have:=H2.O.2.2.2.2.2.2;omega)
    have T6:=(aa H3.O.2.2.1 16).T rfl
    simp only[aD]at T6
    obtain⟨⟨p0,p1⟩,⟨p2,p3⟩,⟨p4,p5⟩,hP⟩:=uV (u':=.slice none 0 0) (v':=.string ⟨#[]⟩) (x':=.int .i64 310) (show w.heap.size<=w.heap.size+1+1 by omega) H3.O.2.2.2.1 H3.O.2.2.2.2.1 H3.O.2.2.2.2.2.1 H3.O.1
    clear aL)
  |fail
 obtain⟨V',e,r0,r1,r2,zV, -⟩:=hP.O
 rw[<-e]
 have z0:=aJ r0
 have z1:=aJ r1
 have z2:=aJ r2
 exact⟨_,by rw[lS rfl];go_simp,rfl,zV⟩
theorem og{α:Type}(l:List α):l=[]\/∃pre x,l=pre++[x]:=by
 rcases List.eq_nil_or_concat l with h|⟨p,x,h⟩
 ·exact .inl h
 ·exact .inr ⟨p,x,by rw[h,List.concat_eq_append]⟩
structure F1(w W:World):Prop where
 r0:W.heap[w.heap.size+1+1]? =some (.cells oS 44)
 r1:W.heap[w.heap.size+1+1+1]? =some (.cells IS 9)
 r2:W.heap[w.heap.size+1+1+1+1]? =some (.cells mc 24)
 oJ:Below w w W
theorem F1.below(h:F1 w W)(hb:Below W W V):F1 w V:=
 ⟨(hb.block _ (aX h.r0).1).T h.r0,(hb.block _ (aX h.r1).1).T h.r1,(hb.block _ (aX h.r2).1).T h.r2,h.oJ.T (hb.mono h.oJ.size)⟩
theorem BF{xs:List Value}{o:Obj}(h:W.ownsRow n₀ 56 5 (.slice a k c) k xs)(h0:W.heap[N]? =some (.cells #[u] 44))(h1:W.heap[N+1]? =some (.cells #[v] 9))(h2:W.heap[N+1+1]? =some (.cells #[x] 24))(hD:W.heap[D]? =some (.deferred (some [])))(ho:∀j,j≠N->j≠N+1->j≠N+1+1->V.heap[j]? =W.heap[j]?):
 (V.putObj D o).ownsRow n₀ 56 5 (.slice a k c) k xs:=dx h λ g hg=>by
 rcases ay h with⟨h',_⟩|⟨g2,cur,h',_,eU⟩
 ·rw[hg]at h';cases h'
 ·rw[hg]at h';cases h'
  have e0:g≠N:= λ e=>by rw[e,h0]at eU;cases eU
  have e1:g≠N+1:= λ e=>by rw[e,h1]at eU;cases eU
  have e2:g≠N+1+1:= λ e=>by rw[e,h2]at eU;cases eU
  have e3:g≠D:= λ e=>by rw[e,hD]at eU;cases eU
  exact(World.putObj_heap_other e3).T (ho g e0 e1 e2)
structure Mf(w:World)(B:Nat)(pre:List aG)(W:World):Prop where
 row:∃a k,Boxed W B 44 (.slice a pre.length k)/\W.ownsRow w 56 5 (.slice a pre.length k) pre.length (pre.flatMap eQ)
 r0:W.heap[w.heap.size+1+1]? =some (.cells oS 44)
 r1:W.heap[w.heap.size+1+1+1]? =some (.cells IS 9)
 r2:W.heap[w.heap.size+1+1+1+1]? =some (.cells mc 24)
 oJ:Below w w W
theorem Mf.Oc{pre:List aG}{U:World}(h:Mf w B pre U)(hk:dz D (λ _=>False) U V)(hD:w.heap.size<=D):Mf w B pre V:=by
 obtain⟨a,k,h1,h2⟩:=h.row
 exact⟨⟨a,k,fW h1 hk id,sl h2 hk (λ _ _ h=>h)⟩,hk.bT _ _ h.r0 (.inr rfl) id,hk.bT _ _ h.r1 (.inr rfl) id,hk.bT _ _ h.r2 (.inr rfl) id,gJ h.oJ hk hD (λ _ _ h=>h) (aW)⟩
theorem zl(hF:au w b cf ps)(hm:Marks (al ps))(hC:cB (al ps) a1 d1 c1 a2 d2 c2 q es)(hq:q<=1099511627776)(ht:tok.size<=100)(hz:uU tok=0)(hn:uT tok=n)(hnq:n<=q)(mY:1<=bX):
 Calls Tryz.prog 15 #[aE b ps.length cf,cU a1 d1 c1 a2 d2 c2 q,.string tok,.int .i64 bX] w λ e w'=>∃(a:Option Addr) (k:Nat),e= .returned (.tuple (IT a (eS es n bX).length k (kj tok (eS es n bX))))/\w'.ownsRow w 56 5 (.slice a (eS es n bX).length k) (eS es n bX).length ((eS es n bX).flatMap eQ)/\Below w w w':=by
 obtain⟨w1,aH⟩:=aK (((((w.alloc (.cells (cK b ps.length cf) 37)).alloc (.cells (cw a1 d1 c1 a2 d2 c2 q) 43)).alloc (.cells oS 44)).alloc (.cells IS 9)).alloc (.cells mc 24))
 have aQ:Below w w w1:=by rw[aH];go_grown
 have bB:=tH aH
 have dm:w1.heap.size=w.heap.size+1+1+1+1+1:=by rw[aH];simp
 have fx:=aj bB.1
 have gR:=aj bB.2.1
 have Hi:=af (rL (hF.below aQ) hm hC hq)
 have H1:=cV aQ dm bB
 unfold aE cU at Hi
 unfold aE cU
 rw[aH]at fx gR Hi
 have kg:=af aH
 have zF:¬ bX<1:=ag
 have acO:decide (bX<1)=false:=decide_eq_false zF
 have HP:=af (λ V:World=>JZ ht V)
 rw[hz,hn]at HP
 have Ac:¬ (q:Int)<(n:Int):=ag
 have eU:decide ((q:Int)<(n:Int))=false:=decide_eq_false Ac
 have Cv:=af (λ (B Bs Bn Bm:Nat) (V:World) (hV:Below w w V) (hS:CY V Bs b ps.length cf a1 d1 c1 a2 d2 c2 q) (hN:V.heap[Bn]? =some (.cells (vS n) 22)) (hM:V.heap[Bm]? =some (.cells (qV bX) 3)) (bS:Bs≠B/\Bn≠B/\Bm≠B) (hB:Boxed V B 44 (.slice none 0 0))=>IK hF hm hC ag mY B Bs Bn Bm V hV hS hN hM bS hB)
 have hlen:(eS es n bX).length<=32:=by
  unfold eS
  rw[List.length_take]
  have:=List.length_filter_le (λ x:aG=>decide (n<x.s)) es
  have:=hC.many
  omega
 have TZ:=af hlen
 obtain⟨ds,Gc⟩:=aK (eS es n bX)
 rw[<-Gc]at Cv TZ⊢
 clear hF hm hC hq aH aQ bB dm ht hz hn hnq mY hlen Gc
 refine(callsIn_wide (n:=5)).1 ?_
 refine callsIn_of_wp_marks Tryz.func15 rfl trivial ?_ rfl
 simp only[Tryz.ntmps15,zEn,Nat.reduceAdd,Nat.reduceSub]
 refine wpIn_wide.2 ?_
 go_wp2_with first
  |(refine bh 37 ?_)
  |(refine bh 43 ?_)
  |((with_reducible refine Hi.O.mono ?_);rintro e w2 ⟨rfl,aC⟩
    rw[<-kg.O]at aC
    have H2:=J6 (H1.O.1.T (aC.mono H1.O.1.size)) ((aC.block _ (by rw[H1.O.2.1];omega)).T H1.O.2.2.1) ((aC.block _ (by rw[H1.O.2.1];omega)).T H1.O.2.2.2.1) ((aC.block _ (by rw[H1.O.2.1];omega)).T H1.O.2.2.2.2.1) ((aC.block _ (by rw[H1.O.2.1];omega)).T H1.O.2.2.2.2.2.1) ((aC.block _ (by rw[H1.O.2.1];omega)).T H1.O.2.2.2.2.2.2) (show w.heap.size+1+1+1+1+1<=w2.heap.size by have:=aC.size;have:=H1.O.2.1;omega)
    clear aC fx gR)
  |((with_reducible refine(HP.O _).mono ?_);rintro e w3 ⟨rfl,aL⟩
    have H3:=J6 (H2.O.1.T (aL.mono H2.O.1.size)) ((aL.block _ (aM H2.O.2.2.2.2.2.2)).T H2.O.2.1) ((aL.block _ (aM H2.O.2.2.2.2.2.2)).T H2.O.2.2.1) ((aL.block _ (aM H2.O.2.2.2.2.2.2)).T H2.O.2.2.2.1) ((aL.block _ (aM H2.O.2.2.2.2.2.2)).T H2.O.2.2.2.2.1) ((aL.block _ (aM H2.O.2.2.2.2.2.2)).T H2.O.2.2.2.2.2.1) (show w.heap.size+1+1+1+1+1<=w3.heap.size by have:=aL.size;have:=H2.O.2.2.2.2.2.2;omega)
    have T6:=(aa H3.O.2.2.1 16).T rfl
    simp only[aD]at T6
    obtain⟨w4,gA⟩:=aK (w3.alloc (.cells oS 44))
    have bH:Below w3 w3 w4:=by rw[gA];go_grown
    have uJ:=aj ((bH.block _ (aX H3.O.2.1).1).T H3.O.2.1)
    have OU:=aj ((bH.block _ (aX H3.O.2.2.1).1).T H3.O.2.2.1)
    have H4:=cj bH (show w4.heap[w3.heap.size]? =some (.cells oS 44)by rw[gA];exact World.alloc_heap_new _ _)
    rw[gA]at uJ OU
    have Ir:=af gA
    clear aL bH gA)
  |((with_reducible refine(FQ (w:=w3.alloc (.cells oS 44)) b ps.length cf a1 d1 c1 a2 d2 c2 q n bX).mono ?_);rintro e w5 ⟨rfl,eT⟩)
  |fail
 rw[<-eT]
 rw[<-Ir.O]at eT
 have Aw:w4.heap.size=w3.heap.size+1:=by rw[Ir.O];simp
 have bJ:Below w4 w4 w5:=by rw[eT];go_grown
 have jG:=eH (w2:=w5) (w:=w4) (by rw[eT];exact dp)
 have nb:w5.heap.size=w3.heap.size+1+1+1+1:=by rw[eT];simp[Aw]
 rw[Aw]at jG
 have key:∀(j:Nat) (o:Obj),w3.heap[j]? =some o->w5.heap[j]? =some o:= λ j o e=>by
  have h1:=(H4.O.1.block j (aX e).1).T e
  exact(bJ.block j (aX h1).1).T h1
 have Sb:Boxed w5 w3.heap.size 44 (.slice none 0 0):=(bJ.block _ ag).T H4.O.2
 have h05:Below w w w5:=H3.O.1.T ((H4.O.1.T (bJ.mono H4.O.1.size)).mono H3.O.1.size)
 have acP:=af (Cv.O w3.heap.size (w3.heap.size+1) (w3.heap.size+1+1) (w3.heap.size+1+1+1) w5 h05 jG.1 jG.2.1 jG.2.2 ag Sb).g
 have PG:=af (show Mf w w3.heap.size [] w5 from⟨⟨none,0,Sb,by simp,.inl ⟨rfl,rfl⟩⟩,key _ _ H3.O.2.2.2.1,key _ _ H3.O.2.2.2.2.1,key _ _ H3.O.2.2.2.2.2.1,h05⟩)
 have HG:=cV nb H3.O.2.2.2.2.2.2 h05.size
 clear Cv eT Aw bJ jG key Sb h05 nb uJ OU
 refine(wpIn_wide (n:=5)).1 ?_
 refine JB (n:=5) 15 16 ag rfl (enters_of Tryz.func40 aO rfl) acP.O (λ _ _ _ _ _=>trivial) Lets.T (lK (aM HG.O) (aM HG.O)) (λ _ h=>h.elim)
  (λ pre W=>Mf w w3.heap.size pre W) (λ _ _ _=>False) ?hI (λ _ _ _ _ h _=>h.elim) (λ _ _ _ _ _ _ _ _=>trivial) PG.O (λ x U=>U.alloc (.cells (se x.s (aU x.id) x.g x.m x.del) 56)) (λ x U=>(Below.refl _ U).alloc (aW) _) (λ x U h=>Lets.aA ((Below.refl _ U).alloc (aW) _) (aM HG.O) (aM HG.O)) ?assign ?body ?done (λ _ _ _ _ _ _ h _ _=>h.elim)
 case hI=>
  intro pre U V h hk
  exact h.Oc hk (aM HG.O)
 case assign=>
  intro l x W K hK
  gi_wp2_with first
   |(refine iy 56 rfl _ _ rfl _ _ _ rfl aR rfl (by rfl) aO (by simp[Value.oneCell']) ?_)
   |fail
  simpa using hK
 case body=>
  rintro l pre x U W hU dF iN R5 -
  obtain⟨g,hg⟩:=aK pre.length
  have Ac:g+1<=1000:=by have:=TZ.O;have:=R5.length_le;simp at this;omega
  have hD:=dF U.heap.size _ (World.alloc_heap_new U _) rfl
  obtain⟨a,k,ey,ax⟩:=iN.row
  obtain⟨g',c',wq,bt,f1,f2,GI,Jt,gk,Mj,Oa⟩:=rb (P:=Tryz.prog) 44 56 (.agg MG) 5 40 aO tE rfl bd bd (se x.s (aU x.id) x.g x.m x.del) rfl (by simp[Value.oneCell']) ey ax ag ag iN.oJ.size (aM HG.O) (λ _=>False)
  have mz:=(Oa _ (aX iN.r0).1 (aM HG.O) (gI ey ax iN.r0 bd)).2.T iN.r0
  have kO:=(Oa _ (aX iN.r1).1 (aM HG.O) (gI ey ax iN.r1 bd)).2.T iN.r1
  have Zm:=(Oa _ (aX iN.r2).1 (aM HG.O) (gI ey ax iN.r2 bd)).2.T iN.r2
  have m0:=ey.cell
  have C6:=aj hD
  have hlen:(pre++[x]).length=pre.length+1:=by simp
  have bq:pre.flatMap eQ++#[.int .u64 (x.s:Int),.string (aU x.id),.int .u32 (x.g:Int),.int .u32 (x.m:Int),.bool x.del].toList=(pre++[x]).flatMap eQ:=by simp[eQ]
  have eJ:=af (show KeepsFrom w5 W (wq.setCell (za w3 0) (.slice (zp g') (pre.length+1) c'))/\Lets w (λ _=>False) w3.heap.size W (wq.setCell (za w3 0) (.slice (zp g') (pre.length+1) c'))/\Mf w w3.heap.size (pre++[x]) (wq.setCell (za w3 0) (.slice (zp g') (pre.length+1) c'))from
   ⟨Mj.from _,gk,⟨⟨_,_,by rw[hlen];exact GI,by rw[hlen,<-bq];exact Jt⟩,mz,kO,Zm,iN.oJ.T gk.below⟩⟩)
  rw[<-hg]at bt m0 eJ
  have XL:(g:Int)<=1000:=ag
  clear ey ax GI Jt gk Mj Oa mz kO Zm hlen bq hD iN dF R5 hU hg Ac
  gi_wp2_with first
   |(refine fE rfl 56 _ rfl _ _ rfl _ _ UB Tryz.underlying56 rfl aO ?_)
   |fail
  exact eJ.O
 case done=>
  rintro D s W hD rfl iN - hK
  obtain⟨a,k,ey,ax⟩:=iN.row
  rcases og s with rfl|⟨pre,x,rfl⟩
  ·obtain⟨⟨p0,p1⟩,⟨p2,p3⟩,⟨p4,p5⟩,hP⟩:=uV (u':=.slice a 0 k) (v':=.string tok) (x':=.int .i64 0) (show w.heap.size<=w.heap.size+1+1 by omega) iN.r0 iN.r1 iN.r2 iN.oJ
   have m0:=ey.cell
   simp only[List.length_nil]at m0
   have iN:=F1.mk iN.r0 iN.r1 iN.r2 iN.oJ
   have HE:=jo ax hK hD iN
   clear iN ey ax hK hD
   go_wp2_with fail
   obtain⟨V',e,r0,r1,r2,zV,wG⟩:=hP.O
   rw[<-e]
   clear e
   have hKV:V'.heap[D]? =some (.deferred (some [])):=(wG D (cG HG.O HE.O.2.2.1) (cG HG.O HE.O.2.2.1) (cG HG.O HE.O.2.2.1)).T HE.O.2.1
   have GU:=HE.O.2.2.1
   have q0:(V'.putObj D (.deferred none)).heap[w.heap.size+1+1]? =some (.cells (jE a 0 k) 44):=(World.putObj_heap_other (aM HG.O)).T r0
   have z0:=aJ q0
   have q1:(V'.putObj D (.deferred none)).heap[w.heap.size+1+1+1]? =some (.cells #[.string tok] 9):=(World.putObj_heap_other (aM HG.O)).T r1
   have z1:=aJ q1
   have q2:(V'.putObj D (.deferred none)).heap[w.heap.size+1+1+1+1]? =some (.cells mc 24):=(World.putObj_heap_other (aM HG.O)).T r2
   have z2:=aJ q2
   have HZ:=af (show Below w w (V'.putObj D (.deferred none))from eG zV _ hKV (aM HG.O))
   have HR:=af (BF (o:=.deferred none) HE.O.1 HE.O.2.2.2.r0 HE.O.2.2.2.r1 HE.O.2.2.2.r2 HE.O.2.1 wG)
   clear q0 q1 q2 r0 r1 r2 zV wG GU
   refine⟨by simp,.inl ⟨_,_,rfl,run_takeDeferred hKV,?_⟩⟩
   refine⟨.tuple (IT a 0 k tok),by rw[lS rfl];go_simp,a,k,rfl,HR.O,HZ.O⟩
  ·obtain⟨g,hg⟩:=aK pre.length
   have su:(pre++[x]).length=g+1:=by rw[hg];simp
   have Rp:(g:Int)<=1000:=aM TZ.O
   obtain⟨R,rfl⟩:∃R,a=some ⟨R,0,none⟩:=by
    rcases ay ax with⟨_,h,_⟩|⟨R,_,h,_,_⟩
    ·omega
    ·exact⟨R,h⟩
   have Dj:=(bj.gX ax iG bd).get (j:=g) (x:=x) (by rw[hg];simp)
   simp only[Nat.zero_add]at Dj
   have c0:W.cell? ⟨R,g*5,none⟩=some (.int .u64 (x.s:Int)):=Dj 0 _ rfl
   have HT:=af (BE (n:=x.s) W)
   have hnt:kj tok (pre++[x])=cX x.s:=by unfold kj;simp
   have HNS:=cj su hnt
   rw[su]at ey ax
   have m0:=ey.cell
   have Hu:=BM ey ax hK hD iN
   have hdv:((g*5:Nat):Int)=(g:Int)*5:=ag
   clear ey ax Dj hK hD iN hnt hg su
   go_wp2_with first
    |((with_reducible refine HT.O.mono ?_);rintro e w8 ⟨rfl,qt⟩
      have ey:=(qt.block _ Hu.O.1.lt).T Hu.O.1
      have ax:=bO.row qt Hu.O.2.1
      have hK:=(qt.block _ (aX Hu.O.2.2.1).1).T Hu.O.2.2.1
      have hD:=Hu.O.2.2.2.1
      have iN:=F1.below ⟨Hu.O.2.2.2.2.r0,Hu.O.2.2.2.2.r1,Hu.O.2.2.2.2.r2,Hu.O.2.2.2.2.oJ⟩ qt
      clear m0 c0
      have m0:=aJ ey
      obtain⟨⟨p0,p1⟩,⟨p2,p3⟩,⟨p4,p5⟩,hP⟩:=uV (u':=.slice (zp R) (g+1) k) (v':=.string (cX x.s)) (x':=.int .i64 0) (show w.heap.size<=w.heap.size+1+1 by omega) iN.r0 iN.r1 iN.r2 iN.oJ
      have HE:=jo ax hK hD iN
      clear qt ey ax hK hD iN)
    |fail
   obtain⟨V',e,r0,r1,r2,zV,wG⟩:=hP.O
   rw[<-e]
   clear e
   have hKV:V'.heap[D]? =some (.deferred (some [])):=(wG D (cG HG.O HE.O.2.2.1) (cG HG.O HE.O.2.2.1) (cG HG.O HE.O.2.2.1)).T HE.O.2.1
   have GU:=HE.O.2.2.1
   have q0:(V'.putObj D (.deferred none)).heap[w.heap.size+1+1]? =some (.cells (jE (zp R) (g+1) k) 44):=(World.putObj_heap_other (aM HG.O)).T r0
   have z0:=aJ q0
   have q1:(V'.putObj D (.deferred none)).heap[w.heap.size+1+1+1]? =some (.cells #[.string (cX x.s)] 9):=(World.putObj_heap_other (aM HG.O)).T r1
   have z1:=aJ q1
   have q2:(V'.putObj D (.deferred none)).heap[w.heap.size+1+1+1+1]? =some (.cells mc 24):=(World.putObj_heap_other (aM HG.O)).T r2
   have z2:=aJ q2
   have HZ:=af (show Below w w (V'.putObj D (.deferred none))from eG zV _ hKV (aM HG.O))
   have HR:=af (BF (o:=.deferred none) HE.O.1 HE.O.2.2.2.r0 HE.O.2.2.2.r1 HE.O.2.2.2.r2 HE.O.2.1 wG)
   clear q0 q1 q2 r0 r1 r2 zV wG GU
   refine⟨by simp,.inl ⟨_,_,rfl,run_takeDeferred hKV,?_⟩⟩
   refine⟨.tuple (IT (zp R) (g+1) k (cX x.s)),by rw[lS rfl];go_simp,some ⟨R,0,none⟩,k,by rw[HNS.O.1,HNS.O.2],by rw[HNS.O.1];exact HR.O,HZ.O⟩
theorem iR.inv{l:List gr}{d:gr}{s':lG}(h:iR (l++[d]) s'):∃s,iR l s/\Step s s' d.id d.gone d.right:=by
 generalize e:l++[d]=m at h
 cases h with
 |nil=>simp at e
 |snoc h1 h2=>
  obtain⟨e1,e2⟩:=List.append_inj' e rfl
  cases e1;cases e2
  exact⟨_,h1,h2⟩
theorem iR.acQ{s:lG}(h:iR [] s):s=lG.zero:=by
 generalize e:([]:List gr)=m at h
 cases h with
 |nil=>rfl
 |snoc h1 h2=>simp at e
abbrev sA:ByteArray:=⟨#[97]⟩
abbrev sB:ByteArray:=⟨#[98]⟩
def zm:List gr:=[⟨sA,false,true,0⟩,⟨sB,false,true,0⟩,⟨sA,true,true,0⟩]
theorem Step.gp{s s':lG}{id:ByteArray}{gone right:Bool}(h:Step s s' id gone right)(hg:Good s.es id gone right):s'.q=s.q+1/\∃x:aG,x.id=dk id/\x.s=s'.q/\x.del=gone/\s'.es=ee s.es x:=by
 rcases h.2 with⟨_,h⟩|⟨h,_⟩
 ·exact h
 ·exact absurd hg h
theorem IM{s:lG}(h:iR zm s):s.q=3/\∃x y:aG,s.es=[x,y]/\x.id=[98]/\x.s=2/\y.id=[97]/\y.s=3/\y.del=true:=by
 obtain⟨s2,h2,t3⟩:=iR.inv (l:=[⟨sA,false,true,0⟩,⟨sB,false,true,0⟩]) h
 obtain⟨s1,h1,t2⟩:=iR.inv (l:=[⟨sA,false,true,0⟩]) h2
 obtain⟨s0,h0,t1⟩:=iR.inv (l:=[]) h1
 obtain rfl:=h0.acQ
 have iA:oR sA=0:=by decide
 have iB:oR sB=0:=by decide
 have tA:dk sA=[97]:=by decide
 have tB:dk sB=[98]:=by decide
 obtain⟨q1,x1,i1,n1,d1,e1⟩:=t1.gp ⟨iA,rfl,none,(λ x hx=>by cases hx),by rw[if_neg aR];exact .inr bd⟩
 have e1:s1.es=[x1]:=by rw[e1];rfl
 simp only[tA]at i1
 obtain⟨q2,x2,i2,n2,d2,e2⟩:=t2.gp ⟨iB,rfl,none,(λ x hx=>by
  rw[e1,List.mem_singleton]at hx
  rw[hx,i1];simp[tB]),by rw[if_neg aR,e1];exact .inr aR⟩
 simp only[tB]at i2
 have e2:s2.es=[x1,x2]:=by rw[e2,e1];simp[ee,i1,i2]
 obtain⟨q3,x3,i3,n3,d3,e3⟩:=t3.gp ⟨iA,rfl,some x1,⟨by rw[e2];simp,by rw[i1];exact tA.symm⟩,by rw[if_pos rfl];simp[bZ,d1]⟩
 simp only[tA]at i3
 have e3:s.es=[x2,x3]:=by rw[e3,e2];simp[ee,i1,i2,i3]
 have z:lG.zero.q=0:=rfl
 exact⟨ag,x2,x3,e3,i2,ag,i3,ag,d3⟩
theorem Ti:uU ⟨#[49]⟩≠0:=by
 intro h
 have h2:=(Xy h).2
 have hs:=congrArg ByteArray.size h2
 unfold cX at hs
 split at hs
 ·exact absurd hs bd
 ·have:(Xw (uT ⟨#[49]⟩) (mw (uT ⟨#[49]⟩)) (CZ (uT ⟨#[49]⟩))).size=mw (uT ⟨#[49]⟩)+9:=by
   show(na _ _++46::na _ 8).length=_
   simp[gP]
  rw[this]at hs
  have:(⟨#[49]⟩:ByteArray).size=1:=rfl
  omega
theorem J0:uT ⟨#[]⟩=0/\uU ⟨#[]⟩=0:=by
 have e:cX 0=⟨#[]⟩:=by unfold cX;rw[if_pos (.inr rfl)]
 have:=od (n:=0) bd
 rwa [e]at this
theorem Tj{a b:Nat}(ha:a<=1099511627776)(hb:b<=1099511627776)(h:cX a=cX b):a=b:=by
 rw[<-(od ha).1,<-(od hb).1,h]
theorem PU(h:W.heap[B]? =some (.cells (IU sA sB sA) 64)):bj BB 4 W (zp B) zm:=.inr ⟨B,0,rfl, λ j x hx=>by
 have h0:W.rangeAt B 0 (IU sA sB sA):=aj h
 rcases j with _|_|_|j
 ·cases hx;exact bp (o:=0) [] (MJ sA) [.string sB,.bool false,.bool true,.int .i64 0,.string sA,.bool true,.bool true,.int .i64 0] h0
 ·cases hx;exact bp (o:=0) (MJ sA) (MJ sB) [.string sA,.bool true,.bool true,.int .i64 0] h0
 ·cases hx;exact bp (o:=0) [.string sA,.bool false,.bool true,.int .i64 0,.string sB,.bool false,.bool true,.int .i64 0] [.string sA,.bool true,.bool true,.int .i64 0] [] h0
 ·simp[zm]at hx⟩
theorem BG{x:aG}(h:W.ownsRow n₀ 56 5 (.slice a 1 k) 1 ([x].flatMap eQ)):∃g,a=some ⟨g,0,none⟩/\W.cell? (za g 0)=some (.int .u64 (x.s:Int))/\W.cell? (za g 1)=some (.string (aU x.id))/\W.cell? (za g 4)=some (.bool x.del):=by
 obtain⟨g,rfl⟩:∃g,a=some ⟨g,0,none⟩:=by
  rcases ay h with⟨_,h,_⟩|⟨g,_,h,_⟩
  ·cases h
  ·exact⟨g,h⟩
 have hr:=(bj.gX h iG bd).get (j:=0) (x:=x) rfl
 simp only[Nat.zero_mul,Nat.add_zero]at hr
 obtain⟨h0,h1,_,_,h4⟩:=uP hr
 exact⟨g,rfl,h0,by simpa using h1,by simpa using h4⟩
theorem Mg(w:World):Calls Tryz.prog 9 #[] w λ e w'=>e= .returned (.bool true)/\Below w w w':=by
 obtain⟨w1,aH⟩:=aK (w.alloc (.cells (IU sA sB sA) 64))
 have aQ:Below w w w1:=by rw[aH];go_grown
 have dD:w1.heap[w.heap.size]? =some (.cells (IU sA sB sA) 64):=jJ aH
 have Fq:=af (BC (c:=3) (PU dD) bd bd (λ d hd=>by
  simp only[zm,List.mem_cons,List.not_mem_nil,or_false]at hd
  rcases hd with rfl|rfl|rfl<;>exact⟨by decide,by decide,by decide⟩))
 rw[show zm.length=3 from rfl,show zm.take 30=zm from rfl]at Fq
 have JA:Hid (∀V:World,Calls Tryz.prog 10 #[.int .u64 2199023255552] V λ e w'=>e= .returned (.tuple #[.string ⟨#[]⟩,.int .i64 2])/\Below V V w'):=af λ V=>FZ (n:=2199023255552) bd V
 have H1:=cj aQ aH
 rw[aH]at Fq
 clear aQ dD aH
 go_enter Tryz.func9,Tryz.ntmps9
 go_wp2_with first
  |((with_reducible refine Fq.O.mono ?_);rintro e w2 ⟨b,la,cf,ps,a1,d1,c1,a2,d2,c2,q,lc,es,rfl,hL,hA,hr,aC⟩
    rw[<-H1.O.2]at aC
    obtain⟨L,PJ⟩:=aK es.length
    rw[<-PJ]
    obtain⟨hq,x,y,he,bB,ek,lA,Gm,hy3⟩:=IM hL
    obtain⟨B,hB⟩:=aK w2.heap.size
    obtain⟨w3,cL⟩:=aK (w2.alloc (.cells (iI b ps.length cf a1 d1 c1 a2 d2 c2 q la L lc) 46))
    have aL:Below w2 w2 w3:=by rw[cL];go_grown
    have C1:w3.heap[B]? =some (.cells (iI b ps.length cf a1 d1 c1 a2 d2 c2 q la L lc) 46):=by rw[cL,hB];exact World.alloc_heap_new _ _
    have PV:w3.rangeAt B 0 (cK b ps.length cf):=bp (o:=0) [] (cK b ps.length cf) (uW a1 d1 c1 a2 d2 c2 q la L lc) (aj C1)
    have PX:w3.rangeAt B 5 (cw a1 d1 c1 a2 d2 c2 q):=bp (o:=0) (cK b ps.length cf) (cw a1 d1 c1 a2 d2 c2 q) [.slice la L lc] (aj C1)
    have wZ:=hA.below aL
    have ko:q<=1099511627776:=by have:q=3:=hq;omega
    have PH:es=[x,y]:=he
    have abv:eS es 0 1=[x]:=by rw[PH];simp[eS,ek,Gm]
    have abw:eS es 2 9=[y]:=by rw[PH];simp[eS,ek,Gm]
    have abx:kj ⟨#[]⟩ [x]=cX 2:=by simp[kj,ek]
    have aby:kj (cX 2) [y]=cX 3:=by simp[kj,Gm]
    have dm:=zl wZ.file wZ.marks wZ.oI ko (tok:=⟨#[]⟩) bd J0.2 (n:=0) J0.1 (Nat.zero_le _) (bX:=1) bd
    have fZ:= λ (V:World) (hV:Below w3 w3 V)=>zl (wZ.file.below hV) wZ.marks wZ.oI ko (tok:=cX 2) (aM (FW 2)) (od (n:=2) bd).2 (n:=2) (od (n:=2) bd).1 (by have:q=3:=hq;show 2<=q;omega) (bX:=9) bd
    have iU:= λ (V:World) (hV:Below w3 w3 V)=>IL (wZ.file.below hV) wZ.marks wZ.oI ko (tok:=⟨#[49]⟩) bd Ti (bX:=1) bd
    simp only at dm fZ iU
    rw[abv,abx]at dm
    simp only[abw,aby]at fZ
    simp only[List.length_cons,List.length_nil,Nat.zero_add]at dm fZ
    unfold aE cU at dm fZ iU
    rw[cL]at dm
    have Ty:=af dm
    have C4:=af fZ
    have um:=af iU
    clear dm fZ iU abv abw abx aby wZ ko PH
    have H3:=jo (hA.below aL) C1 (H1.O.1.T ((aC.T (aL.mono aC.size)).mono H1.O.1.size)) hB
    rw[cL,hB]at PV PX
    have mL:=af cL
    have HE:=J6 hq he bB ek lA Gm hy3
    clear hL hA hr aC PJ hq he bB ek lA Gm hy3 hB cL aL C1)
  |((with_reducible refine Ty.O.mono ?_);rintro e w4 ⟨a4,k4,rfl,o8,bH⟩
    rw[<-mL.O]at bH
    obtain⟨g4,rfl,z0,z1, -⟩:=BG o8
    rw[HE.O.2.2.2.1]at z0
    rw[HE.O.2.2.1,show aU [98]=sB from rfl]at z1
    have IN:=(bH.block _ (aX H3.O.2.1).1).T H3.O.2.1
    have PY:w4.rangeAt B 0 (cK b ps.length cf):=bp (o:=0) [] (cK b ps.length cf) (uW a1 d1 c1 a2 d2 c2 q la L lc) (aj IN)
    have PZ:w4.rangeAt B 5 (cw a1 d1 c1 a2 d2 c2 q):=bp (o:=0) (cK b ps.length cf) (cw a1 d1 c1 a2 d2 c2 q) [.slice la L lc] (aj IN)
    rw[H3.O.2.2.2]at PY PZ
    have H4:=af bH
    clear o8 bH IN PV PX)
  |((with_reducible refine(C4.O _ H4.O).mono ?_);rintro e w5 ⟨a5,k5,rfl,Uy,bJ⟩
    obtain⟨g5,rfl,y0,y1,y4⟩:=BG Uy
    rw[HE.O.2.2.2.2.2.1]at y0
    rw[HE.O.2.2.2.2.1,show aU [97]=sA from rfl]at y1
    rw[HE.O.2.2.2.2.2.2]at y4
    have H5:=jo (H4.O.T (bJ.mono H4.O.size)) y0 y1 y4
    have IP:=(H5.O.1.block _ (aX H3.O.2.1).1).T H3.O.2.1
    have P0:w5.rangeAt B 0 (cK b ps.length cf):=bp (o:=0) [] (cK b ps.length cf) (uW a1 d1 c1 a2 d2 c2 q la L lc) (aj IP)
    have P1:w5.rangeAt B 5 (cw a1 d1 c1 a2 d2 c2 q):=bp (o:=0) (cK b ps.length cf) (cw a1 d1 c1 a2 d2 c2 q) [.slice la L lc] (aj IP)
    rw[H3.O.2.2.2]at P0 P1
    clear Uy bJ IP PY PZ y0 y1 y4 z0 z1)
  |((with_reducible refine(um.O _ H5.O.1).mono ?_);rintro e w6 ⟨rfl,fD⟩
    have H6:=jo (H5.O.1.T (fD.mono H5.O.1.size)) (carry fD H5.O.2.1) (carry fD H5.O.2.2.1) (carry fD H5.O.2.2.2)
    clear fD P0 P1)
  |((with_reducible refine(JA.O _).mono ?_);rintro e w7 ⟨rfl,mv⟩
    have y0:=carry mv H6.O.2.1
    have y1:=carry mv H6.O.2.2.1
    have y4:=carry mv H6.O.2.2.2
    have rI:((cX 3).toList==(cX 2).toList)=false:=uQ (λ e=>absurd (Tj bd bd e) bd)
    have H7:=af (H3.O.2.2.1.T ((H6.O.1.T (mv.mono H6.O.1.size)).mono H3.O.2.2.1.size))
    clear mv)
  |(refine et 46 ?_)
  |(refine bh 37 ?_)
  |(refine bh 43 ?_)
  |fail
 go_ret
 exact⟨rfl,H7.O⟩
end
end Go.Proofs.YtkgapncajjafoaaGreatDoor

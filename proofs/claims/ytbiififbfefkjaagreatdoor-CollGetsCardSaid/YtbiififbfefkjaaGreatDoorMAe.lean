/- The store, part 5. -/
import Derived.Test.YtbiififbfefkjaaGreatDoorMAb
import Derived.Test.YtbiififbfefkjaaGreatDoorMAc
import Derived.Test.YtbiififbfefkjaaGreatDoorMAd
set_option linter.unusedSimpArgs false
set_option linter.unusedVariables false
set_option maxRecDepth 100000
set_option maxHeartbeats 16000000
namespace Go.Proofs.YtbiififbfefkjaaGreatDoor
open Go.RowKit Go.Shelf
variable{D n₀ B k e sz j c n o g R d m cc:Nat}{W W' w w' w0 w2:World}{xs ys bs vs:List Nat}{t ty:TypeId}{u a0 a1 a2 a3 a4 v0 v1 v2 v3 v4 a5 v5 v' x:Value}{P:Program}{ps:List Piece}{cs ds:Array Value}{p:Prop}{r:Bool}
section
attribute [local go_sem] Oper.semAt_some
attribute [-go_sem] Builtin.append_
theorem aad(p:List Nat)(h:p.length<=4096):(ft p)[0]? =some (p.length/256)/\(ft p)[1]? =some (p.length%256):=by
 constructor
 ·show some (p.length/256%256)=_;congr 1;omega
 ·rfl
theorem Lets.drew{n₀:Nat}{X:Nat->Prop}{B:Nat}{W W':World}(h:Lets n₀ X B W W'):Lets n₀ X B W W'.drew:=⟨h.below.drew,h.eG,h.row,h.lt⟩
theorem Fp(h:KeepsFrom D W W'):KeepsFrom D W W'.drew:=⟨h.size,h.same⟩
theorem qF{M:Nat->Prop}{a:az}(h:ay W a xs)(hk:iB D M W W')(hM:∀p,a=some p->¬ M p.block):ay W' a xs:=by
 refine⟨h.1,?_⟩;rcases h.2 with h0|⟨C,o,ha,hc⟩
 ·exact .inl h0
 ·exact .inr ⟨C,o,ha, λ j x hx=>hk.cell (p:=(za C (o+j))) (hc j x hx) (by have:=hM ⟨C,o,none⟩ ha;exact this)⟩
theorem ld(h:Below n₀ w W){l:Nat}{o:Obj}(o':Obj)(hl:W.heap[l]? =some o)(hn:n₀<=l):Below n₀ w (W.putObj l o'):=
 h.grown (grownBy_putObj' W l o') (by have:=(cS hl).1;omega) (λ k e=>by cases e;exact hn)
theorem pL{v:Value}(h:Boxed W B t v)(hk:B≠k):Boxed (W.setCell (za k 0) u) B t v:=h.kept (grownBy_setCell' W k u) (λ e=>hk (fp e))
theorem yp{a:az}{v:Value}{xs:List Value}(h:W.ownsRow n₀ e sz (.slice a j c) j xs)(hk:Boxed W k t u)(Iq:t≠e):(W.setCell (za k 0) v).ownsRow n₀ e sz (.slice a j c) j xs:=h.kept (grownBy_setCell' W k v) (.inr (kC hk Iq h).symm)
def qe(n k:Nat):Nat:=if k<6 then 6 else 6+n
theorem Je{q:Nat}(h:¬ q=5):qe n (q+1)=qe n q:=by unfold qe;by_cases h1:q<5<;>simp[show(q+1<6)↔q<5 by omega,show(q<6)↔q<5 by omega,h1]
theorem VO{c:Code}{K:Act->World->Prop}{Q:Exit->Act->World->Prop}{a:Act}(h:c.wp P (Exit.then K (λ _ _ _=>False)) a w):c.wp P (Exit.then K Q) a w:=
 wp_mono h λ e _ _ h=>by cases e<;>first|exact h|exact h.elim
theorem Kq{b:az}(h:aQ w b c ps)(hm:Marks (aw ps))(at_:Nat)(p:List Nat)(hr:iy (aw ps) at_ p):
 Calls Tryz.prog 129 #[bN b ps.length c,.int .i64 (at_:Int)] w λ e w'=>∃a k z,e= .returned (.tuple #[.slice a p.length k,.int .i64 z,.int .i64 0])/\p.length<=k/\eZ w a/\ay w' a p/\Below w w w':=by
 have HF:=ag h;have HM:=ag hm;have HR:=ag hr;have h1:= λ (w2:World) (hb:Below w w w2)=>mA (h.below hb);have H1:=ag h1;unfold bN at*;have H0:Hid (Below w w (w.alloc (.cells (fA b ps.length c) 31))):=ag bW;clear h hm hr h1;refine(callsIn_wide (n:=5)).1 ?_;refine callsIn_of_wp_marks Tryz.func129 rfl trivial ?_ rfl;simp only[Tryz.ntmps129,UD,Nat.reduceAdd,Nat.reduceSub];refine wpIn_wide.2 ?_;go_wp2
 go_step3
 go_wp2_with first
  |(with_reducible refine(H1.O _ H0.O).mono ?_;rintro e w2 ⟨rfl,bG⟩;have H3:=ag (H0.O.T (bG.mono H0.O.size));obtain⟨c0,c1,c2,c3,c4⟩:=vP bG;clear bG)
  |fail
 obtain⟨w5,kY⟩:=bL (((w2.alloc (.cells J6 28)).alloc (.cells #[.int .i64 6] 3)).alloc (.cells zl 3));rw[<-kY];obtain⟨B,hB⟩:=bL w2.heap.size;have s5:w5.heap.size=B+1+1+1:=by rw[kY,hB];simp
 have b8:Boxed w5 B 28 (.slice none 0 0):=by rw[kY,hB];exact((lp w2 _ _).alloc _).alloc _
 have b9:Boxed w5 (B+1) 3 (.int .i64 6):=by have:=(lp (w2.alloc (.cells J6 28)) 3 (.int .i64 6)).alloc (.cells zl 3);rw[kY,hB];rwa [bt]at this
 have b10:Boxed w5 (B+1+1) 3 (.int .i64 0):=by have:=lp ((w2.alloc (.cells J6 28)).alloc (.cells #[.int .i64 6] 3)) 3 (.int .i64 0);rw[kY,hB];rwa [bt,bt]at this
 have B5:Below w2 w2 w5:=by rw[kY];exact(((ah _ w2).alloc (cH) _).alloc cP _).alloc dU _
 replace c0:=carry B5 c0;replace c1:=carry B5 c1;replace c2:=carry B5 c2;replace c3:=carry B5 c3;replace c4:=carry B5 c4;have H5:=ag (H3.O.T (B5.mono H3.O.size));have hwB:w.heap.size<=B:=by rw[hB];exact H3.O.size
 have Hb:=eS b8 b9 b10;rw[<-hB];clear kY b8 b9 b10 B5 hB H3
 go_step3
 go_wp2_with first
  |(refine(Pp b ps.length c at_ _).mono ?_;rintro e w6 ⟨rfl,rfl⟩)
  |fail
 obtain⟨w6,Iv⟩:=bL ((w5.alloc (.cells (fA b ps.length c) 31)).alloc (.cells (Ih at_) 3));rw[<-Iv];have s6:w6.heap.size=B+1+1+1+1+1:=by rw[Iv];simp[s5]
 have H56:Below w5 w5 w6:=by rw[Iv];exact((ah _ w5).alloc (cH) _).alloc cP _
 obtain⟨b8,b9,b10⟩:Boxed w6 B 28 (.slice none 0 0)/\Boxed w6 (B+1) 3 (.int .i64 6)/\Boxed w6 (B+1+1) 3 (.int .i64 0):=by rw[Iv];exact⟨(Hb.O.1.alloc _).alloc _,(Hb.O.2.1.alloc _).alloc _,(Hb.O.2.2.alloc _).alloc _⟩
 have H6:=ag (H5.O.T (H56.mono H5.O.size));have C7:rowOf B w6=none:=yo b8;have sS:=Mu HF.O HM.O at_ HR.O.Fk HR.O.lt (λ k=>k=B+1\/k=B+1+1) B (B+1+1+1) (B+1+1+1+1) w6 H6.O
  (by rw[Iv,<-s5];exact(aT _ _ _ cP).T (ai w5 _))
  (by rw[Iv,<-s5];have:=ai (w5.alloc (.cells (fA b ps.length c) 31)) (.cells (Ih at_) 3);rwa [bt]at this)
  ⟨an,an,by rw[C7];simp⟩ ⟨an,an,by rw[C7];simp⟩ (λ k hk=>an) an (λ k hk=>by rw[C7]at hk;cases hk)
 obtain⟨n,hn⟩:=bL p.length;obtain⟨bs,hbs⟩:=bL (ft p);have Iw:bs.length=6+n:=by rw[hbs,hn,qM]
 have kH:1<=n:=by rw[hn];exact HR.O.1
 have pI:n<=4096:=by rw[hn];exact HR.O.2.1
 obtain⟨l8,j5⟩:=aad p HR.O.2.1;rw[<-hbs,<-hn]at l8 j5;obtain⟨more,VP⟩:=HR.O.behind;rw[<-hbs]at VP;have HMO:=ag VP;have O1:=ag hbs;have HN:=ag hn;have HZ:=dO l8 j5;have Hb6:=eS b8 b9 b10;have hD:B+1+1+1+1+1=w6.heap.size:=s6.symm;clear VP hbs hn l8 j5 b8 b9 b10 Iv H56 s5;refine(wpIn_wide (n:=5)).1 ?_;refine aac (n:=5) 11 12 an rfl (enters_of Tryz.func206 bU rfl) sS Lets.T (vU an an) (λ _ h=>h.elim)
  (λ pre W=>(∃a k,Boxed W B 28 (.slice a pre.length k)/\W.ownsRow w 5 1 (.slice a pre.length k) pre.length (bE (pre.map Prod.snd)))/\Boxed W (B+1) 3 (.int .i64 (qe n pre.length:Int))/\(∃z,Boxed W (B+1+1) 3 (.int .i64 z))/\Below w w W/\pre.length<6+n)
  (λ cd pre W=>cd= .exit 0/\pre.length=6+n/\(∃a k,Boxed W B 28 (.slice a pre.length k)/\W.ownsRow w 5 1 (.slice a pre.length k) pre.length (bE (pre.map Prod.snd)))/\Boxed W (B+1) 3 (.int .i64 (qe n pre.length:Int))/\(∃z,Boxed W (B+1+1) 3 (.int .i64 z))/\Below w w W)
  ?hI ?hIx (λ _ _ _ _ _ _ _ h=>h) ?h0 ?assign ?body ?done ?stop
 case hI=>
  rintro pre U V ⟨⟨a,k,h1,h2⟩,h3,⟨z,h4⟩,h5,h6⟩ hk;exact⟨⟨a,k,mL h1 hk id,Ep h2 hk (λ _ _ h=>h)⟩,mL h3 hk id,⟨z,mL h4 hk id⟩,ni h5 hk an (λ _ _ h=>h) (cH),h6⟩
 case hIx=>
  rintro cd pre U V ⟨h0,h6,⟨a,k,h1,h2⟩,h3,⟨z,h4⟩,h5⟩ hk;exact⟨h0,h6,⟨a,k,mL h1 hk id,Ep h2 hk (λ _ _ h=>h)⟩,mL h3 hk id,⟨z,mL h4 hk id⟩,ni h5 hk an (λ _ _ h=>h) (cH)⟩
 case h0=>exact⟨⟨none,0,Hb6.O.1,by simp[bE],.inl ⟨rfl,rfl⟩⟩,by simpa[qe]using Hb6.O.2.1,⟨0,Hb6.O.2.2⟩,H6.O,by simp;omega⟩
 case assign=>
  intro l x W K hK;gi_wp2;exact hK
 case body=>
  rintro l pre x W ⟨⟨a,k,h1,h2⟩,h3,⟨z,h4⟩,h5,h6⟩ mD;obtain⟨q,hq⟩:=bL pre.length;have Mx:bs.take (q+1)=(pre++[x]).map Prod.snd:=by obtain⟨r,hr⟩:=mD;have e:=congrArg (List.map Prod.snd) hr;rw[HMO.O,aJ]at e;have e2:=congrArg (List.take (q+1)) e;rw[df (by simp[hq]),df an,aY (by simp[hq])]at e2;exact e2.symm
  have hxq:bs[q]? =some x.2:=by
   have e3:(bs.take (q+1))[q]? =some x.2:=by rw[Mx,aJ,bJ (by simp[hq])];simp[hq]
   rwa [bB,if_pos an]at e3
  have Y4:bE (pre.map Prod.snd)++[Value.int .u8 (x.2:Int)]=bE ((pre++[x]).map Prod.snd):=by simp[bE]
  obtain⟨g',c',w1,eh,f1,f2,mM,bA,rl,hko,iU⟩:=Fo (P:=Tryz.prog) 28 5 (.int .u8 0) 1 1 bU Tryz.sU rfl de de (zk x.2) rfl bz h1 h2 an an h5.size hwB (λ k=>k=B+1\/k=B+1+1);have Kr:=tE h1 h2 h3 de;have acf:=tE h1 h2 h4 de;obtain⟨j9,k9⟩:=iU (B+1) h3.lt an Kr;obtain⟨j10,Rh⟩:=iU (B+1+1) h4.lt an acf;have h3':=k9.T h3;have h4':=Rh.T h4;have m1:=h1.cell;have m10:(w1.setCell (za B 0) (.slice (zp g') (pre.length+1) c')).cell? (za (B+1+1) 0)=some (.int .i64 z):=du h4';have m11:(w1.setCell (za B 0) (.slice (zp g') (pre.length+1) c')).frozen? ⟨B+1+1,0,none⟩=false:=fe h4';obtain⟨z',hz'⟩:∃z',z'=wrap64 ((x.1:Int)+1):=⟨_,rfl⟩;obtain⟨w3,gV⟩:=bL ((w1.setCell (za B 0) (.slice (zp g') (pre.length+1) c')).setCell (za (B+1+1) 0) (.int .i64 z'));have cu:Boxed w3 B 28 (.slice (zp g') (pre.length+1) c'):=by rw[gV];exact pL mM an
  have nL:w3.ownsRow w 5 1 (.slice (zp g') (pre.length+1) c') (pre.length+1) (bE ((pre++[x]).map Prod.snd)):=by rw[gV,<-Y4];exact yp bA h4' de
  have zL:Boxed w3 (B+1) 3 (.int .i64 (qe n pre.length:Int)):=by rw[gV];exact pL h3' an
  have yW:Boxed w3 (B+1+1) 3 (.int .i64 z'):=by rw[gV];exact gS _ h4'
  have pA:Lets w (λ k=>k=B+1\/k=B+1+1) B W w3:=by rw[gV];exact rl.T (Lets.setCell _ _ _ (.inr rfl) (by show B≠B+1+1;omega) (by show w.heap.size<=B+1+1;omega))
  have oN:KeepsOthers W w3:=by rw[gV];exact hko.T (gX _ _ _)
  have hlen:(pre++[x]).length=q+1:=by simp[hq]
  rw[<-hq]at cu nL zL gV eh m1 m10 m11;have n9:w1.cell? (za (B+1) 0)=some (.int .i64 (qe n q:Int)):=du (show Boxed w1 (B+1) 3 _ from hq▸j9.T h3);have n9f:w1.frozen? ⟨B+1,0,none⟩=false:=fe (show Boxed w1 (B+1) 3 _ from j9.T h3);have Y8:w1.cell? (za (B+1+1) 0)=some (.int .i64 z):=du (show Boxed w1 (B+1+1) 3 _ from j10.T h4);have aiU:w1.frozen? ⟨B+1+1,0,none⟩=false:=fe (show Boxed w1 (B+1+1) 3 _ from j10.T h4);have nE:=ag gV;have HZ':=ag hz';have HQ:=ag hq;have H3s:=Z0 cu nL zL yW pA oN hlen;have H5':=ag h5;by_cases h6q:q=5
  ·have h6b:((q:Int)+1==6)=true:=by rw[h6q];rfl
   obtain⟨l8,j5⟩:=HZ.O;have adg:=nL;have sk:=(dk (xs:=(pre++[x]).map Prod.snd) (by rw[<-hlen,<-aR (f:=Prod.snd)]at adg;exact adg) (λ y hy=>by
    have h9:=HR.O.2.2.1;have:y∈bs:=by rw[<-Mx]at hy;exact aP hy
    rw[O1.O]at this;simp only[ft,sV,Q4,aG,aO,dn,or_false]at this;rcases this with(h|h)|h
    ·omega
    ·omega
    ·exact h9 y h)).1
   rw[<-Mx]at sk;have r0:w3.cell? (za g' 0)=some (.int .u8 ((n/256:Nat):Int)):=by
    rcases sk.2 with h|⟨B',o',e,hc⟩
    ·have:=congrArg List.length h;simp[Iw]at this
    ·cases e;have:=hc 0 (n/256) (by rw[bB,if_pos an];exact l8);exact this
   have r1:w3.cell? (za g' 1)=some (.int .u8 ((n%256:Nat):Int)):=by
    rcases sk.2 with h|⟨B',o',e,hc⟩
    ·have:=congrArg List.length h;simp[Iw]at this
    ·cases e;have:=hc 1 (n%256) (by rw[bB,if_pos an];exact j5);exact this
   have r2:=zL.cell;have r3:=zL.frozen;have r4:=cu.cell;obtain⟨u,hu⟩:=bL (n/256);obtain⟨v,hv⟩:=bL (n%256);rw[<-hu]at r0;rw[<-hv]at r1;have aiV:u<=16:=an;have aiF:v<256:=an;have gC:6+(u:Int)*256+(v:Int)=6+(n:Int):=an;have lH:6+(n:Int) - 6=(n:Int):=an;have hwb:((q:Int)+1==6+(n:Int))=false:=dU;have p4:∀y,(w3.setCell (za (B+1) 0) y).cell? (za B 0)=some (.slice (zp g') (q+1) c'):= λ y=>(pL cu an).cell;have adh:∀y,ay (w3.setCell (za (B+1) 0) y) (zp g') (bs.take (q+1)):= λ y=>by have:=yp (v:=y) nL zL de;rw[<-hlen,<-aR (f:=Prod.snd)]at this;rw[Mx];exact(dk this (λ z hz=>by rw[<-Mx]at hz;exact sk.1 z hz)).1
   have p0:∀y,(w3.setCell (za (B+1) 0) y).cell? (za g' 0)=some (.int .u8 (u:Int)):= λ y=>by
    rcases(adh y).2 with h|⟨B',o',e,hc⟩
    ·have:=congrArg List.length h;simp[Iw]at this
    ·cases e;have:=hc 0 u (by rw[bB,if_pos an,hu];exact l8);exact this
   have p1:∀y,(w3.setCell (za (B+1) 0) y).cell? (za g' 1)=some (.int .u8 (v:Int)):= λ y=>by
    rcases(adh y).2 with h|⟨B',o',e,hc⟩
    ·have:=congrArg List.length h;simp[Iw]at this
    ·cases e;have:=hc 1 v (by rw[bB,if_pos an,hv];exact j5);exact this
   have P:=eS p4 p0 p1;have hq5:(0:Int)<(q:Int)+1:=an;have hq6:(1:Int)<(q:Int)+1:=an;have Hq5:=ag h6q;have Hwn:=ag (show qe n 6=6+n by unfold qe;simp);clear gV hq h1 h2 h3 h4 h3' h4' iU rl hko mD Mx Y4 hxq j9 k9 j10 Rh Kr acf hz' cu nL zL yW pA oN hlen h5 mM bA h6 sS C7 l8 j5 sk adg h6q adh p4 p0 p1 hu hv
   gi_wp2_with first
    |(rw[<-HZ'.O,<-nE.O])
    |fail
   refine Mn 12 bU bU (by rintro⟨a',w',h⟩;exact h) rfl ?_;refine tP [0,1,2,3,4,5,6,7,8,9,10] ?_
   iterate 11 refine tO ?_
   refine au 1 rfl ?_;refine sP 11 [0,1,2,3,4,5,6,7,8,9,10] λ K hK=>?_;go_simp;refine nP hK ?_;clear hK K;refine dP ?_;go_simp;have t4:=P.O.1 (.int .i64 (6+(n:Int)))
   gi_wp2_with first
    |((refine⟨True.intro,(jJ l (callsIn_wide.2 (VE n kH pI _))).mono ?_⟩);rintro e w4 ⟨rfl,rfl⟩)
    |fail
   obtain⟨cu,nL,zL,yW,pA,oN,hlen⟩:=H3s.O;have ag5:q=5:=Hq5.O;have hlf:Lets w (λ k=>k=B+1\/k=B+1+1) B W (w3.setCell (za (B+1) 0) (.int .i64 (6+(n:Int)))):=pA.T (Lets.setCell w3 ⟨B+1,0,none⟩ _ (.inl rfl) (by show B≠B+1;omega) (by show w.heap.size<=B+1;omega));have hkf:=(oN.T (gX w3 ⟨B+1,0,none⟩ (.int .i64 (6+(n:Int))))).from w6.heap.size;refine⟨Fp hkf,hlf.drew,⟨_,_,by rw[hlen];exact pL (k:=B+1) (u:=.int .i64 (6+(n:Int))) cu an,by rw[hlen];exact yp (k:=B+1) (v:=.int .i64 (6+(n:Int))) nL zL de⟩,?_,⟨_,pL (k:=B+1) (u:=.int .i64 (6+(n:Int))) yW an⟩,(H5'.O.T hlf.below).drew,an⟩;rw[hlen,ag5,Hwn.O];have:=gS (.int .i64 (6+(n:Int))) zL;exact this
  ·have h6b:((q:Int)+1==6)=false:=dU;by_cases tG:q+1=6+n
   ·have hw:qe n q=6+n:=by unfold qe;rw[if_neg an]
    rw[hw]at n9;have hwb:((q:Int)+1==((6+n:Nat):Int))=true:=dU;have Hw:=eS hw tG h6q;clear gV hq h1 h2 h3 h4 h3' h4' iU rl hko mD Mx Y4 hxq j9 k9 j10 Rh Kr acf hz' cu nL zL yW pA oN hlen h5 mM bA tG hw h6 sS C7 h6q
    gi_wp2_with fail
    have hz:=nE.O;rw[HZ'.O]at hz;rw[<-hz];obtain⟨cu,nL,zL,yW,pA,oN,hlen⟩:=H3s.O;refine⟨oN.from _,pA,rfl,by rw[hlen];exact Hw.O.2.1,⟨_,_,by rw[hlen];exact cu,by rw[hlen];exact nL⟩,?_,⟨_,yW⟩,H5'.O.T pA.below⟩;rw[hlen,Je Hw.O.2.2];exact zL
   ·have hwb:((q:Int)+1==(qe n q:Int))=false:=by simp;unfold qe;split<;>omega
    have Hw:=eS tG h6 h6q;clear gV h1 h2 h3 h4 h3' h4' iU rl hko mD Mx Y4 hxq j9 k9 j10 Rh Kr acf hz' cu nL zL yW pA oN hlen h5 mM bA tG h6 sS C7 h6q hq
    gi_wp2_with fail
    have hz:=nE.O;rw[HZ'.O]at hz;rw[<-hz];obtain⟨cu,nL,zL,yW,pA,oN,hlen⟩:=H3s.O;refine⟨oN.from _,pA,⟨_,_,by rw[hlen];exact cu,by rw[hlen];exact nL⟩,?_,⟨_,yW⟩,H5'.O.T pA.below,by have:=Hw.O;have:=HQ.O;omega⟩;rw[hlen,Je Hw.O.2.2];exact zL
 case done=>
  rintro D W hD ⟨_,_,_,_,h6⟩ _ hK;have:=congrArg List.length HMO.O;simp only[aR,ar]at this;omega
 case stop=>
  rintro D cd pre W hD hp ⟨rfl,hl,⟨a,k,h1,h2⟩,h3,⟨z,h4⟩,h5⟩ _ hK;obtain⟨L,hL⟩:=bL (6+n);rw[<-hL]at hl Iw;have rY:7<=L:=an;have VQ:L<=5000:=an;have hL6:L - 6=n:=an;have hwL:qe n L=L:=by unfold qe;rw[if_neg an,hL]
  have jB:pre.map Prod.snd=bs:=by obtain⟨r,hr⟩:=hp;have e:=congrArg (List.map Prod.snd) hr;rw[HMO.O,aJ]at e;have e2:=congrArg (List.take L) e;rw[df (by simp[hl]),df an,aY (by simp[hl]),aY an]at e2;exact e2
  rw[jB,hl]at h2;rw[hl]at h1 h3;rw[hwL]at h3;obtain⟨g,rfl⟩:∃g,a=some ⟨g,0,none⟩:=by
   rcases bg h2 with⟨_,h,_⟩|⟨g,_,rfl,_⟩
   ·omega
   ·exact⟨g,rfl⟩
  have adi:∀y∈bs,y<256:=by
   intro y hy;rw[O1.O]at hy;have h9:=HR.O.2.2.1;simp only[ft,sV,Q4,aG,aO,dn,or_false]at hy;rcases hy with(h|h)|h
   ·omega
   ·omega
   ·exact h9 y h
  obtain⟨sk,tw, -⟩:=dk h2 adi;have hgw:=Cj h2;have hcv:∀w2,Below W W w2->(convert 28 9 (.slice (zp g) L k)).run Tryz.prog w2= .ok (.string (cE bs)) w2:= λ w2 hb=>fu (sk.below hb) Iw;have hbp:bs.drop 6=p:=by rw[O1.O];rfl
  have adj:ay W (some ⟨g,6,none⟩) p:=by have:=sk.drop 6;rwa [hbp]at this
  have DS:∀w2,Below W W w2->Calls Tryz.prog 115 (sg (some ⟨g,6,none⟩) n (k - 6)) w2 λ e w'=>∃g2 k2,e= .returned (.slice (zp g2) L k2)/\(convert 28 9 (.slice (zp g2) L k2)).run Tryz.prog w'= .ok (.string (cE bs)) w'/\Below w2 w2 w':= λ w2 hb=>by have:=Rc p (some ⟨g,6,none⟩) (k - 6) w2 HR.O.1 HR.O.2.1 (adj.below hb);rw[<-O1.O,<-HN.O,<-hL]at this;refine this.mono ?_;rintro e w' ⟨g2,k2,rfl,_,oO,bG⟩;exact⟨g2,k2,rfl,fu (dk oO adi).1 Iw,bG⟩
  have HO:=ag DS;have HCV:=ag hcv;have HBT:=ag adj;have HG:=ag hgw;have HW:=ag h5;have HK:=ag hK;have m1:=h1.cell;have m2:=h3.cell;have m3:=h4.cell;have HD:=ag (show w.heap.size<=D by omega);have g1:decide ((L:Int)<=6)=false:=dU;have g2:(6:Int)<=(L:Int):=an;have ag6:(L:Int)<=(k:Int):=an;have hk6:¬ k=6:=an;clear hp jB h1 h2 h3 h4 h5 sk hgw hcv hbp adj DS hK adi sS C7 hl hwL hL hD s6 H1 H0 H5 Hb H6 Hb6;refine wpIn_wide.2 ?_;go_wp2;have ag7:=HCV.O _ (ah _ W).drew;refine VO ?_;refine bP 18 ?_;refine tP [0,1,2,3,4,5,6,7,8,9,10,11,14,15] ?_
  iterate 14 refine tO ?_
  refine au 4 rfl ?_;refine sP 12 [0,1,2,3,4,5,6,7,8,9,10,11] λ K hK=>?_;go_simp;(with_reducible refine(HO.O _ (ah _ W).drew).mono ?_);rintro e w4 ⟨g2,k2,rfl,ag8,dX⟩;have q1:=carry (w:=W) ((ah _ W).drew.T dX) m1;have afc:=HCV.O _ ((ah _ W).drew.T dX);refine nP hK ?_;clear hK K;refine tP [13,16,17] ?_
  iterate 3 refine tO ?_
  refine au 0 rfl ?_;refine dP ?_;go_simp;clear q1 afc ag7;have dV:=(ah _ W).drew.T dX;have m4:=carry (w:=W) dV m1;have m5:=carry (w:=W) dV m3;have hLL:(L:Int)<=(k:Int):=ag6;go_wp2
  go_region_held3 (λ w'=>w'.cell? (za B 0)=some (.slice (zp g) L k)/\w'.cell? (za (B+1+1) 0)=some (.int .i64 z)) (exact⟨m4,m5⟩) (fail)
  go_wp2;have hK4:w4.drew.heap[D]? =some (.deferred (some [])):=(dV.block D (cS HK.O).1).T HK.O;have ag9:ay (w4.drew.putObj D (.deferred none)) (some ⟨g,6,none⟩) p:=qF (D:=D) (M:= λ _=>False) (HBT.O.below dV.drew) (iB.putObj w4.drew D _ _ (cH) hK4 rfl) (λ _ _ h=>h);refine⟨by simp,.inl ⟨_,_,rfl,run_takeDeferred hK4,?_⟩⟩;exact⟨_,results_tmp3 rfl _ _ _,_,_,_,by rw[<-HN.O];rfl,by rw[<-HN.O];exact cH,eZ.of HG.O,ag9,ld ((HW.O.T (dV.mono HW.O.size)).drew) _ hK4 HD.O⟩
end
section
attribute [-go_sem] Builtin.append_
def nM(W:World)(B:Nat)(b:az)(k c:Nat):Prop:=W.heap[B]? =some (.cells (fA b k c) 267 (0,0))
theorem uE{b:az}(h:nM W B b k c)(j:Nat):W.frozen? ⟨B,j,none⟩=(if j<5 then false else W.frozen? ⟨B,j,none⟩):=by
 split
 ·simp[World.frozen?,show W.heap[B]? =_ from h]
 ·rfl
theorem aae{b:az}(h:nM w B b k c):
 Calls Tryz.prog 188 (iS (zp B)) w λ e w'=>e= .returned (.int .i64 0)/\w'=w:=by
 obtain⟨c0,c1,c2,c3,c4⟩:=dF h;go_enter Tryz.func188,Tryz.ntmps188;go_wp2;go_ret;exact⟨rfl,rfl⟩
theorem SL{b:az}(h:nM w B b k c):
 Calls Tryz.prog 190 (iS (zp B)) w λ e w'=>e= .returned (.int .i64 0)/\w'=w:=by
 obtain⟨c0,c1,c2,c3,c4⟩:=dF h;go_enter Tryz.func190,Tryz.ntmps190;go_wp2;go_ret;exact⟨rfl,rfl⟩
theorem aU{fz:Nat×Nat}(u:Value)(h:W.heap[B]? =some (.cells cs t fz)):(W.setCell ⟨B,j,none⟩ u).heap[B]? =some (.cells (cs.setIfInBounds j u) t fz):=by obtain⟨cL,hk⟩:=cS h;show(W.heap.modify B _)[B]? =_;rw[br (by rw[Array.size_modify];exact cL),Array.getElem_modify_self,hk];rfl
theorem Ks{fz:Nat×Nat}{v:Value}(h:W.heap[B]? =some (.cells cs t fz))(hv:cs[j]? =some v)(k:Nat):((W.setCell ⟨B,j,none⟩ u).setCell ⟨B,j,none⟩ v).heap[k]? =W.heap[k]? :=by
 by_cases hk:k=B
 ·subst hk;rw[aU v (aU u h),h];congr 2;apply Array.ext_getElem?;intro i;by_cases hi:i=j
  ·subst hi;have:=(cS hv).1;rw[bZ (by simpa using this),hv]
  ·rw[cT an,cT an]
 ·rw[aq _ _ _ _ hk,aq _ _ _ _ hk]
theorem My{b:az}(h:nM w B b k c):
 Calls Tryz.prog 189 (iS (zp B)) w λ e w'=>e= .returned (.int .i64 0)/\Below w w w':=by
 obtain⟨c0,c1,c2,c3,c4⟩:=dF h;have f3:w.frozen? ⟨B,3,none⟩=false:=by rw[uE h];rfl
 have e1:IntKind.i64.wrap (-1 - 1)= -2:=by decide
 have e2:max (-2:Int) (-2)= -2:=by decide
 have jD:Hid (Below w w ((w.setCell (za B 3) (.int .i64 (-2))).setCell (za B 3) (.int .i64 (-1)))):=ag ⟨rfl,rfl,rfl,by simp[World.setCell], λ j hj=>Ks h rfl j⟩;clear h;go_enter Tryz.func189,Tryz.ntmps189;go_wp2;go_ret;exact⟨rfl,jD.O⟩
theorem VR{b:az}(h:aQ w b c ps)(B1 B2 more:Nat)
 (cN:w.heap[B1]? =some (.cells (Ih more) 3))(bG:w.heap[B2]? =some (.cells (fA b ps.length c) 31))
 (hm:(aw ps).length+more<=524288):
 Calls Tryz.prog 187 (oR (zp B1) (zp B2)) w λ e w'=>e= .returned (.int .i64 0)/\Below w w w':=by
 have d0:=dx cN;obtain⟨c0,c1,c2,c3,c4⟩:=dF bG;have hl:= λ (w2:World) (hb:Below w w w2)=>Cf (h.below hb);unfold bN at hl;obtain⟨N,hN⟩:=bL ((aw ps).length);rw[<-hN]at hl hm;have HL:=ag hl;have e1:IntKind.i64.wrap (524288 - (N:Int))=524288 - (N:Int):=by rw[aI];omega
 have e2:(more:Int)<=524288 - (N:Int):=an;have hN2:(N:Int)<=524288:=an;clear hl hN cN bG h hm;go_enter Tryz.func187,Tryz.ntmps187;go_wp2
 go_region_held3 (λ w'=>w'.cell? (za B1 0)=some (.int .i64 (more:Int))/\w'.cell? (za B2 0)=some (.slice none 0 0)/\w'.cell? (za B2 1)=some (.slice b ps.length c)/\w'.cell? (za B2 2)=some (.int .i64 (-1))/\w'.cell? (za B2 3)=some (.int .i64 (-1))/\w'.cell? (za B2 4)=some (.bool false))
  (first
    |exact⟨d0,c0,c1,c2,c3,c4⟩
    |exact⟨carry (w:=w) ((ah _ w).drew.T bG) d0,carry (w:=w) ((ah _ w).drew.T bG) c0,carry (w:=w) ((ah _ w).drew.T bG) c1,carry (w:=w) ((ah _ w).drew.T bG) c2,carry (w:=w) ((ah _ w).drew.T bG) c3,carry (w:=w) ((ah _ w).drew.T bG) c4⟩)
  (first|((with_reducible refine(HL.O _ (ah _ w).drew).mono ?_);rintro e w2 ⟨rfl,bG⟩))
 go_wp2;go_ret;exact⟨rfl,(ah _ w).drew.T bG⟩
theorem SM(h:ay w (some ⟨B,o,none⟩) xs)(hn:xs.length=n)(h1:1<=n)(h2:n<=1048576):
 Calls Tryz.prog 154 (sg (some ⟨B,o,none⟩) n c) w λ e w'=>∃g k,e= .returned (.slice (zp g) n k)/\n<=k/\w.heap.size<=g/\ay w' (zp g) xs/\Below w w w':=by
 obtain⟨i0,hi,l8,j5,vr⟩:=info_parts Tryz.sU;have bA:(w.alloc (.cells #[] 5)).ownsRow w 5 1 (.slice (zp w) 0 0) 0 []:=
  ⟨rfl,.inr ⟨w.heap.size,0,#[],rfl,cH,ai w _,cH,by simp[maxLen],rfl,rfl⟩⟩
 obtain⟨v',w1,eh,gp,jQ, -, -⟩:=run_append_own_at (P:=Tryz.prog) (w.alloc (.cells #[] 5)) w 28 28 5 i0 (.int .u8 0) 1 1 bU hi l8 j5 vr rfl de _ _ [] bA
  ⟨B,o,none⟩ n c (bE xs) (by simp[bE,hn]) (λ j u hj=>by
    obtain⟨y,hy,rfl⟩:∃y,xs[j]? =some y/\Value.int .u8 (y:Int)=u:=by simpa[bE]using hj
    have:=h.below ((ah _ w).alloc (cH) (.cells #[] 5));have e:(⟨B,o,none⟩:Addr).add j=⟨B,o+j,none⟩:=by unfold Addr.add;split<;>simp_all
    rw[e];rcases this.2 with h0|⟨B',o',h3,h4⟩
    ·rw[h0]at hy;cases hy
    ·cases h3;exact h4 j y hy)
  (λ u hu=>by obtain⟨y,_,rfl⟩:=aM.1 hu;rfl) kt an cP
 obtain⟨q,hq⟩:∃q,0+n=q+1:=⟨n - 1,an⟩;rw[hq]at gp;obtain⟨g',k',rfl⟩:=ownsRow_succ gp;have I0:q+1=n:=an;rw[I0]at gp eh;have sk:=dk (xs:=xs) (by simpa using gp) h.1;have vW:=Cj gp;have B9:Below w w w1:=((ah _ w).alloc (cH) _).grown jQ cP (λ j e=>by
  have:w.heap.size=j:=by simpa[Value.ownBlock]using e
  omega)
 have aiW:(binOp BinOp.eql 28 (.slice (some ⟨B,o,none⟩) n c) (.slice none 0 0)).run Tryz.prog w= .ok (.bool false) w:=bU;have jD:=oT sk.2.1 vW sk.1 B9;clear gp jQ sk vW B9 bA hi l8 j5 vr hq I0 h hn;go_enter Tryz.func154,Tryz.ntmps154
 go_wp2_with fail
 go_ret;exact⟨g',k',rfl,jD.O⟩
def AI(p:Piece):Value:=.slice p.1 p.2.1.length p.2.2
theorem Tryz.Kt:(Tryz.prog.info? 28).map (λ i=>(i.zero,i.size,i.bytes))=some (some (.slice none 0 0),1,24):=bU
theorem Ps{i:Nat}(h:B≠k):(W.setCell ⟨k,i,none⟩ u).cell? ⟨B,j,none⟩=W.cell? ⟨B,j,none⟩:=bq (aq W ⟨k,i,none⟩ u B h)
theorem rm(B o j:Nat):(⟨B,o,none⟩:Addr).add j=⟨B,o+j,none⟩:=by unfold Addr.add;split<;>simp_all
theorem SN{b:az}(h:aQ w b c ps)(hb:Below w w w'){G cap:Nat}
 (bA:w'.ownsRow n₀ 28 1 (.slice (zp G) (ps.length+1) cap) (ps.length+1) (ps.map AI++[.slice (zp g) xs.length k]))(hx:ay w' (zp g) xs)(h1:1<=xs.length)(hk:xs.length<=k)(jN:(aw ps).length+xs.length<=524288):
 aQ w' (zp G) cap (ps++[(some ⟨g,0,none⟩,xs,k)]):=by
 have jB:aw (ps++[((some ⟨g,0,none⟩,xs,k):Piece)])=aw ps++xs:=by simp[aw]
 rcases bA.2 with⟨h2,_⟩|⟨G',aiX,cur,h2,bG,hg,hle,hcm,kA,ht⟩
 ·cases h2
 ·cases h2;refine⟨⟨.inr ⟨G,0,rfl, λ j p hp=>?_⟩, λ p hp=>?_⟩,by rw[jB,ar];exact jN,by simpa using hle⟩
  ·have e:(ps.map AI++[Value.slice (zp g) xs.length k])[j]? =some (AI p):=by
    have:ps.map AI++[Value.slice (zp g) xs.length k]=(ps++[((some ⟨g,0,none⟩,xs,k):Piece)]).map AI:=by simp[AI]
    rw[this,aW,hp];rfl
   rw[<-ht,bB]at e;split at e
   ·simp only[World.cell?,hg,aN];simpa[AI]using e
   ·cases e
  ·rcases aG.1 hp with hp|hp
   ·have:=h.pieces.2 p hp;exact⟨this.1,this.2.1,this.2.2.below hb⟩
   ·rw[aE]at hp;subst hp;exact⟨λ e=>by rw[show xs=[]from e]at h1;simp at h1,hk,hx⟩
theorem Mz{b:az}(hF:aQ w0 b c ps)(hw:Below w0 w0 w)(Bg Bb:Nat)(hBg:w0.heap.size<=Bg)(hg:nM w Bg b ps.length c)
 (xs:List Nat)(A o cb:Nat)(hb:w.heap[Bb]? =some (.cells (sg (some ⟨A,o,none⟩) xs.length cb) 28))(hx:ay w0 (some ⟨A,o,none⟩) xs)(h1:1<=xs.length)(h2:xs.length<=1000000)(jN:(aw ps).length+xs.length<=524288):
 Calls Tryz.prog 153 (oR (zp Bg) (zp Bb)) w λ e w'=>(∃v,e= .returned v)/\∃b' c' pc,nM w' Bg b' (ps.length+1) c'/\aQ w' b' c' (ps++[pc])/\pc.2.1=xs/\Below w0 w w'/\(∀j,j<w.heap.size->j≠Bg->w'.heap[j]? =w.heap[j]?)/\(eZ w b'/\eZ w pc.1):=by
 obtain⟨c0,c1,c2,c3,c4⟩:=dF hg;have d0:=dx hb;have f1:w.frozen? ⟨Bg,1,none⟩=false:=by rw[uE hg];rfl
 have BP:=hF.LB;have gk:=hF.room;have fh:∀w2,Below w w w2->Calls Tryz.prog 154 (sg (some ⟨A,o,none⟩) xs.length cb) w2 λ e w3=>∃g k cap w4,e= .returned (.slice (zp g) xs.length k)/\Below w2 w2 w3/\
  (Builtin.append_ #[29,29] 29 (fP b ps.length ps.length (zp w3) 1 1)).run Tryz.prog (w3.alloc (.cells (sg (zp g) xs.length k) 28))= .ok (.slice (zp (w3+1)) (ps.length+1) cap) w4/\
  w4.cell? (za Bg 1)=some (.slice b ps.length c)/\w4.frozen? ⟨Bg,1,none⟩=false/\Below w w w4/\
  Hid (∃b' c' pc,nM (w4.setCell (za Bg 1) (.slice (zp (w3+1)) (ps.length+1) cap)) Bg b' (ps.length+1) c'/\aQ (w4.setCell (za Bg 1) (.slice (zp (w3+1)) (ps.length+1) cap)) b' c' (ps++[pc])/\pc.2.1=xs/\Below w0 w (w4.setCell (za Bg 1) (.slice (zp (w3+1)) (ps.length+1) cap))/\(∀j,j<w.heap.size->j≠Bg->(w4.setCell (za Bg 1) (.slice (zp (w3+1)) (ps.length+1) cap)).heap[j]? =w.heap[j]?)/\(eZ w b'/\eZ w pc.1)):= λ w2 bG=>by
  refine(SM (c:=cb) ((hx.below hw).below bG) rfl h1 an).mono ?_;rintro e w3 ⟨g,k,rfl,hk,hgs,sk,cu⟩;have nt:Below w w w3:=bG.T (cu.mono bG.size);have MA:Below w0 w0 w3:=hw.T (nt.mono hw.size);have VS:=hF.below MA;have dX:Below w3 w3 (w3.alloc (.cells (sg (zp g) xs.length k) 28)):=(ah _ w3).alloc (cH) _;have OY:=VS.below dX;obtain⟨cap,w4,eh,mV,bA,B9⟩:=vV (P:=Tryz.prog) 29 28 (.slice none 0 0) 1 24 bU Tryz.Kt rfl (W:=w3.alloc (.cells (sg (zp g) xs.length k) 28)) b ps.length (ps.map AI) cP
   (by
     cases b with
     |none=>
      rcases OY.pieces.1 with h|⟨_,_,h,_⟩
      ·exact .inl ⟨rfl,by rw[h];rfl⟩
      ·cases h
     |some a=>
      refine .inr ⟨a,rfl, λ j v hj=>?_⟩;rcases OY.pieces.1 with h|⟨B',o',h,hc⟩
      ·rw[h]at hj;simp at hj
      ·cases h;obtain⟨p,hp,rfl⟩:∃p,ps[j]? =some p/\AI p=v:=by simpa using hj
       rw[rm];exact hc j p hp)
   ⟨w3.heap.size,0,none⟩ 1 1 [.slice (zp g) xs.length k] rfl (λ j v hj=>by rw[rm,bO];simpa using hj) an an an
  rw[bt]at eh bA;have dV:Below w3 w3 w4:=dX.T (B9.mono cP);have kd:Below w w w4:=nt.T (dV.mono nt.size);have Er:nM w4 Bg b ps.length c:=(kd.block Bg (cS hg).1).T hg;have VN:Below w0 w4 (w4.setCell (za Bg 1) (.slice (zp (w3+1)) (ps.length+1) cap)):=(ah _ w4).setCell hBg _;have hG:w3.heap.size+1≠Bg:=by have:=(cS hg).1;have:=nt.size;omega
  refine⟨g,k,cap,w4,rfl,cu,eh,(dF Er).2.1,by rw[uE Er];rfl,kd,ag ⟨some ⟨w3.heap.size+1,0,none⟩,cap,(some ⟨g,0,none⟩,xs,k),by have:=aU (j:=1) (.slice (zp (w3+1)) (ps.length+1) cap) Er;unfold nM;simpa using this,?_,rfl,(kd.mono hw.size).T VN, λ j hj hjB=>(aq w4 ⟨Bg,1,none⟩ _ j hjB).T (kd.block j hj),eZ.of (cm nt.size),eZ.of (cm bG.size)⟩⟩;refine SN hF (((hw.T (kd.mono hw.size)).T VN)) (iF bA λ g2 jk=>?_) ?_ h1 hk jN
  ·cases jk;exact aq w4 ⟨Bg,1,none⟩ _ _ hG
  ·have VT:ay w4 (zp g) xs:=sk.below dV;have hgB:g≠Bg:=by have:=(cS hg).1;have:=bG.size;omega
   refine⟨VT.1,?_⟩;rcases VT.2 with h|⟨C,o2,h,hc⟩
   ·exact .inl h
   ·cases h;exact .inr ⟨g,0,rfl, λ j x hj=>(Ps hgB).T (hc j x hj)⟩
 have HC:=ag fh;have C8:((ps.length:Nat):Int)<=(c:Int):=an;have oO:((ps.length:Nat):Int)<=524288:=an;clear fh hg hb hx hF hw h1 h2 jN;go_enter Tryz.func153,Tryz.ntmps153;go_wp2;refine ku 26 (λ w'=>w'.cell? (za Bg 0)=some (.slice none 0 0)/\w'.cell? (za Bg 1)=some (.slice b ps.length c)/\w'.cell? (za Bb 0)=some (.slice (some ⟨A,o,none⟩) xs.length cb)) bU ⟨c0,c1,d0⟩ (λ hS=>?_);refine tT 0 hS ?_;refine tT 1 hS ?_;refine tT 2 hS ?_;refine tT 3 hS ?_;refine tT 4 hS ?_;refine tT 5 hS ?_;refine tT 6 hS ?_;refine tT 7 hS ?_;refine tT 8 hS ?_;refine tT 9 hS ?_;refine tT 10 hS ?_;refine tT 11 hS ?_;refine tT 12 hS ?_;refine tT 13 hS ?_;refine tT 14 hS ?_;refine tT 15 hS ?_;refine tT 16 hS ?_;refine tT 17 hS ?_;refine tT 18 hS ?_;refine tT 19 hS ?_;refine sT 20 λ K hK=>?_;go_simp;refine(HC.O _ (ah _ w).drew).mono ?_;rintro e w3 ⟨g,k,cap,w4,rfl,bG,eh,DR,MB,dX,jD⟩;simp only[];refine et hK ?_ (λ hS=>?_)
 ·exact⟨carry (w:=w) ((ah _ w).drew.T bG) c0,carry (w:=w) ((ah _ w).drew.T bG) c1,carry (w:=w) ((ah _ w).drew.T bG) d0⟩
 clear hK K;refine sT 21 λ K hK=>?_;go_simp;refine et hK ?_ (λ hS=>?_)
 ·exact⟨carry (w:=w) (((ah _ w).drew.T bG).alloc bG.size _) c0,carry (w:=w) (((ah _ w).drew.T bG).alloc bG.size _) c1,carry (w:=w) (((ah _ w).drew.T bG).alloc bG.size _) d0⟩
 clear hK K;refine sT 22 λ K hK=>?_;go_simp;refine et hK ?_ (λ hS=>?_)
 ·exact⟨carry (w:=w) dX c0,carry (w:=w) dX c1,carry (w:=w) dX d0⟩
 clear hK K;refine sT 23 λ K hK=>?_;go_simp;refine et hK hS (λ hS=>?_);clear hK K;refine sT 24 λ K hK=>?_;go_simp;refine et hK hS (λ hS=>?_);clear hK K;refine tT 25 hS ?_;refine sT 26 λ K hK=>?_;go_simp;refine ra hK ?_;clear hK K;refine nK bU ?_ _;go_wp2;go_end0;exact⟨⟨_,rfl⟩,jD.O⟩
theorem gT{es:Array Value}{u v:TypeId}(h:Below (((w.alloc (.cells cs t)).alloc (.cells ds u)).alloc (.cells es v)).heap.size (((w.alloc (.cells cs t)).alloc (.cells ds u)).alloc (.cells es v)) w2):
 w2.heap[w.heap.size]? =some (.cells cs t)/\w2.heap[w.heap.size+1]? =some (.cells ds u)/\w2.heap[w.heap.size+1+1]? =some (.cells es v):=by
 have e1:=ai w (.cells cs t);have e2:=ai (w.alloc (.cells cs t)) (.cells ds u);have e3:=ai ((w.alloc (.cells cs t)).alloc (.cells ds u)) (.cells es v);rw[bt]at e2;rw[bt,bt]at e3;have s:(((w.alloc (.cells cs t)).alloc (.cells ds u)).alloc (.cells es v)).heap.size=w.heap.size+1+1+1:=by simp
 refine⟨?_,?_,?_⟩
 ·rw[h.block _ an,aT _ _ _ dU,aT _ _ _ cP];exact e1
 ·rw[h.block _ an,aT _ _ _ cP];exact e2
 ·rw[h.block _ an];exact e3
theorem Cp{fz:Nat×Nat}(h:W.heap[R]? =some (.cells #[a0,a1,a2,a3,a4] t fz)):
 (((((W.setCell (za R 0) v0).setCell (za R 1) v1).setCell (za R 2) v2).setCell (za R 3) v3).setCell (za R 4) v4).heap[R]? =some (.cells #[v0,v1,v2,v3,v4] t fz):=by
 have:=aU (j:=4) v4 (aU (j:=3) v3 (aU (j:=2) v2 (aU (j:=1) v1 (aU (j:=0) v0 h))));simpa using this
theorem mW(j:Nat)(hj:j≠R):
 (((((W.setCell (za R 0) v0).setCell (za R 1) v1).setCell (za R 2) v2).setCell (za R 3) v3).setCell (za R 4) v4).heap[j]? =W.heap[j]? :=by
 rw[aq _ _ _ _ hj,aq _ _ _ _ hj,aq _ _ _ _ hj,aq _ _ _ _ hj,aq _ _ _ _ hj]
theorem iw(h:n₀<=R):
 Below n₀ W (((((W.setCell (za R 0) v0).setCell (za R 1) v1).setCell (za R 2) v2).setCell (za R 3) v3).setCell (za R 4) v4):=
 (((((ah n₀ W).setCell (p:=(za R 0)) h _).setCell (p:=(za R 1)) h _).setCell (p:=(za R 2)) h _).setCell (p:=(za R 3)) h _).setCell (p:=(za R 4)) h _
theorem vX(h:p:=by
 refine .inr ⟨B,o,e, λ j x hj=>?_⟩;by_cases hB:B=R
 ·have:=dK j x hj;rw[hB,show W.cell? (za R (o+j))=cs[o+j]? by simp[World.cell?,hR]]at this;exact absurd this (ht1 _ _)
 ·exact hc ⟨B,o+j,none⟩ _ hB (dK j x hj)
 ):p:=h
theorem fQ(hk:∀j,j≠R->W'.heap[j]? =W.heap[j]?){fz:Nat×Nat}(hR:W.heap[R]? =some (.cells cs t fz))(ht1:∀(j x:Nat),cs[j]? ≠some (.int .u8 (x:Int))){b:az}(h:aQ W b c ps)(hb:∀B o,b=some ⟨B,o,none⟩->B≠R):aQ W' b c ps:=by
 have hc:∀(p:Addr) (v:Value),p.block≠R->W.cell? p=some v->W'.cell? p=some v:= λ p v hp hv=>(bq (hk p.block hp)).T hv;refine⟨⟨?_, λ p hp=>?_⟩,h.small,h.room⟩
 ·rcases h.pieces.1 with h0|⟨B,o,e,dK⟩
  ·exact .inl h0
  ·exact .inr ⟨B,o,e, λ j p hj=>hc _ _ (by exact hb B o e) (dK j p hj)⟩
 ·obtain⟨h1,h2,h3,h4⟩:=h.pieces.2 p hp;refine⟨h1,h2,h3,?_⟩;rcases h4 with h0|⟨B,o,e,dK⟩
  ·exact .inl h0
  ·exact vX
theorem ax(h:W.heap[B]? =some (.cells cs t))(j:Nat):W.frozen? ⟨B,j,none⟩=false:=by simp[World.frozen?,h]
theorem af{fz:Nat×Nat}(h:W.heap[B]? =some (.cells cs t fz))(j:Nat):W.cell? ⟨B,j,none⟩=cs[j]? :=by simp[World.cell?,h]
theorem nN(h:p:=by
 have s0:=hs 0;have s1:=hs 1;have s2:=hs 2;have s3:=hs 3;have s4:=hs 4;simp only[cW]at s0 s1 s2 s3 s4;clear hs;go_simp
 ):p:=h
theorem Iy{b:az}(hF:aQ w0 b c ps)(hw:Below w0 w0 w)(Bb:Nat)
 (xs:List Nat)(A o cb:Nat)(hb:w.heap[Bb]? =some (.cells (sg (some ⟨A,o,none⟩) xs.length cb) 28))(hx:ay w0 (some ⟨A,o,none⟩) xs)(h1:1<=xs.length)(h2:xs.length<=1000000)(jN:(aw ps).length+xs.length<=524288):
 Calls Tryz.prog 152 #[bN b ps.length c,.int .i64 (xs.length:Int),.func (.func 153) #[] (iS (zp Bb))] w λ e w'=>∃b' c' pc,e= .returned (.tuple #[bN b' (ps.length+1) c',.int .i64 0])/\aQ w' b' c' (ps++[pc])/\pc.2.1=xs/\(eZ w b'/\eZ w pc.1)/\Below w w w':=by
 have hck:= λ (w2:World) (hb:Below w0 w0 w2)=>mA (hF.below hb);have hrm:= λ (w2:World) (hb:Below w0 w0 w2) (B1 B2:Nat) (h1:w2.heap[B1]? =some (.cells (Ih xs.length) 3)) (h2:w2.heap[B2]? =some (.cells (fA b ps.length c) 31))=>VR (hF.below hb) B1 B2 xs.length h1 h2 jN;unfold bN at*;have eh:= λ (w2:World) (fH:Below w0 w0 w2) (Bg:Nat) (hBg:w0.heap.size<=Bg) (hg:nM w2 Bg b ps.length c) (bG:w2.heap[Bb]? =some (.cells (sg (some ⟨A,o,none⟩) xs.length cb) 28))=>Mz hF fH Bg Bb hBg hg xs A o cb bG hx h1 h2 jN;have LF:=ag hck;have HRM:=ag hrm;have Aw:=ag eh;have HW:=ag hw;have HB:=ag hb;have H1:Hid (Below w w (((w.alloc (.cells (fA b ps.length c) 31)).alloc (.cells (Ih xs.length) 3)).alloc (.cells kF 31))):=ag bW;clear hck hrm eh hF hx hw hb h1 h2 jN;go_enter Tryz.func152,Tryz.ntmps152;go_wp2
 go_step3
 go_wp2_with first
  |((refine(LF.O _ (HW.O.T (H1.O.mono HW.O.size))).mono ?_);rintro e w2 ⟨rfl,bG⟩;obtain⟨p1,p2,p3⟩:=ae7 bG;have H2:=ag (H1.O.T (bG.mono H1.O.size));obtain⟨l8,j5,vr⟩:=gT bG;have kA:=bG.size;simp only[bt]at kA;have c0:=p1 0 _ rfl;have c1:=p1 1 _ rfl;have c2:=p1 2 _ rfl;have c3:=p1 3 _ rfl;have c4:=p1 4 _ rfl)
  |fail
 obtain⟨w3,gV⟩:=bL (w2.alloc (.cells (fA b ps.length c) 267));rw[<-gV];have pz:nM w3 w2 b ps.length c:=by rw[gV];exact ai w2 _
 have VU:Below w2 w2 w3:=by rw[gV];exact(ah _ w2).alloc (cH) _
 have Rf:w3.heap[w.heap.size]? =some (.cells (fA b ps.length c) 31):=by rw[VU.block _ (iX H2.O.size kA)];exact l8
 have py:w3.heap[w.heap.size+1]? =some (.cells (Ih xs.length) 3):=by rw[VU.block _ (iX H2.O.size kA)];exact j5
 have pK:w3.heap[w.heap.size+1+1]? =some (.cells kF 31):=by rw[VU.block _ (iX H2.O.size kA)];exact vr
 obtain⟨Bg,hBg⟩:=bL w2.heap.size;rw[<-hBg]at pz⊢;have H3:=ag (H2.O.T (VU.mono H2.O.size));have HG:=ag pz;have HQ:=eS Rf py pK;have HBg:=ag (show w.heap.size+1+1<Bg by omega);have ek:Hid (w3.heap[Bb]? =some (.cells (sg (some ⟨A,o,none⟩) xs.length cb) 28)):=ag ((H3.O.block Bb (cS HB.O).1).T HB.O);clear pz gV VU Rf py pK hBg l8 j5 vr kA c0 c1 c2 c3 c4 p1 p2 p3 bG
 go_step3
 go_wp2_with fail
 go_loopw [11,32] (λ ev iv wr=>ev= .int .i64 0/\∃k:Nat,k<=4/\iv= .int .i64 (k:Int)/\Hid (Below w3 w3 wr)) (λ _ iv _=>4 - (intOf iv).toNat)
 case atStart=>exact⟨rfl,0,an,rfl,ag (gb)⟩
 case round=>
  obtain⟨rfl,k,hk,rfl,hB⟩:=hrel;have hg:=(hB.O.block Bg (cS HG.O).1).T HG.O;have Rf:=(hB.O.block _ (cS HQ.O.1).1).T HQ.O.1;have py:=(hB.O.block _ (cS HQ.O.2.1).1).T HQ.O.2.1;have pK:=(hB.O.block _ (cS HQ.O.2.2).1).T HQ.O.2.2;have mz:Below w0 w0 wr:=HW.O.T ((H3.O.T (hB.O.mono H3.O.size)).mono HW.O.size);by_cases cL:k<4
  ·have oN:k=0\/k=1\/k=2\/k=3:=an;rcases oN with rfl|rfl|rfl|rfl
   ·have HO:=ag (aae hg);clear hg Rf py pK mz;have hix:(Instr.index 315 (.agg (ZT (Value.func (.func 188) (iS (zp Bg)) #[]) (Value.func (.func 187) #[] (oR (zp (w+1)) (zp w))) (Value.func (.func 189) (iS (zp Bg)) #[]) (Value.func (.func 190) (iS (zp Bg)) #[]))) (.int .i64 0)).run Tryz.prog wr= .ok (Value.func (.func 188) (iS (zp Bg)) #[]) wr:=bU
    go_wp2_with first
     |((refine HO.O.mono ?_);rintro e w5 ⟨rfl,rfl⟩)
     |fail
    go_roundw
    case rel=>exact⟨rfl,1,an,rfl,hB⟩
    case measure=>simp[intOf]
   ·have HO:=ag (HRM.O wr mz _ _ py Rf);clear hg Rf py pK mz;have hix:(Instr.index 315 (.agg (ZT (Value.func (.func 188) (iS (zp Bg)) #[]) (Value.func (.func 187) #[] (oR (zp (w+1)) (zp w))) (Value.func (.func 189) (iS (zp Bg)) #[]) (Value.func (.func 190) (iS (zp Bg)) #[]))) (.int .i64 1)).run Tryz.prog wr= .ok (Value.func (.func 187) #[] (oR (zp (w+1)) (zp w))) wr:=bU
    go_wp2_with first
     |((refine HO.O.mono ?_);rintro e w5 ⟨rfl,dV⟩)
     |fail
    go_roundw
    case rel=>exact⟨rfl,2,an,rfl,ag (hB.O.T (dV.mono hB.O.size))⟩
    case measure=>simp[intOf]
   ·have HO:=ag (My hg);clear hg Rf py pK mz;have hix:(Instr.index 315 (.agg (ZT (Value.func (.func 188) (iS (zp Bg)) #[]) (Value.func (.func 187) #[] (oR (zp (w+1)) (zp w))) (Value.func (.func 189) (iS (zp Bg)) #[]) (Value.func (.func 190) (iS (zp Bg)) #[]))) (.int .i64 2)).run Tryz.prog wr= .ok (Value.func (.func 189) (iS (zp Bg)) #[]) wr:=bU
    go_wp2_with first
     |((refine HO.O.mono ?_);rintro e w5 ⟨rfl,dV⟩)
     |fail
    go_roundw
    case rel=>exact⟨rfl,3,an,rfl,ag (hB.O.T (dV.mono hB.O.size))⟩
    case measure=>simp[intOf]
   ·have HO:=ag (SL hg);clear hg Rf py pK mz;have hix:(Instr.index 315 (.agg (ZT (Value.func (.func 188) (iS (zp Bg)) #[]) (Value.func (.func 187) #[] (oR (zp (w+1)) (zp w))) (Value.func (.func 189) (iS (zp Bg)) #[]) (Value.func (.func 190) (iS (zp Bg)) #[]))) (.int .i64 3)).run Tryz.prog wr= .ok (Value.func (.func 190) (iS (zp Bg)) #[]) wr:=bU
    go_wp2_with first
     |((refine HO.O.mono ?_);rintro e w5 ⟨rfl,rfl⟩)
     |fail
    go_roundw
    case rel=>exact⟨rfl,4,an,rfl,hB⟩
    case measure=>simp[intOf]
  ·obtain rfl:k=4:=an;have HO:=ag (Aw.O wr mz Bg (iX HBg.O HW.O.size) hg ((hB.O.block Bb (cS ek.O).1).T ek.O));have Hq2:=ag pK;have UG:=(cS hg).1;have Hgl:=ag UG;clear hg Rf py pK mz UG
   go_wp2_with first
    |((refine HO.O.mono ?_);rintro e w5 ⟨⟨v,rfl⟩,b',c',pc,Iz,hF5,vY,dV,Mw,nH⟩;obtain⟨g0,g1,g2,g3,g4⟩:=dF Iz;have hR:=(Mw (w+1+1) (iX HBg.O Hgl.O) (cm HBg.O)).T Hq2.O;have r0:=af hR 0;have r1:=af hR 1;have r2:=af hR 2;have r3:=af hR 3;have r4:=af hR 4;have f0:=ax hR 0;have f1:=ax hR 1;have f2:=ax hR 2;have f3:=ax hR 3;have f4:=ax hR 4;simp only[cW]at r0 r1 r2 r3 r4;have O0:=ag hR;have O1:=ag (show w.heap.size+1+1≠Bg from by have:=HBg.O;omega);have HK5:=ag Mw;clear hR Mw)
    |fail
   rw[fo];refine bodyPost_ret (v:=.tuple (vm (.agg (fA b' (ps.length+1) c')))) ?_ bp ?_
   ·rw[results_cell_tmp rfl];have hs:=af (Cp (v0:=.slice none 0 0) (v1:=.slice b' (ps.length+1) c') (v2:=.int .i64 (-1)) (v3:=.int .i64 (-1)) (v4:=.bool false) O0.O);exact nN
   ·have mz:Below w w wr:=H3.O.T (hB.O.mono H3.O.size);have aha:Below w wr w5:=⟨dV.os,dV.tape,dV.output,dV.size, λ k hk=>HK5.O k (aA hk mz.size) (cm HBg.O)⟩;refine⟨b',c',pc,rfl,fQ (W:=w5) (λ j hj=>mW j hj) O0.O (λ j x=>?_) hF5 (λ G o e=>?_),vY,⟨nH.1.mono mz.size,nH.2.mono mz.size⟩,(mz.T aha).T (iw an)⟩
    ·match j with
     |0=>simp
     |1=>simp
     |2=>simp
     |3=>simp
     |4=>simp
     |j+5=>simp
    ·have h1:=nH.1 _ e;have h2:=Hgl.O;have h3:=HBg.O;have h4:wr.heap.size<=G:=h1;omega
theorem Pt{b:az}(hF:aQ w b c ps)(xs:List Nat)(A o cb:Nat)(hx:ay w (some ⟨A,o,none⟩) xs)(h1:1<=xs.length)(h2:xs.length<=1000000)(jN:(aw ps).length+xs.length<=524288):
 Calls Tryz.prog 116 #[bN b ps.length c,.slice (some ⟨A,o,none⟩) xs.length cb] w λ e w'=>∃b' c' pc,e= .returned (.tuple #[bN b' (ps.length+1) c',.int .i64 0])/\aQ w' b' c' (ps++[pc])/\pc.2.1=xs/\(eZ w b'/\eZ w pc.1)/\Below w w w':=by
 have hck:= λ (w2:World) (hb:Below w w w2)=>mA (hF.below hb);have hop:= λ (w2:World) (hb:Below w w w2) (Bb:Nat) (sc:w2.heap[Bb]? =some (.cells (sg (some ⟨A,o,none⟩) xs.length cb) 28))=>Iy hF hb Bb xs A o cb sc hx h1 h2 jN;unfold bN at*;have LF:=ag hck;have HOP:=ag hop;have eb:((xs.length:Int)==0)=false:=by simp;intro h;rw[h]at h1;simp at h1
 have H1:Hid (Below w w (((w.alloc (.cells (fA b ps.length c) 31)).alloc (.cells (sg (some ⟨A,o,none⟩) xs.length cb) 28)).alloc (.cells kF 31))):=ag bW;clear hck hop hF hx h1 h2 jN;go_enter Tryz.func116,Tryz.ntmps116
 go_wp2_with first
  |((refine(LF.O _ H1.O).mono ?_);rintro e w2 ⟨rfl,bG⟩;have H2:=ag (H1.O.T (bG.mono H1.O.size));obtain⟨l8,j5,vr⟩:=gT bG;obtain⟨c0,c1,c2,c3,c4⟩:=dF l8;have d0:=dx j5;have Hz:=dO j5 vr;clear l8 j5 vr bG)
  |((refine(HOP.O _ H2.O _ Hz.O.1).mono ?_);rintro e w3 ⟨b',c',pc,rfl,VS,vY,nH,cu⟩;have hR:=(cu.block _ (cS Hz.O.2).1).T Hz.O.2;have r0:=af hR 0;have r1:=af hR 1;have r2:=af hR 2;have r3:=af hR 3;have r4:=af hR 4;have f0:=ax hR 0;have f1:=ax hR 1;have f2:=ax hR 2;have f3:=ax hR 3;have f4:=ax hR 4;simp only[cW]at r0 r1 r2 r3 r4;have O0:=ag hR;have Hlt:=ag (cS Hz.O.2).1;clear hR)
  |fail
 refine bodyPost_ret (v:=.tuple (vm (.agg (fA b' (ps.length+1) c')))) ?_ bp ?_
 ·rw[results_cell_tmp rfl];have hs:=af (Cp (v0:=.slice none 0 0) (v1:=.slice b' (ps.length+1) c') (v2:=.int .i64 (-1)) (v3:=.int .i64 (-1)) (v4:=.bool false) O0.O);exact nN
 ·refine⟨b',c',pc,rfl,fQ (W:=w3) (λ j hj=>mW j hj) O0.O (λ j x=>?_) VS (λ G o e=>?_),vY,?_,((H2.O.T (cu.mono H2.O.size))).T (iw an)⟩
  ·match j with
   |0=>simp
   |1=>simp
   |2=>simp
   |3=>simp
   |4=>simp
   |j+5=>simp
  ·have h1:w2.heap.size<=G:=nH.1 _ e;have h2:=Hlt.O;omega
  ·exact⟨nH.1.mono H2.O.size,nH.2.mono H2.O.size⟩
theorem C9{fn:Func}{p u v:Tmp}(h:fn.results=#[.cell p ty,.tmp u,.tmp v])(tmps:Array Value)(P:Program)(w:World):
 (results fn tmps).run P w=
   ((asAddr (tmps.getD p undef)).run P w).andThen λ a Ku=>((loadVar ty a).run P Ku).andThen λ x Pu=>.ok (.tuple #[x,tmps.getD u undef,tmps.getD v undef]) Pu:=by
 simp only[results,h];simp[eD,Result.andThen]
theorem bu{u:TypeId}(h:Below ((w.alloc (.cells cs t)).alloc (.cells ds u)).heap.size ((w.alloc (.cells cs t)).alloc (.cells ds u)) w2):
 w2.heap[w.heap.size]? =some (.cells cs t)/\w2.heap[w.heap.size+1]? =some (.cells ds u):=by
 have e1:=ai w (.cells cs t);have e2:=ai (w.alloc (.cells cs t)) (.cells ds u);rw[bt]at e2;have s:((w.alloc (.cells cs t)).alloc (.cells ds u)).heap.size=w.heap.size+1+1:=by simp
 refine⟨?_,?_⟩
 ·rw[h.block _ an,aT _ _ _ cP];exact e1
 ·rw[h.block _ an];exact e2
theorem Kv{p:List Nat}(h:∀x∈p,x<256):∀y∈ft p,y<256:=by
 intro y hy;simp only[ft,sV,Q4,aG,aO,dn,or_false]at hy;rcases hy with(h1|h1)|h1
 ·omega
 ·omega
 ·exact h y h1
theorem MC{b:az}(hF:aQ w b c ps)(hm:Marks (aw ps))(p:List Nat)(a:az)(ca:Nat)(hp:ay w a p)(h1:1<=p.length)(h2:p.length<=4096)(jN:(aw ps).length+(ed (aw ps).length (ft p)).length<=524288):
 Calls Tryz.prog 86 #[bN b ps.length c,.slice a p.length ca] w λ e w'=>∃b' c' pc,e= .returned (.tuple #[bN b' (ps.length+1) c',.int .i64 (db (aw ps).length:Nat),.int .i64 0])/\aQ w' b' c' (ps++[pc])/\pc.2.1=ed (aw ps).length (ft p)/\(eZ w b'/\eZ w pc.1)/\Below w w w':=by
 obtain⟨N,hN⟩:=bL ((aw ps).length);obtain⟨ls,Pj⟩:=bL (ed N (ft p));rw[<-hN,<-Pj]at jN⊢;have zK:1<=ls.length:=by obtain⟨y,ys,e⟩:=ym p;rw[Pj,e];exact Mq _ _ _
 have hck:= λ (w2:World) (hb:Below w w w2)=>mA (hF.below hb);have DS:= λ (w2:World) (hb:Below w w w2)=>Rc p a ca w2 h1 h2 (hp.below hb);have vY:∀(w2:World),Below w w w2->∀g k,ay w2 (zp g) (ft p)->Calls Tryz.prog 114 #[bN b ps.length c,.slice (zp g) (6+p.length) k] w2 λ e w'=>∃g2 k2,e= .returned (.tuple (acM (zp g2) ls.length k2 (db N:Nat)))/\ay w' (zp g2) ls/\Below w2 w2 w':= λ w2 hb g k sk=>by
  have:=SH (hF.below hb) hm (ft p) (zp g) k sk oU oU;rw[qM,<-hN,<-Pj]at this;refine this.mono ?_;rintro e w' ⟨a',c',rfl,hr,hB⟩;obtain⟨g2,rfl⟩:∃g2,a'=some ⟨g2,0,none⟩:=by
   rcases bg hr with⟨_,h,_⟩|⟨g,_,rfl,_⟩
   ·omega
   ·exact⟨g,rfl⟩
  exact⟨g2,c',rfl,(dk hr (λ y hy=>by rw[Pj]at hy;exact Kk _ _ (Kv hp.1) y hy)).1,hB⟩
 have eh:∀(w2:World),Below w w w2->∀g k,ay w2 (zp g) ls->_:= λ w2 hb g k sk=>Pt (hF.below hb) ls g 0 k sk zK an (by rw[<-hN];exact jN);have cL:∀y∈ft p,y<256:=Kv hp.1;unfold bN at*;have LF:=ag hck;have HO:=ag DS;have HP:=ag vY;have Aw:=ag eh;have Hlt:=ag cL;have H1:Hid (Below w w ((w.alloc (.cells (fA b ps.length c) 31)).alloc (.cells kF 31))):=ag bW;generalize Ko:db N=be at*;clear hck DS vY eh cL hF hp jN hm hN Pj Ko;go_enter Tryz.func86,Tryz.ntmps86
 go_wp2_with first
  |((refine(LF.O _ H1.O).mono ?_);rintro e w2 ⟨rfl,bG⟩)
  |((refine(VE p.length h1 h2 _).mono ?_);rintro e w3 ⟨rfl,hh⟩;obtain rfl:=hh.symm)
  |fail
 have H2:=ag (H1.O.T (bG.mono H1.O.size));obtain⟨l8,j5⟩:=bu bG;have kA:=bG.size;simp only[bt]at kA;obtain⟨c0,c1,c2,c3,c4⟩:=dF l8;have HZ:=dO l8 j5;clear l8 j5 bG kA;refine ku 8 (λ w'=>w'.cell? (za w 0)=some (.slice none 0 0)/\w'.cell? (za w 1)=some (.slice b ps.length c)/\w'.cell? (za w 2)=some (.int .i64 (-1))/\w'.cell? (za w 3)=some (.int .i64 (-1))/\w'.cell? (za w 4)=some (.bool false)) bU ⟨c0,c1,c2,c3,c4⟩ (λ hS=>?_);refine tT 0 hS ?_;refine tT 1 hS ?_;refine sT 2 λ K hK=>?_;go_simp;refine(HO.O _ H2.O.drew).mono ?_;rintro e w4 ⟨g,k,rfl,Er,yX,dX⟩;have VT:=ag (dk yX Hlt.O).1;replace dX:=(ah _ w2).drew.T dX;clear yX;simp only[];refine et hK ?_ (λ hS=>?_)
 ·exact⟨carry (w:=w2) dX c0,carry (w:=w2) dX c1,carry (w:=w2) dX c2,carry (w:=w2) dX c3,carry (w:=w2) dX c4⟩
 clear hK K;refine sT 3 λ K hK=>?_;go_simp;refine(HP.O _ (H2.O.T (dX.mono H2.O.size)) g k VT.O).mono ?_;rintro e w5 ⟨g2,k2,rfl,afd,dV⟩;replace dV:=dX.T (dV.mono dX.size);have ael:=ag afd;clear afd;simp only[];refine et hK ?_ (λ hS=>?_)
 ·exact⟨carry (w:=w2) dV c0,carry (w:=w2) dV c1,carry (w:=w2) dV c2,carry (w:=w2) dV c3,carry (w:=w2) dV c4⟩
 clear hK K;refine tT 4 hS ?_;refine tT 5 hS ?_;refine tT 6 hS ?_;refine tT 7 hS ?_;refine sT 8 λ K hK=>?_;go_simp;refine ra hK ?_;clear hK K;refine nK bU ?_ _;replace c0:=carry (w:=w2) dV c0;replace c1:=carry (w:=w2) dV c1;replace c2:=carry (w:=w2) dV c2;replace c3:=carry (w:=w2) dV c3;replace c4:=carry (w:=w2) dV c4;have H5:=ag (H2.O.T (dV.mono H2.O.size));have jE:=ag dV;clear dX dV VT
 go_wp2_with fail
 refine(Aw.O _ H5.O g2 k2 ael.O).mono ?_;rintro e w6 ⟨b',c',pc,rfl,hF6,vY,nH,lP⟩;have hF:=((lP.block _ (aA (cS HZ.O.1).1 jE.O.size)).T (jE.O.block _ (cS HZ.O.1).1)).T HZ.O.1;have hR:=((lP.block _ (aA (cS HZ.O.2).1 jE.O.size)).T (jE.O.block _ (cS HZ.O.2).1)).T HZ.O.2;have t0:=af hF 0;have t1:=af hF 1;have t2:=af hF 2;have t3:=af hF 3;have t4:=af hF 4;have u0:=ax hF 0;have u1:=ax hF 1;have u2:=ax hF 2;have u3:=ax hF 3;have u4:=ax hF 4;obtain⟨w7,hw7⟩:=bL ((((((w6.setCell (za w 0) (.slice none 0 0)).setCell (za w 1) (.slice b' (ps.length+1) c')).setCell (za w 2) (.int .i64 (-1))).setCell (za w 3) (.int .i64 (-1))).setCell (za w 4) (.bool false)));have hF7:=Cp (v0:=.slice none 0 0) (v1:=.slice b' (ps.length+1) c') (v2:=.int .i64 (-1)) (v3:=.int .i64 (-1)) (v4:=.bool false) hF;have hR7:=(mW (W:=w6) (R:=w.heap.size) (v0:=.slice none 0 0) (v1:=.slice b' (ps.length+1) c') (v2:=.int .i64 (-1)) (v3:=.int .i64 (-1)) (v4:=.bool false) (w+1) an).T hR;rw[<-hw7]at hF7 hR7;simp only[cW]at t0 t1 t2 t3 t4;have SO:=ag hF7;have UH:=ag hR7;have HFF:=ag hF;have nz:=ag hw7;clear hR hF hF7 hR7 c0 c1 c2 c3 c4 hw7;have p0:=af SO.O 0;have p1:=af SO.O 1;have p2:=af SO.O 2;have p3:=af SO.O 3;have p4:=af SO.O 4;have r0:=af UH.O 0;have r1:=af UH.O 1;have r2:=af UH.O 2;have r3:=af UH.O 3;have r4:=af UH.O 4;have f0:=ax UH.O 0;have f1:=ax UH.O 1;have f2:=ax UH.O 2;have f3:=ax UH.O 3;have f4:=ax UH.O 4;simp only[cW]at p0 p1 p2 p3 p4 r0 r1 r2 r3 r4
 go_wp2_with first
  |(rw[<-nz.O])
  |fail
 refine bodyPost_ret (v:=.tuple #[.agg (fA b' (ps.length+1) c'),.int .i64 (be:Int),.int .i64 0]) ?_ bp ?_
 ·rw[C9 rfl];have hs:=af (Cp (v0:=.slice none 0 0) (v1:=.slice b' (ps.length+1) c') (v2:=.int .i64 (-1)) (v3:=.int .i64 (-1)) (v4:=.bool false) UH.O);exact nN
 ·have hq:∀j x:Nat,((fA b ps.length c):Array Value)[j]? ≠some (.int .u8 (x:Int)):= λ j x=>by
   match j with
   |0=>simp
   |1=>simp
   |2=>simp
   |3=>simp
   |4=>simp
   |j+5=>simp
  have pK:∀j x:Nat,(kF:Array Value)[j]? ≠some (.int .u8 (x:Int)):= λ j x=>by
   match j with
   |0=>simp
   |1=>simp
   |2=>simp
   |3=>simp
   |4=>simp
   |j+5=>simp
  have hg:∀G o,b'=some ⟨G,o,none⟩->w.heap.size+1<G:= λ G o e=>by have h1:w5.heap.size<=G:=nH.1 _ e;have h2:=(cS HZ.O.2).1;have h3:=jE.O.size;omega
  have hF7:=fQ (W:=w6) (W':=w7) (R:=w.heap.size) (λ j hj=>by rw[nz.O];exact mW j hj) HFF.O hq hF6 (λ G o e=>cm (hg G o e));have hB7:Below w w w7:=by rw[nz.O];exact(H5.O.T (lP.mono H5.O.size)).T (iw (cH))
  refine⟨b',c',pc,rfl,fQ (W:=w7) (λ j hj=>mW j hj) UH.O pK hF7 (λ G o e=>cm (hg G o e)),vY,⟨nH.1.mono H5.O.size,nH.2.mono H5.O.size⟩,hB7.T (iw an)⟩
end
abbrev iP(c:Int):Value:=.agg (Sq c)
theorem lC{fn:Func}{p:Tmp}(h:fn.results=#[.cell p ty])(tmps:Array Value)(P:Program)(w:World):
 (results fn tmps).run P w=((asAddr (tmps.getD p undef)).run P w).andThen λ a Ku=>(loadVar ty a).run P Ku:=by
 simp only[results,h];simp[eD,Result.andThen]
theorem rn{f:Field}{fs:List Field}{xs ys:Array Value}{a b:Value}(hn:(f.name== "_")=false)(ha:(part f.type xs f.offset).run P W= .ok a W)(hb:(part f.type ys f.offset).run P W= .ok b W)(he:(Op.equalIn d f.type a b).run P W= .ok r W):
 (Op.eqFields d xs ys (f::fs)).run P W=if r then(Op.eqFields d xs ys fs).run P W else .ok false W:=by
 have hn':f.name≠ "_" :=by simpa using hn
 rw[Op.eqFields,if_pos hn'];simp only[eD,ha,hb,he,Result.andThen];cases r<;>simp
theorem aaf{xs ys:Array Value}:(Op.eqFields d xs ys []).run P W= .ok true W:=by simp[Op.eqFields]
theorem Jf{xs ys:Array Value}{fs:List Field}(ht:P.underlying t=some (.struct (P.fieldsOf t)))(hf:(P.fieldsOf t).toList=fs)(hp:P.stoodInHeld t=false)(h:(Op.eqFields 9999 xs ys fs).run P W= .ok r W):
 (Op.equalIn 10000 t (.agg xs) (.agg ys)).run P W= .ok r W:=by
 rw[run_equalIn_struct W 9999 t xs ys ht hp,hf,h]
theorem MD(c c':Int)(W:World):(Op.equalIn 10000 33 (iP c) (iP c')).run Tryz.prog W= .ok (c==c') W:=by
 obtain⟨f0,f1,f2,f3,f4,f5,hf,h0,h1,h2,h3,h4,h5⟩:∃f0 f1 f2 f3 f4 f5:Field,(Tryz.prog.fieldsOf 33).toList=[f0,f1,f2,f3,f4,f5]/\(f0.type=3/\f0.offset=0/\(f0.name== "_")=false)/\(f1.type=3/\f1.offset=1/\(f1.name== "_")=false)/\(f2.type=2/\f2.offset=2/\(f2.name== "_")=false)/\(f3.type=23/\f3.offset=3/\(f3.name== "_")=false)/\(f4.type=2/\f4.offset=4/\(f4.name== "_")=false)/\(f5.type=2/\f5.offset=5/\(f5.name== "_")=false):=
  ⟨_,_,_,_,_,_,rfl,⟨rfl,rfl,rfl⟩,⟨rfl,rfl,rfl⟩,⟨rfl,rfl,rfl⟩,⟨rfl,rfl,rfl⟩,⟨rfl,rfl,rfl⟩,⟨rfl,rfl,rfl⟩⟩
 have hi:∀(k:IntKind) (t:TypeId) (a b:Int),Tryz.prog.underlying t=some (.int k)->(Op.equalIn 9999 t (.int k a) (.int k b)).run Tryz.prog W= .ok (a==b) W:= λ k t a b h=>run_equalIn_int W 9998 t k k a b h;refine Jf bU hf bU ?_;rw[rn (a:=.int .i64 c) (b:=.int .i64 c') (r:=c==c') h0.2.2 um um (by rw[h0.1];exact hi _ _ _ _ bU)];by_cases hc:c=c'
 ·subst hc;rw[beq_self_eq_true,if_pos rfl];rw[rn (a:=.int .i64 0) (b:=.int .i64 0) (r:=true) h1.2.2 EI EI (by rw[h1.1];exact hi _ _ _ _ bU),if_pos rfl];rw[rn (a:=.int .i64 0) (b:=.int .i64 0) (r:=true) h2.2.2 (by rw[h2.1,h2.2.1];kernel_rfl) (by rw[h2.1,h2.2.1];kernel_rfl) (by rw[h2.1];exact hi _ _ _ _ bU),if_pos rfl];rw[rn (a:=.int .u64 0) (b:=.int .u64 0) (r:=true) h3.2.2 (by rw[h3.1,h3.2.1];kernel_rfl) (by rw[h3.1,h3.2.1];kernel_rfl) (by rw[h3.1];exact hi _ _ _ _ bU),if_pos rfl];rw[rn (a:=.int .i64 0) (b:=.int .i64 0) (r:=true) h4.2.2 (by rw[h4.1,h4.2.1];kernel_rfl) (by rw[h4.1,h4.2.1];kernel_rfl) (by rw[h4.1];exact hi _ _ _ _ bU),if_pos rfl];rw[rn (a:=.int .i64 0) (b:=.int .i64 0) (r:=true) h5.2.2 (by rw[h5.1,h5.2.1];kernel_rfl) (by rw[h5.1,h5.2.1];kernel_rfl) (by rw[h5.1];exact hi _ _ _ _ bU),if_pos rfl];exact aaf
 ·rw[show(c==c')=false by simpa using hc];rfl
theorem aag(c c':Int)(W:World):(binOp BinOp.eql 33 (iP c) (iP c')).run Tryz.prog W= .ok (.bool (c==c')) W:=by rw[run_eql_struct,MD];rfl
theorem Ri(c c':Int)(W:World):(binOp BinOp.neq 33 (iP c) (iP c')).run Tryz.prog W= .ok (.bool (!(c==c'))) W:=by rw[run_neq_struct,MD];rfl
theorem Fq(c:Nat)(hc:c<=1073741824)(w:World):
 Calls Tryz.prog 226 #[iP c] w λ e w'=>e= .returned (.int .i64 0)/\Below w w w':=by
 have h1:decide ((c:Int)<0)=false:=by simp
 have h2:decide ((1073741824:Int)<(c:Int))=false:=dU;have heq:∀W:World,(binOp BinOp.eql 33 (iP c) (iP c)).run Tryz.prog W= .ok (.bool true) W:=by intro W;rw[aag,beq_self_eq_true]
 have HB:Hid (Below w w (w.alloc (.cells (qp c) 33))):=ag bW;go_enter Tryz.func226,Tryz.ntmps226
 go_wp2_with fail
 go_ret;exact⟨rfl,HB.O⟩
theorem aah(kv vv:Value)(hk:kv.oneCell'=true)(hv:vv.oneCell'=true)(n:Int)(w:World):
 Calls Tryz.prog 304 #[.agg #[kv,vv,.bool false,.int .i64 n]] w λ e w'=>e= .returned (iP 1)/\Below w w w':=by
 go_enter Tryz.func304,Tryz.ntmps304
 go_wp2_with fail
 exact bodyPost_ret (v:=iP 1) iq bp ⟨rfl,by go_grown⟩
theorem VV(c d:Nat)(hc:c+d<=1073741824)(w:World):
 Calls Tryz.prog 227 #[iP c,iP d] w λ e w'=>e= .returned (iP ((c:Int)+(d:Int)))/\Below w w w':=by
 go_enter Tryz.func227,Tryz.ntmps227
 go_wp2_with fail
 exact bodyPost_ret (v:=iP ((c:Int)+(d:Int))) iq bp ⟨rfl,by go_grown⟩
theorem Fs{a:az}(h:ay W a xs)(hl:xs.length=n):(Extern.Bytes.bytesOf (.slice a n c)).run Tryz.prog W= .ok ⟨⟨u8s xs⟩⟩ W:=by
 cases a with
 |none=>
  rcases h.2 with h0|⟨B,o,h1,_⟩
  ·subst h0;rfl
  ·cases h1
 |some p=>
  have:=Lib.run_loadBytesX (P:=Tryz.prog) W (xs.map Int.ofNat) p .empty (λ j x hj=>by
   obtain⟨y,hy,rfl⟩:∃y,xs[j]? =some y/\Int.ofNat y=x:=by simpa using hj
   rcases h.2 with h0|⟨B,o,h1,h2⟩
   ·rw[h0]at hy;cases hy
   ·cases h1;rw[rm];exact h2 j y hy)
  rw[aR,hl]at this;show(Extern.Bytes.loadBytes p n .empty).run Tryz.prog W=_;rw[this];congr 1;apply ByteArray.ext;simp[Lib.bytesOf,Nat.toUInt8,u8s]
theorem ME{a b:az}(hx:ay W a xs)(hy:ay W b ys)(hn:xs.length=n)(hm:ys.length=m):
 (callFunc 201 (fP a n c b m d)).run Tryz.prog W= .ok (.value (.int .i64 (cmpL xs ys))) W:=by
 rw[run_callFunc_extern (fn:=Tryz.f201) bU bU bU bU (e:=Extern.BytealgCompare.compare) bU];have e:(Extern.BytealgCompare.compare (fP a n c b m d)).run Tryz.prog W= .ok (.int .i64 (cmpL xs ys)) W:=by
  change Sem.run Tryz.prog (do pure (goInt (Extern.BytealgCompare.cmp (<-Extern.Bytes.bytesOf (.slice a n c)) (<-Extern.Bytes.bytesOf (.slice b m d))))) W=_
  simp only[eD,Sem.run_pure,Fs hx hn,Fs hy hm,Result.andThen_ok];rw[Lib.cmp_eq,<-Da xs ys hx.1 hy.1];rfl
 rw[e];rfl
theorem nj{a b:az}(hx:ay w a xs)(hy:ay w b ys)(hn:xs.length=n)(hm:ys.length=m):
 Calls Tryz.prog 166 (fP a n c b m d) w λ e w'=>e= .returned (.int .i64 (cmpL xs ys))/\w'=w:=by
 have h:=ME (c:=c) (d:=d) hx hy hn hm;clear hx hy hn hm;go_enter Tryz.func166,Tryz.ntmps166
 go_wp2_with fail
 go_ret;exact⟨rfl,rfl⟩
theorem VW:∀(xs ys:List Nat),(∀x∈xs,x<256)->(∀y∈ys,y<256)->xs.map UInt8.ofNat=ys.map UInt8.ofNat->xs=ys
 |[],[],_,_,_=>rfl
 |[],_::_,_,_,h=>by simp at h
 |_::_,[],_,_,h=>by simp at h
 |x::xs,y::ys,hx,hy,h=>by
  simp only[bF,eK]at h;have h1:=congrArg UInt8.toNat h.1;have a:=hx x cP;have b:=hy y cP;simp[cl a,cl b]at h1;rw[h1,VW xs ys (λ z hz=>hx z (by simp[hz])) (λ z hz=>hy z (by simp[hz])) h.2]
theorem MF(hx:∀x∈xs,x<256)(hy:∀y∈ys,y<256):((cE xs).toList==(cE ys).toList)=decide (xs=ys):=by rw[gW,gW];rw[Bool.eq_iff_iff];simp only[cE,beq_iff_eq,decide_eq_true_eq];exact⟨VW xs ys hx hy, λ h=>by rw[h]⟩
theorem Cq{a b:az}(hx:ay w a xs)(hy:ay w b ys)(hn:xs.length=n)(hm:ys.length=m):
 Calls Tryz.prog 173 (fP a n c b m d) w λ e w'=>e= .returned (.bool (decide (xs=ys)))/\w'=w:=by
 have h1:=fu (c:=c) hx hn;have h2:=fu (c:=d) hy hm;have h3:=MF hx.1 hy.1;have H3:=ag h3;clear hx hy hn hm h3;go_enter Tryz.func173,Tryz.ntmps173
 go_wp2_with fail
 go_ret;exact⟨by rw[<-H3.O];rfl,rfl⟩
theorem MG{fz:Nat×Nat}(h:W.heap[R]? =some (.cells #[a0,a1,a2,a3,a4,a5] t fz)):
 ((((((W.setCell (za R 0) v0).setCell (za R 1) v1).setCell (za R 2) v2).setCell (za R 3) v3).setCell (za R 4) v4).setCell (za R 5) v5).heap[R]? =some (.cells #[v0,v1,v2,v3,v4,v5] t fz):=by
 have:=aU (j:=5) v5 (aU (j:=4) v4 (aU (j:=3) v3 (aU (j:=2) v2 (aU (j:=1) v1 (aU (j:=0) v0 h)))));simpa using this
theorem Pw(j:Nat)(hj:j≠R):
 ((((((W.setCell (za R 0) v0).setCell (za R 1) v1).setCell (za R 2) v2).setCell (za R 3) v3).setCell (za R 4) v4).setCell (za R 5) v5).heap[j]? =W.heap[j]? :=by
 rw[aq _ _ _ _ hj,aq _ _ _ _ hj,aq _ _ _ _ hj,aq _ _ _ _ hj,aq _ _ _ _ hj,aq _ _ _ _ hj]
theorem mb(h:n₀<=R):
 Below n₀ W ((((((W.setCell (za R 0) v0).setCell (za R 1) v1).setCell (za R 2) v2).setCell (za R 3) v3).setCell (za R 4) v4).setCell (za R 5) v5):=
 ((((((ah n₀ W).setCell (p:=(za R 0)) h _).setCell (p:=(za R 1)) h _).setCell (p:=(za R 2)) h _).setCell (p:=(za R 3)) h _).setCell (p:=(za R 4)) h _).setCell (p:=(za R 5)) h _
theorem kI(h:W.heap[R]? =some (.cells #[a0,a1,a2,a3,a4,a5] t)):
 W.cell? (za R 0)=some a0/\W.cell? (za R 1)=some a1/\W.cell? (za R 2)=some a2/\W.cell? (za R 3)=some a3/\W.cell? (za R 4)=some a4/\W.cell? (za R 5)=some a5:=by
 refine⟨?_,?_,?_,?_,?_,?_⟩<;>rw[af h]<;>rfl
theorem AJ(h:W.heap[R]? =some (.cells cs t)):
 W.frozen? ⟨R,0,none⟩=false/\W.frozen? ⟨R,1,none⟩=false/\W.frozen? ⟨R,2,none⟩=false/\W.frozen? ⟨R,3,none⟩=false/\W.frozen? ⟨R,4,none⟩=false/\W.frozen? ⟨R,5,none⟩=false:=
 ⟨ax h 0,ax h 1,ax h 2,ax h 3,ax h 4,ax h 5⟩
abbrev yY(kv vv:Value):Value:=.agg #[kv,vv,.bool false,.int .i64 0]
abbrev SP(kv:Value)(at_ c:Int):Value:=.agg #[kv,.int .i64 at_,.int .i64 c,.int .i64 0,.int .i64 0,.int .u64 0,.int .i64 0,.int .i64 0]
theorem Cr(a:az)(n c:Nat)(b:az)(m d:Nat)(w:World):
 Calls Tryz.prog 300 #[yY (.slice a n c) (.slice b m d)] w λ e w'=>e= .returned (.slice a n c)/\Below w w w':=by
 go_enter Tryz.func300,Tryz.ntmps300
 go_wp2_with fail
 go_ret;exact⟨rfl,by go_grown⟩
theorem MH(a:az)(n c:Nat)(b:az)(m d:Nat)(hm:m<=100)(w:World):
 Calls Tryz.prog 299 #[yY (.slice a n c) (.slice b m d)] w λ e w'=>e= .returned (.bool true)/\Below w w w':=by
 have h:decide ((m:Int)<=100)=true:=dU;go_enter Tryz.func299,Tryz.ntmps299
 go_wp2_with fail
 go_ret;exact⟨rfl,by go_grown⟩
theorem Ft(a:az)(n c:Nat)(b:az)(m d:Nat)(w:World):
 Calls Tryz.prog 301 #[yY (.slice a n c) (.slice b m d)] w λ e w'=>e= .returned (iP 1)/\Below w w w':=by
 go_enter Tryz.func301,Tryz.ntmps301
 go_wp2_with first
  |((with_reducible refine(aah (.slice a n c) (.slice b m d) rfl rfl 0 _).mono ?_);rintro e w2 ⟨rfl,bG⟩;obtain⟨-,hz⟩:=bu bG;obtain⟨r0,r1,r2,r3,r4,r5⟩:=kI hz;obtain⟨f0,f1,f2,f3,f4,f5⟩:=AJ hz;have HZ:=ag hz;have HB:=ag bG;clear hz bG)
  |fail
 refine bodyPost_ret (v:=iP 1) ?_ bp ⟨rfl,?_⟩
 ·obtain⟨s0,s1,s2,s3,s4,s5⟩:=kI (MG (v0:=.int .i64 1) (v1:=.int .i64 0) (v2:=.int .i64 0) (v3:=.int .u64 0) (v4:=.int .i64 0) (v5:=.int .i64 0) HZ.O);rw[lC rfl];go_simp
 ·exact((((ah _ w).alloc (cH) _).alloc cP _).T (HB.O.mono dU)).T (mb (bk _))
theorem Cs(a:az)(n c:Nat)(at_ k:Int)(w:World):
 Calls Tryz.prog 307 #[SP (.slice a n c) at_ k] w λ e w'=>e= .returned (.slice a n c)/\Below w w w':=by
 go_enter Tryz.func307,Tryz.ntmps307
 go_wp2_with fail
 go_ret;exact⟨rfl,by go_grown⟩
theorem Fu(a:az)(n c:Nat)(at_ k:Int)(w:World):
 Calls Tryz.prog 308 #[SP (.slice a n c) at_ k] w λ e w'=>e= .returned (iP k)/\Below w w w':=by
 go_enter Tryz.func308,Tryz.ntmps308
 go_wp2_with fail
 exact bodyPost_ret (v:=iP k) iq bp ⟨rfl,by go_grown⟩
theorem MI(a:az)(n c:Nat)(at_ k:Nat)(h1:1<=at_)(h2:at_<524288)(h3:1<=k)(h4:k<=1073741824)(w:World):
 Calls Tryz.prog 306 #[SP (.slice a n c) at_ k] w λ e w'=>e= .returned (.bool true)/\Below w w w':=by
 have e1:decide ((1:Int)<=(at_:Int))=true:=dU;have e2:decide ((at_:Int)<524288)=true:=dU;have e3:decide ((1:Int)<=(k:Int))=true:=dU;have HM:=ag λ w=>Fq k h4 w;clear h1 h2 h3;have HB:Hid (Below w w (w.alloc (.cells (jl a n c at_ k) 363))):=ag bW;go_enter Tryz.func306,Tryz.ntmps306
 go_wp2_with first
  |((with_reducible refine(HM.O _).mono ?_);rintro e w2 ⟨rfl,bG⟩)
  |fail
 go_ret;exact⟨rfl,HB.O.T (bG.mono HB.O.size)⟩
section
attribute [-go_sem] Builtin.append_
structure aH where
 ka:az
 key:List Nat
 kc:Nat
 va:az
 val:List Nat
 vc:Nat
structure a8 where
 ka:az
 key:List Nat
 kc:Nat
 at_:Nat
 count:Nat
def aH.v(x:aH):Value:=yY (.slice x.ka x.key.length x.kc) (.slice x.va x.val.length x.vc)
def a8.v(x:a8):Value:=SP (.slice x.ka x.key.length x.kc) x.at_ x.count
def aH.cells(x:aH):List Value:=(il x.ka x.key.length x.kc x.va x.val.length x.vc)
def a8.cells(x:a8):List Value:=(jl x.ka x.key.length x.kc x.at_ x.count)
def ec(W:World)(a:az)(xs:List aH):Prop:=
 (xs=[]\/∃B o,a=some ⟨B,o,none⟩/\∀(j:Nat) (x:aH),xs[j]? =some x->W.cell? ⟨B,o+j*4,none⟩=some (.slice x.ka x.key.length x.kc)/\W.cell? ⟨B,o+j*4+1,none⟩=some (.slice x.va x.val.length x.vc)/\W.cell? ⟨B,o+j*4+2,none⟩=some (.bool false)/\W.cell? ⟨B,o+j*4+3,none⟩=some (.int .i64 0))/\
 ∀x∈xs,ay W x.ka x.key/\ay W x.va x.val
def kJ(W:World)(a:az)(xs:List a8):Prop:=
 (xs=[]\/∃B o,a=some ⟨B,o,none⟩/\∀(j:Nat) (x:a8),xs[j]? =some x->∀(i:Nat) (v:Value),x.cells[i]? =some v->W.cell? ⟨B,o+j*8+i,none⟩=some v)/\
 ∀x∈xs,ay W x.ka x.key
theorem ec.below{W W':World}{a:az}{xs:List aH}(h:ec W a xs)(hb:Below W W W'):ec W' a xs:=by
 refine⟨?_, λ x hx=>⟨(h.2 x hx).1.below hb,(h.2 x hx).2.below hb⟩⟩;rcases h.1 with h0|⟨B,o,e,hc⟩
 ·exact .inl h0
 ·exact .inr ⟨B,o,e, λ j x hj=>⟨carry hb (hc j x hj).1,carry hb (hc j x hj).2.1,carry hb (hc j x hj).2.2.1,carry hb (hc j x hj).2.2.2⟩⟩
theorem kJ.below{W W':World}{a:az}{xs:List a8}(h:kJ W a xs)(hb:Below W W W'):kJ W' a xs:=by
 refine⟨?_, λ x hx=>(h.2 x hx).below hb⟩;rcases h.1 with h0|⟨B,o,e,hc⟩
 ·exact .inl h0
 ·exact .inr ⟨B,o,e, λ j x hj i v hi=>carry hb (hc j x hj i v hi)⟩
def qf(x:aH):Value:=.iface 362 x.v
def qg(x:a8):Value:=.iface 363 x.v
theorem Tryz.MJ:(Tryz.prog.info? 332).map (λ i=>(i.zero,i.size,i.bytes))=some (some .nilIface,1,16):=bU
theorem vZ(h:p:=by
 obtain rfl:j=xs.length:=an;rw[bd]at bA
 go_wp2_with fail
 go_ret2;exact⟨p,k,rfl,bA.O,hB.O⟩
 ):p:=h
theorem wa(h:p:=by
 rw[bt]at eh;clear hx jC Is ti
 go_wp2_with fail
 exact⟨⟨j+1,an,by simp,_,_,rfl,ag jD.O.1,ag jD.O.2⟩,by simp[intOf];omega⟩
 ):p:=h
theorem uF{a:az}{xs:List aH}(c:Nat)(h:ec w a xs)(hl:xs.length<=1000)(b:az)(m d:Nat):
 Calls Tryz.prog 204 #[.agg #[.bool true,.slice a xs.length c,.slice b m d]] w λ e w'=>∃p k,e= .returned (.tuple #[.slice p xs.length k,.int .i64 1])/\w'.ownsRow w 332 1 (.slice p xs.length k) xs.length (xs.map qf)/\Below w w w':=by
 have H:=ag h;have j4:Hid (Below w w (w.alloc (.cells #[.bool true,.slice a xs.length c,.slice b m d] 147))):=ag bW;clear h;go_enter Tryz.func204,Tryz.ntmps204
 go_wp2_with fail
 go_loopw [2,13] (λ rv iv wr=>∃j:Nat,j<=xs.length/\iv= .int .i64 (j:Int)/\∃p k,rv= .slice p j k/\Hid (wr.ownsRow w 332 1 (.slice p j k) j ((xs.take j).map qf))/\Hid (Below w w wr)) (λ _ iv _=>xs.length - (intOf iv).toNat)
 case atStart=>exact⟨0,aD _,rfl,none,0,rfl,ag ⟨by simp,.inl ⟨rfl,rfl⟩⟩,j4⟩
 case round=>
  obtain⟨j,hj,rfl,p,k,rfl,bA,hB⟩:=hrel;by_cases cL:j<xs.length
  ·obtain⟨x,hx⟩:∃x,xs[j]? =some x:=⟨xs[j],by simp[cL]⟩;obtain⟨B,o,rfl,hc⟩:∃B o,a=some ⟨B,o,none⟩/\_:=by
    rcases(H.O.below hB.O).1 with h0|⟨B,o,e,hc⟩
    ·rw[h0]at cL;simp at cL
    ·exact⟨B,o,e,hc j x hx⟩
   obtain⟨c0,c1,c2,c3⟩:=hc;obtain⟨g',c',w',eh,jC,Is,ti, -, -⟩:=kZ (P:=Tryz.prog) 328 332 .nilIface 1 16 bU Tryz.MJ rfl de (W:=wr.alloc (.cells (il x.ka x.key.length x.kc x.va x.val.length x.vc) 101)) #[qf x] rfl (by simp[qf,Value.oneCell']) (bA.O.alloc _) an an zt;have jD:=ag (show w'.ownsRow w 332 1 (.slice (zp g') (j+1) c') (j+1) ((xs.take (j+1)).map qf)/\Below w w w' from⟨by rw[aL,hx];simpa using jC,hB.O.T ((((ah _ wr).alloc (cH) _).mono hB.O.size).T Is)⟩);have eb:((j:Int)<(xs.length:Int)):=an;have hjb:(j:Int)<=1000:=an;unfold qf aH.v at eh;exact wa
  ·exact vZ
theorem sl{a:az}{xs:List a8}(c:Nat)(h:kJ w a xs)(hl:xs.length<=1000)(b:az)(m d:Nat):
 Calls Tryz.prog 204 (BX (.agg (zm b m d a xs.length c))) w λ e w'=>∃p k,e= .returned (.tuple #[.slice p xs.length k,.int .i64 2])/\w'.ownsRow w 332 1 (.slice p xs.length k) xs.length (xs.map qg)/\Below w w w':=by
 have H:=ag h;have j4:Hid (Below w w (w.alloc (.cells (zm b m d a xs.length c) 147))):=ag bW;clear h;go_enter Tryz.func204,Tryz.ntmps204
 go_wp2_with fail
 go_loopw [2,27] (λ rv iv wr=>∃j:Nat,j<=xs.length/\iv= .int .i64 (j:Int)/\∃p k,rv= .slice p j k/\Hid (wr.ownsRow w 332 1 (.slice p j k) j ((xs.take j).map qg))/\Hid (Below w w wr)) (λ _ iv _=>xs.length - (intOf iv).toNat)
 case atStart=>exact⟨0,aD _,rfl,none,0,rfl,ag ⟨by simp,.inl ⟨rfl,rfl⟩⟩,j4⟩
 case round=>
  obtain⟨j,hj,rfl,p,k,rfl,bA,hB⟩:=hrel;by_cases cL:j<xs.length
  ·obtain⟨x,hx⟩:∃x,xs[j]? =some x:=⟨xs[j],by simp[cL]⟩;obtain⟨B,o,rfl,hc⟩:∃B o,a=some ⟨B,o,none⟩/\_:=by
    rcases(H.O.below hB.O).1 with h0|⟨B,o,e,hc⟩
    ·rw[h0]at cL;simp at cL
    ·exact⟨B,o,e,hc j x hx⟩
   have c0:=hc 0 _ rfl;have c1:=hc 1 _ rfl;have c2:=hc 2 _ rfl;have c3:=hc 3 _ rfl;have c4:=hc 4 _ rfl;have c5:=hc 5 _ rfl;have c6:=hc 6 _ rfl;have c7:=hc 7 _ rfl;rw[bb]at c0;clear hc;obtain⟨g',c',w',eh,jC,Is,ti, -, -⟩:=kZ (P:=Tryz.prog) 328 332 .nilIface 1 16 bU Tryz.MJ rfl de (W:=wr.alloc (.cells (jl x.ka x.key.length x.kc x.at_ x.count) 144)) #[qg x] rfl (by simp[qg,Value.oneCell']) (bA.O.alloc _) an an zt;have jD:=ag (show w'.ownsRow w 332 1 (.slice (zp g') (j+1) c') (j+1) ((xs.take (j+1)).map qg)/\Below w w w' from⟨by rw[aL,hx];simpa using jC,hB.O.T ((((ah _ wr).alloc (cH) _).mono hB.O.size).T Is)⟩);have eb:((j:Int)<(xs.length:Int)):=an;have hjb:(j:Int)<=1000:=an;unfold qg a8.v at eh;exact wa
  ·exact vZ
end
theorem kK{e:TypeId}{vs:List Value}(h:W.ownsRow n₀ e 1 (.slice (zp g) k c) k vs)(j:Nat)(v:Value)(hj:vs[j]? =some v):W.cell? ⟨g,j,none⟩=some v:=by
 rcases h.2 with⟨h2,_⟩|⟨g',cap,cur,h2,hb,hg,_,_,_,ht⟩
 ·cases h2
 ·cases h2;rw[<-ht,bB]at hj;split at hj
  ·simp only[World.cell?,hg];simpa using hj
  ·cases hj
def cR(ks:List (List Nat)):Prop:=∀j a b,ks[j]? =some a->ks[j+1]? =some b->lj a b
structure nO(xs:List aH):Prop where
 MK:1<=xs.length
 mE:xs.length<=6
 key:∀x∈xs,1<=x.key.length/\x.key.length<=120/\x.val.length<=100
 zM:cR (xs.map aH.key)
structure gM(xs:List a8):Prop where
 ML:2<=xs.length
 mE:xs.length<=6
 key:∀x∈xs,1<=x.key.length/\x.key.length<=120/\1<=x.at_/\x.at_<524288/\1<=x.count/\x.count<=100000
 zM:cR (xs.map a8.key)
def IC(xs:List aH):Nat:=xs.length
def nA(xs:List a8):Nat:=(xs.map a8.count).sum
theorem SQ(xs:List aH)(j:Nat)(x:aH)(h:xs[j]? =some x):IC (xs.take (j+1))=IC (xs.take j)+1:=by rw[aL,h];simp[IC]
theorem Jh(xs:List a8)(j:Nat)(x:a8)(h:xs[j]? =some x):nA (xs.take (j+1))=nA (xs.take j)+x.count:=by rw[aL,h];simp[nA]
theorem Et:∀(xs:List a8),(∀x∈xs,x.count<=100000)->nA xs<=xs.length*100000
 |[],_=>by simp[nA]
 |x::xs,h=>by
  have h1:=Et xs (λ y hy=>h y kj);have h2:=h x cP;simp only[nA,bF,iT,aK]at*;omega
theorem wb(h:p:=by
 rw[show cmpL x.key y.key= -1 from ho.zM j _ _ jz kj]at this;refine this.mono ?_;rintro e w' ⟨rfl,rfl⟩;exact⟨rfl,rfl⟩
 ):p:=h
theorem zN{a:az}{xs:List aH}(c:Nat)(h:ec w a xs)(ho:nO xs)(b:az)(d:Nat):
 Calls Tryz.prog 203 #[.agg #[.bool true,.slice a xs.length c,.slice b 0 d]] w λ e w'=>e= .returned (.int .i64 0)/\Below w w w':=by
 have hlen:=ho.mE;have Fv:=ho.MK;have hP:= λ (w2:World) (hb:Below w w w2)=>uF c (h.below hb) an b 0 d;have hC:∀(j:Nat) (x y:aH),xs[j]? =some x->xs[j+1]? =some y->∀w2,Below w w w2->Calls Tryz.prog 166 (fP x.ka x.key.length x.kc y.ka y.key.length y.kc) w2 λ e w'=>e= .returned (.int .i64 (-1))/\w2=w':= λ j x y hx hy w2 hb=>by have e1:=(h.below hb).2 x (ak hx);have e2:=(h.below hb).2 y (ak hy);have:=nj (c:=x.kc) (d:=y.kc) e1.1 e2.1 rfl rfl;exact wb
 have HP:=ag hP;have HC:=ag hC;have HO:=ag ho;have j4:Hid (Below w w (w.alloc (.cells #[.bool true,.slice a xs.length c,.slice b 0 d] 147))):=ag bW;have g1:decide (((6:Int))<(xs.length:Int))=false:=dU;have g2:decide ((xs.length:Int)<(1:Int))=false:=dU;have g3:decide ((xs.length:Int)<(2:Int))=decide ((xs.length:Int)<2):=rfl;have g4:(0:Int)<(xs.length:Int):=an;have hfd:∀(q:Int) (W:World),(Instr.field 33 (iP q) 0).run Tryz.prog W= .ok (.int .i64 q) W:= λ q W=>bU;clear h hP hC ho;go_enter Tryz.func203,Tryz.ntmps203
 go_wp2_with first
  |((with_reducible refine(HP.O _ j4.O).mono ?_);rintro e w2 ⟨p,k,rfl,bA,bG⟩)
  |fail
 obtain⟨g,rfl⟩:∃g,p=some ⟨g,0,none⟩:=by
  rcases bg bA with⟨_,h,_⟩|⟨g,_,rfl,_⟩
  ·omega
  ·exact⟨g,rfl⟩
 have HR:=ag bA;have eJ:=ag (j4.O.T (bG.mono j4.O.size));clear bA bG
 go_loopw [5,51] (λ cv iv wr=>∃j:Nat,j<=xs.length/\iv= .int .i64 (j:Int)/\cv= .int .i64 (IC (xs.take j):Nat)/\Hid (Below w2 w2 wr)) (λ _ iv _=>xs.length - (intOf iv).toNat)
 case atStart=>exact⟨0,aD _,rfl,by simp[IC],ag (gb)⟩
 case round=>
  obtain⟨j,hj,rfl,rfl,hB⟩:=hrel;by_cases cL:j<xs.length
  ·obtain⟨x,hx⟩:∃x,xs[j]? =some x:=⟨xs[j],by simp[cL]⟩;have Kb:=HO.O.key x (ak hx);have dK:wr.cell? ⟨g,j,none⟩=some (qf x):=carry hB.O (kK HR.O j _ jz);have vx:=SQ xs j x hx;have zO:IC (xs.take j)<=700000:=by
    have:(xs.take j).length<=xs.length:=by rw[aX];omega
    show(xs.take j).length<=_;omega
   have yJ:Below w w wr:=eJ.O.T (hB.O.mono eJ.O.size);have k1:decide ((x.key.length:Int)<1)=false:=dU;have k2:decide ((120:Int)<(x.key.length:Int))=false:=dU;have jN:Hid (((IC (xs.take j):Nat):Int)+1=((IC (xs.take (j+1)):Nat):Int)):=ag (by rw[vx];simp);have hsi:((IC (xs.take j):Nat):Int)<=700000:=an;obtain⟨S,hS⟩:∃S:Int,S=((IC (xs.take j):Nat):Int):=⟨_,rfl⟩;rw[<-hS]at hsi jN⊢;have hS0:(0:Int)<=S:=an;have HX:=ag hx;have HMX:=ag Kb;have mn:(j:Int)<(xs.length:Int):=an;have zP:(j:Int)<=6:=an;unfold qf aH.v at dK;have k3:=(1:Nat);clear hx Kb vx zO hS yJ;by_cases Db:j=0
   ·subst Db
    go_wp2_with first
     |((with_reducible refine(Cr _ _ _ _ _ _ _).mono ?_);rintro e wn ⟨rfl,ke⟩;replace hB:=ag (hB.O.T (ke.mono hB.O.size));clear ke)
     |((with_reducible refine(MH _ _ _ _ _ _ HMX.O.2.2 _).mono ?_);rintro e wn ⟨rfl,ke⟩;replace hB:=ag (hB.O.T (ke.mono hB.O.size));clear ke)
     |((with_reducible refine(Ft _ _ _ _ _ _ _).mono ?_);rintro e wn ⟨rfl,ke⟩;replace hB:=ag (hB.O.T (ke.mono hB.O.size));clear ke)
     |fail
    exact⟨⟨1,an,by simp,jN.O▸rfl,hB⟩,by simp[intOf]<;>omega⟩
   ·obtain⟨i,rfl⟩:∃i,j=i+1:=⟨j - 1,an⟩;obtain⟨y,hy⟩:∃y,xs[i]? =some y:=⟨xs[i],by simp⟩;have mX:wr.cell? ⟨g,i,none⟩=some (qf y):=carry hB.O (kK HR.O i _ kj);have SJ:=ag (HC.O i y x hy HX.O);unfold qf aH.v at mX;have vw:(0:Int)<((i:Int)+1):=an;have Ha:(i:Int)<(xs.length:Int):=an;clear hy Db
    go_wp2_with first
     |((with_reducible refine(Cr _ _ _ _ _ _ _).mono ?_);rintro e wn ⟨rfl,ke⟩;replace hB:=ag (hB.O.T (ke.mono hB.O.size));replace mX:=carry ke mX;clear ke)
     |((with_reducible refine(MH _ _ _ _ _ _ HMX.O.2.2 _).mono ?_);rintro e wn ⟨rfl,ke⟩;replace hB:=ag (hB.O.T (ke.mono hB.O.size));replace mX:=carry ke mX;clear ke)
     |((with_reducible refine(Ft _ _ _ _ _ _ _).mono ?_);rintro e wn ⟨rfl,ke⟩;replace hB:=ag (hB.O.T (ke.mono hB.O.size));replace mX:=carry ke mX;clear ke)
     |((with_reducible refine(SJ.O _ (eJ.O.T (hB.O.mono eJ.O.size))).mono ?_);rintro e wn ⟨rfl,rfl⟩)
     |fail
    exact⟨⟨i+1+1,an,by simp,jN.O▸rfl,hB⟩,by simp[intOf]<;>omega⟩
  ·obtain rfl:j=xs.length:=an
   go_wp2_with fail
   go_ret;exact⟨rfl,eJ.O.T (hB.O.mono eJ.O.size)⟩
theorem wc{a:az}{xs:List a8}(c:Nat)(h:kJ w a xs)(ho:gM xs)(b:az)(d:Nat):
 Calls Tryz.prog 203 (BX (.agg (zm b 0 d a xs.length c))) w λ e w'=>e= .returned (.int .i64 0)/\Below w w w':=by
 have hlen:=ho.mE;have Fv:=ho.ML;have hP:= λ (w2:World) (hb:Below w w w2)=>sl c (h.below hb) an b 0 d;have hC:∀(j:Nat) (x y:a8),xs[j]? =some x->xs[j+1]? =some y->∀w2,Below w w w2->Calls Tryz.prog 166 (fP x.ka x.key.length x.kc y.ka y.key.length y.kc) w2 λ e w'=>e= .returned (.int .i64 (-1))/\w2=w':= λ j x y hx hy w2 hb=>by have e1:=(h.below hb).2 x (ak hx);have e2:=(h.below hb).2 y (ak hy);have:=nj (c:=x.kc) (d:=y.kc) e1 e2 rfl rfl;exact wb
 have HP:=ag hP;have HC:=ag hC;have HO:=ag ho;have j4:Hid (Below w w (w.alloc (.cells (zm b 0 d a xs.length c) 147))):=ag bW;have g1:decide (((6:Int))<(xs.length:Int))=false:=dU;have g2:decide ((xs.length:Int)<(1:Int))=false:=dU;have g3:decide ((xs.length:Int)<(2:Int))=false:=dU;have g4:(0:Int)<(xs.length:Int):=an;have hfd:∀(q:Int) (W:World),(Instr.field 33 (iP q) 0).run Tryz.prog W= .ok (.int .i64 q) W:= λ q W=>bU;clear h hP hC ho;go_enter Tryz.func203,Tryz.ntmps203
 go_wp2_with first
  |((with_reducible refine(HP.O _ j4.O).mono ?_);rintro e w2 ⟨p,k,rfl,bA,bG⟩)
  |fail
 obtain⟨g,rfl⟩:∃g,p=some ⟨g,0,none⟩:=by
  rcases bg bA with⟨_,h,_⟩|⟨g,_,rfl,_⟩
  ·omega
  ·exact⟨g,rfl⟩
 have HR:=ag bA;have eJ:=ag (j4.O.T (bG.mono j4.O.size));clear bA bG
 go_loopw [5,51] (λ cv iv wr=>∃j:Nat,j<=xs.length/\iv= .int .i64 (j:Int)/\cv= .int .i64 (nA (xs.take j):Nat)/\Hid (Below w2 w2 wr)) (λ _ iv _=>xs.length - (intOf iv).toNat)
 case atStart=>exact⟨0,aD _,rfl,by simp[nA],ag (gb)⟩
 case round=>
  obtain⟨j,hj,rfl,rfl,hB⟩:=hrel;by_cases cL:j<xs.length
  ·obtain⟨x,hx⟩:∃x,xs[j]? =some x:=⟨xs[j],by simp[cL]⟩;have Kb:=HO.O.key x (ak hx);have dK:wr.cell? ⟨g,j,none⟩=some (qg x):=carry hB.O (kK HR.O j _ jz);have vx:=Jh xs j x hx;have zO:nA (xs.take j)<=700000:=by
    have h1:=Et (xs.take j) (λ y hy=>by have:=(HO.O.key y (aP hy)).2.2.2.2.2;omega);rw[aX]at h1;omega
   have yJ:Below w w wr:=eJ.O.T (hB.O.mono eJ.O.size);have k1:decide ((x.key.length:Int)<1)=false:=dU;have k2:decide ((120:Int)<(x.key.length:Int))=false:=dU;have jN:Hid (((nA (xs.take j):Nat):Int)+(x.count:Int)=((nA (xs.take (j+1)):Nat):Int)):=ag (by rw[vx];simp);have hsi:((nA (xs.take j):Nat):Int)<=700000:=an;obtain⟨S,hS⟩:∃S:Int,S=((nA (xs.take j):Nat):Int):=⟨_,rfl⟩;rw[<-hS]at hsi jN⊢;have hS0:(0:Int)<=S:=an;have HX:=ag hx;have HMX:=ag Kb;have mn:(j:Int)<(xs.length:Int):=an;have zP:(j:Int)<=6:=an;unfold qg a8.v at dK;have k3:(x.count:Int)<=100000:=an;clear hx Kb vx zO hS yJ;by_cases Db:j=0
   ·subst Db
    go_wp2_with first
     |((with_reducible refine(Cs _ _ _ _ _ _).mono ?_);rintro e wn ⟨rfl,ke⟩;replace hB:=ag (hB.O.T (ke.mono hB.O.size));clear ke)
     |((with_reducible refine(MI _ _ _ _ _ HMX.O.2.2.1 HMX.O.2.2.2.1 HMX.O.2.2.2.2.1 an _).mono ?_);rintro e wn ⟨rfl,ke⟩;replace hB:=ag (hB.O.T (ke.mono hB.O.size));clear ke)
     |((with_reducible refine(Fu _ _ _ _ _ _).mono ?_);rintro e wn ⟨rfl,ke⟩;replace hB:=ag (hB.O.T (ke.mono hB.O.size));clear ke)
     |fail
    exact⟨⟨1,an,by simp,jN.O▸rfl,hB⟩,by simp[intOf]<;>omega⟩
   ·obtain⟨i,rfl⟩:∃i,j=i+1:=⟨j - 1,an⟩;obtain⟨y,hy⟩:∃y,xs[i]? =some y:=⟨xs[i],by simp⟩;have mX:wr.cell? ⟨g,i,none⟩=some (qg y):=carry hB.O (kK HR.O i _ kj);have SJ:=ag (HC.O i y x hy HX.O);unfold qg a8.v at mX;have vw:(0:Int)<((i:Int)+1):=an;have Ha:(i:Int)<(xs.length:Int):=an;clear hy Db
    go_wp2_with first
     |((with_reducible refine(Cs _ _ _ _ _ _).mono ?_);rintro e wn ⟨rfl,ke⟩;replace hB:=ag (hB.O.T (ke.mono hB.O.size));replace mX:=carry ke mX;clear ke)
     |((with_reducible refine(MI _ _ _ _ _ HMX.O.2.2.1 HMX.O.2.2.2.1 HMX.O.2.2.2.2.1 an _).mono ?_);rintro e wn ⟨rfl,ke⟩;replace hB:=ag (hB.O.T (ke.mono hB.O.size));replace mX:=carry ke mX;clear ke)
     |((with_reducible refine(Fu _ _ _ _ _ _).mono ?_);rintro e wn ⟨rfl,ke⟩;replace hB:=ag (hB.O.T (ke.mono hB.O.size));replace mX:=carry ke mX;clear ke)
     |((with_reducible refine(SJ.O _ (eJ.O.T (hB.O.mono eJ.O.size))).mono ?_);rintro e wn ⟨rfl,rfl⟩)
     |fail
    exact⟨⟨i+1+1,an,by simp,jN.O▸rfl,hB⟩,by simp[intOf]<;>omega⟩
  ·obtain rfl:j=xs.length:=an
   go_wp2_with fail
   go_ret;exact⟨rfl,eJ.O.T (hB.O.mono eJ.O.size)⟩
section
attribute [-go_sem] Builtin.append_
structure dC(n₀:Nat)(w w':World)(v v':Value):Prop where
 below:Below n₀ w w'
 eG:∀j,j<w.heap.size->v.ownBlock≠some j->w'.heap[j]? =w.heap[j]?
 at_:v'.ownBlock=v.ownBlock\/∃g,v'.ownBlock=some g/\w.heap.size<=g
theorem dC.refl(n₀:Nat)(w:World)(v:Value):dC n₀ w w v v:=⟨gb, λ _ _ _=>rfl,.inl rfl⟩
theorem dC.T{n₀:Nat}{a b c:World}{u v x:Value}(h:dC n₀ a b u v)(k:dC n₀ b c v x):dC n₀ a c u x where
 below:=h.below.T k.below
 eG:= λ j hj hv=>by
  refine(k.eG j (aA hj h.below.size) λ e=>?_).T (h.eG j hj hv);rcases h.at_ with h1|⟨g,h1,h2⟩
  ·exact hv (h1▸e)
  ·rw[h1]at e;cases e;omega
 at_:=by
  rcases k.at_ with k1|⟨g,k1,k2⟩
  ·rw[k1];exact h.at_
  ·exact .inr ⟨g,k1,aj h.below.size k2⟩
theorem dC.bH(h:Below w w w')(hn:n₀<=w.heap.size)(v:Value):dC n₀ w w' v v:=⟨h.mono hn, λ j hj _=>h.block j hj,.inl rfl⟩
theorem dC.row(h:Below w w w'){a:az}{xs:List Value}(hr:w.ownsRow n₀ e sz (.slice a k c) k xs):w'.ownsRow n₀ e sz (.slice a k c) k xs:=
 iF hr λ g hg=>by
  rcases bg hr with⟨h1,_⟩|⟨g2,cur,h1,hb,jk⟩
  ·rw[hg]at h1;cases h1
  ·rw[hg]at h1;cases h1;exact h.block _ (cS jk).1
theorem dC.cell{v:Value}(h:dC n₀ w w' v v'){p:Addr}(hc:w.cell? p=some x)(hv:v.ownBlock≠some p.block):w'.cell? p=some x:=
 (bq (w:=w) (h.eG p.block (aZ w _ hc) hv)).T hc
theorem gP{a:az}(x:Nat)(X:Int)(hX:X=(x:Int))(bA:W.ownsRow n₀ 5 1 (.slice a k c) k (bE bs))(hk:k<100000)(hn:n₀<=W.heap.size):
 ∃g' c' w',(Builtin.append_ #[28,28] 28 (fP a k c (zp W) 1 1)).run Tryz.prog (W.alloc (.cells #[.int .u8 X] 5))= .ok (.slice (zp g') (k+1) c') w'/\
  w'.ownsRow n₀ 5 1 (.slice (zp g') (k+1) c') (k+1) (bE (bs++[x]))/\dC n₀ W w' (.slice a k c) (.slice (zp g') (k+1) c'):=by
 subst hX;obtain⟨g',c',w',eh,jC,hb,hg,Y7,mU⟩:=kZ (P:=Tryz.prog) 28 5 (.int .u8 0) 1 1 bU Tryz.sU rfl de (zk x) rfl bz bA an an hn;exact⟨g',c',w',eh,by simpa[bE]using jC,hb, λ j hj hv=>Y7.block j hj (λ e=>hv e.symm),mU.elim (λ h=>.inl h.symm) (λ h=>.inr ⟨g',rfl,h⟩)⟩
theorem fg{a:az}(bA:W.ownsRow n₀ 5 1 (.slice a k c) k (bE bs))(hs:ay W (some ⟨B,o,none⟩) ys)(hm:ys.length=m)(h1:1<=m)(hk:k+m<1000000)(hn:n₀<=W.heap.size):
 ∃g' c' w',(Builtin.append_ #[28,28] 28 (fP a k c (some ⟨B,o,none⟩) m cc)).run Tryz.prog W= .ok (.slice (zp g') (k+m) c') w'/\
  w'.ownsRow n₀ 5 1 (.slice (zp g') (k+m) c') (k+m) (bE (bs++ys))/\dC n₀ W w' (.slice a k c) (.slice (zp g') (k+m) c'):=by
 obtain⟨i0,hi,l8,j5,vr⟩:=info_parts Tryz.sU;obtain⟨v',w1,eh,gp,jQ, -,mU⟩:=run_append_own_at (P:=Tryz.prog) W n₀ 28 28 5 i0 (.int .u8 0) 1 1 bU hi l8 j5 vr rfl de _ _ (bE bs) bA
  ⟨B,o,none⟩ m cc (bE ys) (by simp[bE,hm]) (λ j u hj=>by
    obtain⟨y,hy,rfl⟩:∃y,ys[j]? =some y/\Value.int .u8 (y:Int)=u:=by simpa[bE]using hj
    rw[rm];rcases hs.2 with h0|⟨B',o',h3,h4⟩
    ·rw[h0]at hy;cases hy
    ·cases h3;exact h4 j y hy)
  (λ u hu=>by obtain⟨y,_,rfl⟩:=aM.1 hu;rfl) kt an hn
 obtain⟨q,hq⟩:∃q,k+m=q+1:=⟨k+m - 1,an⟩;rw[hq]at gp;obtain⟨g',k',rfl⟩:=ownsRow_succ gp;rw[<-hq]at gp eh;refine⟨g',k',w1,eh,by simpa[bE]using gp,?_, λ j hj hv=>jQ.block j hj (λ e=>hv e.symm),?_⟩
 ·refine(ah n₀ W).grown jQ hn λ j ej=>?_;exact vS
 ·rcases mU with h|h
  ·exact .inl h
  ·exact .inr ⟨_,h,cH⟩
theorem MM{a:az}(bA:w.ownsRow n₀ 5 1 (.slice a k c) k (bE bs))(hs:ay w0 (some ⟨B,o,none⟩) ys)(nt:Below n₀ w0 w)(yJ:w0.heap.size=n₀)(h1:1<=ys.length)(h2:ys.length<=255)(hk:k<=50000)(hn:n₀<=w.heap.size):
 Calls Tryz.prog 302 (fP a k c (some ⟨B,o,none⟩) ys.length cc) w λ e w'=>∃g' c',e= .returned (.slice (zp g') (k+1+ys.length) c')/\
  w'.ownsRow n₀ 5 1 (.slice (zp g') (k+1+ys.length) c') (k+1+ys.length) (bE (bs++ys.length::ys))/\dC n₀ w w' (.slice a k c) (.slice (zp g') (k+1+ys.length) c'):=by
 obtain⟨g1,c1,w1,ID,C8,yL⟩:=gP ys.length ((ys.length:Nat):Int) rfl bA an hn;subst yJ;have gC:ay w1 (some ⟨B,o,none⟩) ys:=hs.below (nt.T yL.below);obtain⟨g2,c2,w2,Ck,oO,jk⟩:=fg (cc:=cc) C8 gC rfl h1 an (aj hn yL.below.size);have jD:=dO (show w2.ownsRow w0 5 1 (.slice (zp g2) (k+1+ys.length) c2) (k+1+ys.length) (bE (bs++ys.length::ys))by simpa using oO) (yL.T jk);have h3:(ys.length:Int)<=255:=an;clear bA hs nt C8 yL gC oO jk h2;go_enter Tryz.func302,Tryz.ntmps302
 go_wp2_with fail
 go_ret;exact⟨g2,c2,rfl,jD.O⟩
theorem SR(s:Nat)(hs:s<4294967296)(w:World):Calls Tryz.prog 54 #[.int .u32 (s:Int)] w λ e w'=>∃B,e= .returned (.slice (zp B) 4 4)/\ay w' (zp B) (Q4 s)/\Below w w w':=by
 have h3:(s:Int)/16777216%256=(s:Int)/16777216:=an;go_enter Tryz.func54,Tryz.ntmps54
 go_wp2_with fail
 go_ret;refine⟨w.heap.size,rfl,⟨by simp[Q4];omega,.inr ⟨_,_,rfl, λ j x hj=>?_⟩⟩,by go_grown⟩;rw[bO]
 match j,hj with
 |0,hj=>cases hj;simp
 |1,hj=>cases hj;simp
 |2,hj=>cases hj;simp
 |3,hj=>cases hj;simp;omega
 |j+4,hj=>simp[Q4]at hj
theorem yt(W:World)(hn:n₀<=W.heap.size):(W.alloc (.cells #[] 5)).ownsRow n₀ 5 1 (.slice (zp W) 0 0) 0 (bE []):=
 ⟨rfl,.inr ⟨W.heap.size,0,#[],rfl,hn,ai _ _,an,by simp[maxLen],by simp,by simp[bE]⟩⟩
theorem MN(h:n<4294967296):fm (fm n)=n:=by rw[Cd (fm n) (jZ n h),Cd n h];omega
theorem MO(ys:List Nat)(hx:∀x∈xs,x<256):Fh xs ys=fm (mv (fm 0) (xs++ys)):=by have h:mv (fm 0) (xs++ys)=mv (mv (fm 0) xs) ys:=dY;rw[h,Fh,MN (qx xs _ (jZ 0 an) hx)]
theorem dC.bytes{v:Value}(h:dC n₀ w w' v v'){a:az}(hb:ay w a xs)(hv:∀B o,a=some ⟨B,o,none⟩->v.ownBlock≠some B):ay w' a xs:=
 ⟨hb.1,hb.2.elim .inl λ ⟨B,o,e,hc⟩=>.inr ⟨B,o,e, λ j x hj=>h.cell (hc j x hj) (hv B o e)⟩⟩
theorem dC.fresh{g' k' c':Nat}(h:dC n₀ w w' (.slice (zp g) k c) (.slice (zp g') k' c'))(hm:m<=g)(hw:m<=w.heap.size):m<=g':=by
 rcases h.at_ with e|⟨x,e,hx⟩<;>simp only[Value.ownBlock,dz]at e
 ·omega
 ·omega
theorem qz(h:g≠B):(Value.slice (zp g) k c).ownBlock≠some B:=by simpa[Value.ownBlock]using h
theorem MP{a:az}(c:Nat){p:List Nat}(hb:ay w a p)(h1:1<=p.length)(h2:p.length<=4096):
 Calls Tryz.prog 29 (sg a p.length c) w λ e w'=>∃B k,e= .returned (.slice (zp B) (ft p).length k)/\ay w' (zp B) (ft p)/\Below w w w':=by
 obtain⟨B,o,rfl⟩:∃B o,a=some ⟨B,o,none⟩:=by
  rcases hb.2 with h|⟨B,o,h,_⟩
  ·rw[h]at h1;simp at h1
  ·exact⟨B,o,h⟩
 obtain⟨n,hn⟩:=bL p.length;have kH:(n:Int)<=4096:=an;have Dc:1<=n:=an;have hd:(n:Int)/256%256=(n:Int)/256:=an;obtain⟨w1,bY⟩:=bL (w.alloc (.cells #[.int .u8 ((n:Int)/256),.int .u8 ((n:Int)%256)] 5));have cN:Below w w w1:=by rw[bY];go_grown
 have j5:w1.heap.size=w.heap.size+1:=by rw[bY];simp
 have cL:∀y∈sV n,y<256:=by intro y hy;simp[sV]at hy;omega
 have gC:ay w1 (zp w) (sV n):=by
  refine⟨cL,.inr ⟨_,_,rfl, λ j x hj=>?_⟩⟩;rw[bY,bO]
  match j,hj with
  |0,hj=>cases hj;simp;omega
  |1,hj=>cases hj;simp
  |j+2,hj=>simp[sV]at hj
 have ri:(sV n).length=2:=rfl;obtain⟨w2,fH⟩:=bL (w1.alloc (.cells #[] 5));have oO:=yt w1 (n₀:=w.heap.size) cN.size;rw[<-fH]at oO;have bG:Below w1 w1 w2:=by rw[fH];go_grown
 obtain⟨g3,c3,w3,we,nL,pz⟩:=fg (cc:=2) oO (gC.below bG) ri an an (aj cN.size bG.size);rw[bn,aN]at nL;rw[aN]at we pz;have MQ:w.heap.size+1<=g3:=pz.fresh an (cm bG.size);have mK:=pz.bytes (gC.below bG) λ B o e=>by cases e;exact qz an
 have AK:=(cN.T (bG.mono cN.size)).T pz.below;obtain⟨g4,c4,w4,lu,yX,Er⟩:=fg (cc:=c) nL (hb.below AK) hn.symm Dc an AK.size;have uh:=Er.bytes mK λ B o e=>by cases e;exact qz an
 have hB4:=AK.T Er.below;obtain⟨w5,kY⟩:=bL (w4.alloc (.cells #[] 5));have r6:=yt w4 (n₀:=w.heap.size) hB4.size;have dV:Below w4 w4 w5:=by rw[kY];go_grown
 rw[<-kY]at r6;have hB5:=hB4.T (dV.mono hB4.size);obtain⟨g6,c6,w6,tI,C7,UI⟩:=fg (cc:=2) r6 (uh.below dV) ri an an hB5.size;rw[bn,aN]at C7;rw[aN]at tI UI;have Rj:=hB5.T UI.below;have ahb:g4<w4.heap.size:=by
  rcases bg yX with⟨h,_⟩|⟨g,cur,e,h,h2⟩
  ·cases h
  ·cases e;exact(cS h2).1
 obtain⟨hy4, -, -⟩:=dk yX (λ x hx=>(aG.1 hx).elim (λ h=>cL x jy) (hb.1 x));have hy6:=UI.bytes (hy4.below dV) λ B o e=>by cases e;exact qz an
 have hlen:((sV n)++p).length=2+n:=by simp[sV,hn];omega
 have hM:Calls Tryz.prog 55 (zq2 (zp g4) (2+n) c4) w6 λ e w'=>e= .returned (.int .u32 (Fh (sV n) p:Nat))/\w'=w6:=by
  rw[MO p cL];rcases hy6.2 with h|⟨B',o',e,hc⟩
  ·rw[h]at hlen;simp at hlen;omega
  ·cases e;have:=SA ((sV n)++p) g4 0 c4 w6 hy6.1 (by rw[hlen];omega) hc
   rwa [hlen]at this
 have fh:Fh (sV n) p<4294967296:=by rw[MO p cL];exact jZ _ (qx _ _ (jZ 0 an) hy6.1)
 have HM:=ag hM;have HL:=ag (λ w=>SR (Fh (sV n) p) fh w);have H6:=dO C7 Rj;have HP:=ag hb;have HN:=ag hn;have HO:Hid (ft p=sV n++Q4 (Fh (sV n) p)++p):=ag (by rw[ft,hn]);rw[<-hn];have Fm:(ft p).length=6+n:=by rw[HO.O];simp[sV,Q4,hn];omega
 rw[Fm];generalize Fh (sV n) p=s at HM HL HO;clear hM fh cL oO nL yX r6 C7 pz Er UI gC mK uh hy4 hy6 AK hB4 hB5 Rj cN bG dV hb ri hlen MQ h1 h2 hn Fm ahb;rw[j5,fH,bY]at we;rw[kY]at tI;clear bY fH kY j5;go_enter Tryz.func29,Tryz.ntmps29
 go_wp2_with first
  |((with_reducible refine HM.O.mono ?_);rintro e w' ⟨rfl,rfl⟩)
  |((with_reducible refine(HL.O _).mono ?_);rintro e w7 ⟨B7,rfl,Ka,vL⟩;obtain⟨g8,c8,w8,acg,hr8,hg8⟩:=fg (cc:=4) (m:=4) (dC.row vL H6.O.1) Ka rfl an an (aj H6.O.2.size vL.size);have hB8:=(H6.O.2.T (vL.mono H6.O.2.size)).T hg8.below;obtain⟨g9,c9,w9,aiY,Kr,hg9⟩:=fg (cc:=c) hr8 (HP.O.below hB8) HN.O.symm Dc an hB8.size;have H9:=dO Kr (hB8.T hg9.below);clear hr8 hg8 hB8 Kr hg9 Ka vL)
  |fail
 go_ret;exact⟨_,_,rfl,by rw[HO.O];exact(dk H9.O.1 (by rw[<-HO.O];exact Kv HP.O.1)).1,H9.O.2⟩
def fK:Nat->Nat->List Nat
 |0,_=>[]
 |i+1,n=>(n/256^i%256)::fK i n
theorem ie:∀(i n:Nat),(fK i n).length=i
 |0,_=>rfl
 |i+1,n=>by simp[fK,ie i]
def sX(W:World)(R:Nat)(vs:List Nat):Prop:=∀(j v:Nat),vs[j]? =some v->W.cell? ⟨R,j,none⟩=some (.int .u64 (v:Int))
def tj(wd:Nat)(vs:List Nat):List Nat:=vs.flatMap (fK wd)
theorem AM(wd:Nat):∀(vs:List Nat),(tj wd vs).length=wd*vs.length
 |[]=>by simp[tj]
 |v::vs=>by
  have:=AM wd vs;simp only[tj,bf,ar,ie,aK]at*;rw[this,ju];omega
theorem VZ(wd:Nat)(vs:List Nat)(j v:Nat)(h:vs[j]? =some v):tj wd (vs.take (j+1))=tj wd (vs.take j)++fK wd v:=by rw[aL,h];simp[tj]
theorem MS{a:az}(wd:Nat)(hwd:wd<=8)(bA:w.ownsRow n₀ 5 1 (.slice a k c) k (bE bs))(hv:sX w R vs)(hR:(Value.slice a k c).ownBlock≠some R)(hl:vs.length<=8)(hk:k<=50000)(hn:n₀<=w.heap.size):
 Calls Tryz.prog 303 #[.slice a k c,.int .i64 (wd:Int),.slice (zp R) vs.length cc] w λ e w'=>∃a' c',e= .returned (.slice a' (k+wd*vs.length) c')/\
  w'.ownsRow n₀ 5 1 (.slice a' (k+wd*vs.length) c') (k+wd*vs.length) (bE (bs++tj wd vs))/\dC n₀ w w' (.slice a k c) (.slice a' (k+wd*vs.length) c'):=by
 have HR:=ag bA;have HV:=ag hv;have HN:=ag hn;have HRB:=ag hR;clear bA hv hn hR;go_enter Tryz.func303,Tryz.ntmps303
 go_wp2_with fail
 go_loopw [0,12] (λ rv iv wr=>∃j:Nat,j<=vs.length/\iv= .int .i64 (j:Int)/\∃a' c',rv= .slice a' (k+wd*j) c'/\Hid (wr.ownsRow n₀ 5 1 (.slice a' (k+wd*j) c') (k+wd*j) (bE (bs++tj wd (vs.take j))))/\Hid (dC n₀ w wr (.slice a k c) (.slice a' (k+wd*j) c'))) (λ _ iv _=>vs.length - (intOf iv).toNat)
 case atStart=>exact⟨0,aD _,rfl,a,c,by simp,ag (by simpa[tj]using HR.O),ag (by simpa using dC.refl n₀ w (.slice a k c))⟩
 case round=>
  obtain⟨j,hj,rfl,a',c',rfl,hr,hg⟩:=hrel;by_cases cL:j<vs.length
  ·obtain⟨v,hx⟩:∃v,vs[j]? =some v:=⟨vs[j],by simp[cL]⟩;have dK:wr.cell? ⟨R,j,none⟩=some (.int .u64 (v:Int)):=hg.O.cell (p:=⟨R,j,none⟩) (HV.O j v hx) HRB.O;have AN:=ag (VZ wd vs j v hx);have mn:(j:Int)<(vs.length:Int):=an;have hwi:(wd:Int)<=8:=an;have Kn:k+wd*j<=60000:=cm (eX hwd (show j<=8 by omega));obtain⟨K,hK⟩:=bL (k+wd*j);rw[<-hK]at hr hg Kn⊢;have HK:=ag hK;clear hx hK
   go_wp2_with fail
   go_loopw [0,9] (λ rv bv wr2=>∃(i:Nat) (pre:List Nat),i<=wd/\bv= .int .i64 (8*(i:Int) - 8)/\Hid (pre++fK i v=fK wd v)/\pre.length+i=wd/\∃a2 c2,rv= .slice a2 (K+pre.length) c2/\Hid (wr2.ownsRow n₀ 5 1 (.slice a2 (K+pre.length) c2) (K+pre.length) (bE (bs++tj wd (vs.take j)++pre)))/\Hid (dC n₀ w wr2 (.slice a k c) (.slice a2 (K+pre.length) c2))) (λ _ bv _=>(intOf bv+8).toNat)
   case atStart=>exact⟨wd,[],cH,by congr 1;omega,ag rfl,by simp,a',c',by simp,ag (by simpa using hr.O),ag (by simpa using hg.O)⟩
   case round=>
    obtain⟨i,pre,hi,rfl,mD,BP,a2,c2,rfl,oO,jk⟩:=hrel;by_cases vw:i=0
    ·subst vw;have yM:decide ((0:Int)<=8*((0:Nat):Int) - 8)=false:=by decide
     have mq:=ag (show Hid (wr.ownsRow n₀ 5 1 (.slice a2 (k+wd*(j+1)) c2) (k+wd*(j+1)) (bE (bs++tj wd (vs.take (j+1)))))/\Hid (dC n₀ w wr (.slice a k c) (.slice a2 (k+wd*(j+1)) c2))/\K+pre.length=k+wd*(j+1)by
      have e1:pre=fK wd v:=by have:=mD.O;simpa[fK]using this
      have e2:K+pre.length=k+wd*(j+1):=by rw[HK.O,ju];omega
      rw[<-e2];refine⟨ag ?_,jk,rfl⟩;rw[AN.O,<-e1,<-aS];exact oO.O)
     go_wp2_with fail
     exact⟨⟨j+1,an,by simp,a2,c2,by rw[mq.O.2.2],mq.O.1,mq.O.2.1⟩,by simp[intOf];omega⟩
    ·have hi8:i=1\/i=2\/i=3\/i=4\/i=5\/i=6\/i=7\/i=8:=an;rcases hi8 with rfl|rfl|rfl|rfl|rfl|rfl|rfl|rfl
     ·obtain⟨g3,c3,w3,eh,nL,pz⟩:=gP (v%256) ((v:Int)%256) an oO.O an (aj HN.O jk.O.below.size);have jD:=dO (show w3.ownsRow n₀ 5 1 (.slice (zp g3) (K+(pre++[v%256]).length) c3) (K+(pre++[v%256]).length) (bE (bs++tj wd (vs.take j)++(pre++[v%256])))by simpa[bh]using nL) (show dC n₀ w w3 (.slice a k c) (.slice (zp g3) (K+(pre++[v%256]).length) c3)by simpa[bh]using jk.O.T pz);have zQ:=ag (show(pre++[v%256])++fK 0 v=fK wd v by rw[<-mD.O];simp[fK]);clear nL pz
      go_wp2_with fail
      exact⟨⟨0,pre++[v%256],an,by simp,zQ,by simp;omega,_,_,by simp[bh],ag jD.O.1,ag jD.O.2⟩,by simp[intOf]⟩
     ·obtain⟨g3,c3,w3,eh,nL,pz⟩:=gP (v/256%256) ((v:Int)/256%256) an oO.O an (aj HN.O jk.O.below.size);have jD:=dO (show w3.ownsRow n₀ 5 1 (.slice (zp g3) (K+(pre++[v/256%256]).length) c3) (K+(pre++[v/256%256]).length) (bE (bs++tj wd (vs.take j)++(pre++[v/256%256])))by simpa[bh]using nL) (show dC n₀ w w3 (.slice a k c) (.slice (zp g3) (K+(pre++[v/256%256]).length) c3)by simpa[bh]using jk.O.T pz);have zQ:=ag (show(pre++[v/256%256])++fK 1 v=fK wd v by rw[<-mD.O];simp[fK]);clear nL pz
      go_wp2_with fail
      exact⟨⟨1,pre++[v/256%256],an,by simp,zQ,by simp;omega,_,_,by simp[bh],ag jD.O.1,ag jD.O.2⟩,by simp[intOf]⟩
     ·obtain⟨g3,c3,w3,eh,nL,pz⟩:=gP (v/65536%256) ((v:Int)/65536%256) an oO.O an (aj HN.O jk.O.below.size);have jD:=dO (show w3.ownsRow n₀ 5 1 (.slice (zp g3) (K+(pre++[v/65536%256]).length) c3) (K+(pre++[v/65536%256]).length) (bE (bs++tj wd (vs.take j)++(pre++[v/65536%256])))by simpa[bh]using nL) (show dC n₀ w w3 (.slice a k c) (.slice (zp g3) (K+(pre++[v/65536%256]).length) c3)by simpa[bh]using jk.O.T pz);have zQ:=ag (show(pre++[v/65536%256])++fK 2 v=fK wd v by rw[<-mD.O];simp[fK]);clear nL pz
      go_wp2_with fail
      exact⟨⟨2,pre++[v/65536%256],an,by simp,zQ,by simp;omega,_,_,by simp[bh],ag jD.O.1,ag jD.O.2⟩,by simp[intOf]⟩
     ·obtain⟨g3,c3,w3,eh,nL,pz⟩:=gP (v/16777216%256) ((v:Int)/16777216%256) an oO.O an (aj HN.O jk.O.below.size);have jD:=dO (show w3.ownsRow n₀ 5 1 (.slice (zp g3) (K+(pre++[v/16777216%256]).length) c3) (K+(pre++[v/16777216%256]).length) (bE (bs++tj wd (vs.take j)++(pre++[v/16777216%256])))by simpa[bh]using nL) (show dC n₀ w w3 (.slice a k c) (.slice (zp g3) (K+(pre++[v/16777216%256]).length) c3)by simpa[bh]using jk.O.T pz);have zQ:=ag (show(pre++[v/16777216%256])++fK 3 v=fK wd v by rw[<-mD.O];simp[fK]);clear nL pz
      go_wp2_with fail
      exact⟨⟨3,pre++[v/16777216%256],an,by simp,zQ,by simp;omega,_,_,by simp[bh],ag jD.O.1,ag jD.O.2⟩,by simp[intOf]⟩
     ·obtain⟨g3,c3,w3,eh,nL,pz⟩:=gP (v/4294967296%256) ((v:Int)/4294967296%256) an oO.O an (aj HN.O jk.O.below.size);have jD:=dO (show w3.ownsRow n₀ 5 1 (.slice (zp g3) (K+(pre++[v/4294967296%256]).length) c3) (K+(pre++[v/4294967296%256]).length) (bE (bs++tj wd (vs.take j)++(pre++[v/4294967296%256])))by simpa[bh]using nL) (show dC n₀ w w3 (.slice a k c) (.slice (zp g3) (K+(pre++[v/4294967296%256]).length) c3)by simpa[bh]using jk.O.T pz);have zQ:=ag (show(pre++[v/4294967296%256])++fK 4 v=fK wd v by rw[<-mD.O];simp[fK]);clear nL pz
      go_wp2_with fail
      exact⟨⟨4,pre++[v/4294967296%256],an,by simp,zQ,by simp;omega,_,_,by simp[bh],ag jD.O.1,ag jD.O.2⟩,by simp[intOf]⟩
     ·obtain⟨g3,c3,w3,eh,nL,pz⟩:=gP (v/1099511627776%256) ((v:Int)/1099511627776%256) an oO.O an (aj HN.O jk.O.below.size);have jD:=dO (show w3.ownsRow n₀ 5 1 (.slice (zp g3) (K+(pre++[v/1099511627776%256]).length) c3) (K+(pre++[v/1099511627776%256]).length) (bE (bs++tj wd (vs.take j)++(pre++[v/1099511627776%256])))by simpa[bh]using nL) (show dC n₀ w w3 (.slice a k c) (.slice (zp g3) (K+(pre++[v/1099511627776%256]).length) c3)by simpa[bh]using jk.O.T pz);have zQ:=ag (show(pre++[v/1099511627776%256])++fK 5 v=fK wd v by rw[<-mD.O];simp[fK]);clear nL pz
      go_wp2_with fail
      exact⟨⟨5,pre++[v/1099511627776%256],an,by simp,zQ,by simp;omega,_,_,by simp[bh],ag jD.O.1,ag jD.O.2⟩,by simp[intOf]⟩
     ·obtain⟨g3,c3,w3,eh,nL,pz⟩:=gP (v/281474976710656%256) ((v:Int)/281474976710656%256) an oO.O an (aj HN.O jk.O.below.size);have jD:=dO (show w3.ownsRow n₀ 5 1 (.slice (zp g3) (K+(pre++[v/281474976710656%256]).length) c3) (K+(pre++[v/281474976710656%256]).length) (bE (bs++tj wd (vs.take j)++(pre++[v/281474976710656%256])))by simpa[bh]using nL) (show dC n₀ w w3 (.slice a k c) (.slice (zp g3) (K+(pre++[v/281474976710656%256]).length) c3)by simpa[bh]using jk.O.T pz);have zQ:=ag (show(pre++[v/281474976710656%256])++fK 6 v=fK wd v by rw[<-mD.O];simp[fK]);clear nL pz
      go_wp2_with fail
      exact⟨⟨6,pre++[v/281474976710656%256],an,by simp,zQ,by simp;omega,_,_,by simp[bh],ag jD.O.1,ag jD.O.2⟩,by simp[intOf]⟩
     ·obtain⟨g3,c3,w3,eh,nL,pz⟩:=gP (v/72057594037927936%256) ((v:Int)/72057594037927936%256) an oO.O an (aj HN.O jk.O.below.size);have jD:=dO (show w3.ownsRow n₀ 5 1 (.slice (zp g3) (K+(pre++[v/72057594037927936%256]).length) c3) (K+(pre++[v/72057594037927936%256]).length) (bE (bs++tj wd (vs.take j)++(pre++[v/72057594037927936%256])))by simpa[bh]using nL) (show dC n₀ w w3 (.slice a k c) (.slice (zp g3) (K+(pre++[v/72057594037927936%256]).length) c3)by simpa[bh]using jk.O.T pz);have zQ:=ag (show(pre++[v/72057594037927936%256])++fK 7 v=fK wd v by rw[<-mD.O];simp[fK]);clear nL pz
      go_wp2_with fail
      exact⟨⟨7,pre++[v/72057594037927936%256],an,by simp,zQ,by simp;omega,_,_,by simp[bh],ag jD.O.1,ag jD.O.2⟩,by simp[intOf]⟩
  ·obtain rfl:j=vs.length:=an;rw[bd]at hr
   go_wp2_with fail
   go_ret;exact⟨a',c',rfl,hr.O,hg.O⟩
theorem pM(W:World)(vs:List Nat):sX (W.alloc (.cells (vs.map λ v:Nat=>Value.int .u64 (v:Int)).toArray 23)) W vs:= λ j v h=>by rw[bO];simp[h]
theorem Fx(h:sX W R vs)(hb:Below W W W'):sX W' R vs:= λ j v hj=>carry hb (h j v hj)
theorem mY{a:az}{e:TypeId}{xs:List Value}(h:W.ownsRow n₀ e sz (.slice a k c) k xs)(R:Nat)(hR:W.heap.size<=R):(Value.slice a k c).ownBlock≠some R:=by
 rcases bg h with⟨rfl,_⟩|⟨g,cur,rfl,_,hg⟩
 ·simp[Value.ownBlock]
 ·have:=(cS hg).1;simp[Value.ownBlock];omega
structure fw(n₀:Nat)(w:World)(v0:Value)(W:World)(a:az)(k c:Nat)(bs:List Nat):Prop where
 row:W.ownsRow n₀ 5 1 (.slice a k c) k (bE bs)
 pW:dC n₀ w W v0 (.slice a k c)
theorem fw.below{a:az}(h:fw n₀ w v0 W a k c bs)(hn:n₀<=w.heap.size)(hb:Below W W W'):fw n₀ w v0 W' a k c bs:=
 ⟨dC.row (n₀:=n₀) hb h.row,h.pW.T (dC.bH hb (aj hn h.pW.below.size) _)⟩
theorem fw.cell{n₀:Nat}{w:World}{v0:Value}{W:World}{a:az}{k c:Nat}{bs:List Nat}(h:fw n₀ w v0 W a k c bs){p:Addr}{x:Value}(hc:w.cell? p=some x)(hv:v0.ownBlock≠some p.block):W.cell? p=some x:=h.pW.cell hc hv
theorem qA{a:az}(h:fw n₀ w v0 W a k c bs)(hs:ay w0 (some ⟨B,o,none⟩) ys)(nt:Below n₀ w0 w)(yJ:w0.heap.size=n₀)(h1:1<=ys.length)(h2:ys.length<=255)(hk:k<=50000)(hn:n₀<=w.heap.size):
 Calls Tryz.prog 302 (fP a k c (some ⟨B,o,none⟩) ys.length cc) W λ e w'=>∃g' c',e= .returned (.slice (zp g') (k+1+ys.length) c')/\fw n₀ w v0 w' (zp g') (k+1+ys.length) c' (bs++ys.length::ys)/\dC n₀ W w' (.slice a k c) (.slice (zp g') (k+1+ys.length) c'):=by
 refine(MM (cc:=cc) h.row hs (nt.T h.pW.below) yJ h1 h2 hk (aj hn h.pW.below.size)).mono ?_;rintro e w' ⟨g',c',rfl,hr,hg⟩;exact⟨g',c',rfl,⟨hr,h.pW.T hg⟩,hg⟩
theorem jd{a:az}(wd:Nat)(h:fw n₀ w v0 W a k c bs)(hb:Below W W W')(hv:sX W' R vs)(hR:(Value.slice a k c).ownBlock≠some R)(hwd:wd<=8)(hl:vs.length<=8)(hk:k<=50000)(hn:n₀<=w.heap.size):
 Calls Tryz.prog 303 #[.slice a k c,.int .i64 (wd:Int),.slice (zp R) vs.length cc] W' λ e w'=>∃a' c',e= .returned (.slice a' (k+wd*vs.length) c')/\fw n₀ w v0 w' a' (k+wd*vs.length) c' (bs++tj wd vs)/\dC n₀ W' w' (.slice a k c) (.slice a' (k+wd*vs.length) c'):=by
 have h':=h.below hn hb;refine(MS (cc:=cc) wd hwd h'.row hv hR hl hk (aj hn h'.pW.below.size)).mono ?_;rintro e w' ⟨a',c',rfl,hr,hg⟩;exact⟨a',c',rfl,⟨hr,h'.pW.T hg⟩,hg⟩
theorem Ji(W:World)(o:Obj)(vs:List Nat):sX ((W.alloc o).alloc (.cells (vs.map λ v:Nat=>Value.int .u64 (v:Int)).toArray 23)) (W+1) vs:=by
 have:=pM (W.alloc o) vs
 rwa [bt]at this
theorem Ct{v:Value}(h:sX w R vs)(hg:dC n₀ w w' v v')(hv:v.ownBlock≠some R):sX w' R vs:= λ j x hj=>hg.cell (p:=⟨R,j,none⟩) (h j x hj) hv
theorem Kw{v:Value}(hg:dC n₀ w w' v v')(hv:v.ownBlock≠some R)(hR:R<w.heap.size):v'.ownBlock≠some R:=by
 rcases hg.at_ with h|⟨g,h,h2⟩
 ·rw[h];exact hv
 ·rw[h];intro e;cases e;omega
def kB(x:aH):List Nat:=(x.key.length::x.key)++(x.val.length::x.val)++tj 1 [0]++tj 8 [0]
theorem rp(h:p:=by
 clear hK K;refine sT 8 λ K hK=>?_;go_simp;refine N8.O.mono ?_;rintro e w7 ⟨a4,k4,rfl,hL4,hG4⟩;simp only[];refine et hK ?_ (λ hS=>?_)
 ·exact hL4.cell c3 dN
 clear hK K;refine sT 9 λ K hK=>?_;go_simp;refine ra hK ?_;clear hK K;refine nK bU ?_ _
 go_wp2_with fail
 go_ret;exact⟨a4,k4,by rw[mq.O.1];rfl,by rw[mq.O.1,mq.O.2];exact hL4.row,by rw[mq.O.1];exact HGA.O.T hL4.pW⟩
 ):p:=h
theorem Wa{a:az}(x:aH)(bA:w.ownsRow n₀ 5 1 (.slice a k c) k (bE bs))(eb:ay w0 x.ka x.key)(jP:ay w0 x.va x.val)(nt:Below n₀ w0 w)(yJ:w0.heap.size=n₀)
 (h1:1<=x.key.length)(h2:x.key.length<=120)(h3:1<=x.val.length)(h4:x.val.length<=100)(hk:k<=20000)(hn:n₀<=w.heap.size):
 Calls Tryz.prog 298 #[x.v,.slice a k c] w λ e w'=>∃a' c',e= .returned (.slice a' (k+(kB x).length) c')/\
  w'.ownsRow n₀ 5 1 (.slice a' (k+(kB x).length) c') (k+(kB x).length) (bE (bs++kB x))/\dC n₀ w w' (.slice a k c) (.slice a' (k+(kB x).length) c'):=by
 obtain⟨B1,o1,e1⟩:∃B o,x.ka=some ⟨B,o,none⟩:=by
  rcases eb.2 with h|⟨B,o,h,_⟩
  ·rw[h]at h1;simp at h1
  ·exact⟨B,o,h⟩
 obtain⟨B2,o2,e2⟩:∃B o,x.va=some ⟨B,o,none⟩:=by
  rcases jP.2 with h|⟨B,o,h,_⟩
  ·rw[h]at h3;simp at h3
  ·exact⟨B,o,h⟩
 obtain⟨ka,key,kc,va,val,vc⟩:=x;simp only at e1 e2 h1 h2 h3 h4 eb jP;subst e1 e2;obtain⟨wA,Y9⟩:=bL (w.alloc (.cells (il (some ⟨B1,o1,none⟩) key.length kc (some ⟨B2,o2,none⟩) val.length vc) 362));have Hg:Below w w wA:=by rw[Y9];exact(ah _ w).alloc (cH) _
 have hnA:n₀<=wA.heap.size:=aj hn Hg.size;have dN:(Value.slice a k c).ownBlock≠some w.heap.size:=mY bA _ (cH);have hz:wA.heap[w.heap.size]? =some (.cells (il (some ⟨B1,o1,none⟩) key.length kc (some ⟨B2,o2,none⟩) val.length vc) 362):=by rw[Y9];exact ai w _
 have c0:wA.cell? (za w 0)=some (.slice (some ⟨B1,o1,none⟩) key.length kc):=by rw[af hz];rfl
 have c1:wA.cell? (za w 1)=some (.slice (some ⟨B2,o2,none⟩) val.length vc):=by rw[af hz];rfl
 have c2:wA.cell? (za w 2)=some (.bool false):=by rw[af hz];rfl
 have c3:wA.cell? (za w 3)=some (.int .i64 0):=by rw[af hz];rfl
 have hL:fw n₀ wA (.slice a k c) wA a k c bs:=⟨dC.row (n₀:=n₀) Hg bA,dC.refl _ _ _⟩;have HB:Hid (Below n₀ w0 wA):=ag (nt.T (Hg.mono hn));have LG:=ag eb;have Za:=ag jP;have HGA:=ag (dC.bH Hg hn (.slice a k c));clear bA hz eb jP nt;unfold aH.v;go_enter Tryz.func298,Tryz.ntmps298
 go_wp2_with fail
 rw[<-Y9];clear Y9;refine ku 7 (λ w'=>w'.cell? (za w 0)=some (.slice (some ⟨B1,o1,none⟩) key.length kc)/\w'.cell? (za w 1)=some (.slice (some ⟨B2,o2,none⟩) val.length vc)) bU ⟨c0,c1⟩ (λ hS=>?_);refine tT 0 hS ?_;refine tT 1 hS ?_;refine tT 2 hS ?_;refine tT 4 hS ?_;refine tT 5 hS ?_;refine sT 3 λ K hK=>?_;go_simp;refine(qA (hL.below hnA (gb).drew) LG.O HB.O yJ h1 an an hnA).mono ?_;rintro e w4 ⟨g1,k1,rfl,rY, -⟩;simp only[];refine et hK ?_ (λ hS=>?_)
 ·exact⟨rY.cell c0 dN,rY.cell c1 dN⟩
 clear hK K;refine sT 6 λ K hK=>?_;go_simp;refine(qA rY Za.O HB.O yJ h3 an an hnA).mono ?_;rintro e w5 ⟨g2,k2,rfl,VQ, -⟩;simp only[];refine et hK ?_ (λ hS=>?_)
 ·exact⟨VQ.cell c0 dN,VQ.cell c1 dN⟩
 clear hK K;refine sT 7 λ K hK=>?_;go_simp;refine ra hK ?_;clear hK K;refine nK bU ?_ _;have d2:=VQ.cell c2 dN;have d3:=VQ.cell c3 dN
 go_wp2_with fail
 have r6:=VQ.row;obtain⟨K2,hK2⟩:=bL (k+1+key.length+1+val.length);obtain⟨BS,hBS⟩:=bL (bs++key.length::key++val.length::val);have hK3:K2<=40000:=an;rw[<-hK2,<-hBS]at VQ;rw[<-hK2]at r6⊢;have HKB:=dO hK2 hBS;clear hK2 hBS;have B6:∀o,Below w5 w5 (w5.drew.alloc o):= λ o=>(ah _ w5).drew.alloc (cH) o;have ach:∀o o',Below w5 w5 ((w5.drew.alloc o).alloc o'):= λ o o'=>((ah _ w5).drew.alloc (cH) o).alloc cP o';have N1a:Hid (Calls Tryz.prog 303 (acN (zp g2) K2 k2 (zp w5) 1 1) (w5.drew.alloc (.cells vo 23)) (λ e w'=>∃a' c',e= .returned (.slice a' (K2+1) c')/\fw n₀ wA (.slice a k c) w' a' (K2+1) c' (BS++tj 1 [0])/\dC n₀ (w5.drew.alloc (.cells vo 23)) w' (Value.slice (zp g2) K2 k2) (.slice a' (K2+1) c'))):=ag (jd (cc:=1) 1 VQ (B6 _) (pM w5.drew [0]) (mY r6 _ (cH)) an cP an hnA);have N1c:Hid (Calls Tryz.prog 303 (acN (zp g2) K2 k2 (zp w5) 1 1) ((w5.drew.alloc (.cells vo 23)).alloc (.cells vo 23)) (λ e w'=>∃a' c',e= .returned (.slice a' (K2+1) c')/\fw n₀ wA (.slice a k c) w' a' (K2+1) c' (BS++tj 1 [0])/\dC n₀ ((w5.drew.alloc (.cells vo 23)).alloc (.cells vo 23)) w' (Value.slice (zp g2) K2 k2) (.slice a' (K2+1) c'))):=ag (jd (cc:=1) 1 VQ (ach _ _) (Fx (pM w5.drew [0]) ((gb).alloc (cH) _)) (mY r6 _ (cH)) an cP an hnA);have N1b:Hid (Calls Tryz.prog 303 (acN (zp g2) K2 k2 (zp (w5+1)) 1 1) ((w5.drew.alloc (.cells vo 23)).alloc (.cells vo 23)) (λ e w'=>∃a' c',e= .returned (.slice a' (K2+1) c')/\fw n₀ wA (.slice a k c) w' a' (K2+1) c' (BS++tj 1 [0])/\dC n₀ ((w5.drew.alloc (.cells vo 23)).alloc (.cells vo 23)) w' (Value.slice (zp g2) K2 k2) (.slice a' (K2+1) c'))):=ag (jd (cc:=1) 1 VQ (ach _ _) (Ji w5.drew _ [0]) (mY r6 _ (bk _)) an cP an hnA);have NE0:Hid (sX ((w5.drew.alloc (.cells vo 23)).alloc (.cells vo 23)) w5 [0]):=ag (Fx (pM w5.drew [0]) ((gb).alloc (cH) _));have NE1:Hid (sX ((w5.drew.alloc (.cells vo 23)).alloc (.cells vo 23)) (w5+1) [0]):=ag (Ji w5.drew _ [0]);have NR0:=ag (mY r6 w5 (cH));have NR1:=ag (mY r6 (w5+1) (bk _));have NS:Hid (((w5.drew.alloc (.cells vo 23)).alloc (.cells vo 23)).heap.size=w5.heap.size+1+1):=ag cP;clear r6;have mq:=ag (show k+(kB ⟨some ⟨B1,o1,none⟩,key,kc,some ⟨B2,o2,none⟩,val,vc⟩).length=K2+1+8/\bs++kB ⟨some ⟨B1,o1,none⟩,key,kc,some ⟨B2,o2,none⟩,val,vc⟩=BS++tj 1 [0]++tj 8 [0]from by rw[HKB.O.1,HKB.O.2];exact⟨by simp[kB,AM];omega,by simp[kB]⟩)
 refine ku 9 (λ w'=>w'.cell? (za w 3)=some (.int .i64 0)) bU d3 (λ hS=>?_);refine tT 0 hS ?_;refine tT 1 hS ?_;refine tT 4 hS ?_;refine tT 5 hS ?_;refine tT 6 hS ?_;refine Pm 2 7 bU rfl rfl (λ K hK=>?_) (λ K hK=>?_)
 ·skip;go_simp;refine et hK ?_ (λ hS=>?_)
  ·exact carry (w:=w5) (B6 _) d3
  clear hK K;refine Pm 3 7 bU rfl rfl (λ K hK=>?_) (λ K hK=>?_)
  ·skip;go_simp;refine N1a.O.mono ?_;rintro e w6 ⟨a3,k3,rfl,Cm,hG3⟩;have N8:Hid (Calls Tryz.prog 303 #[.slice a3 (K2+1) k3,.int .i64 8,.slice (zp w6) 1 1] (w6.alloc (.cells vo 23)) (λ e w'=>∃a' c',e= .returned (.slice a' (K2+1+8) c')/\fw n₀ wA (.slice a k c) w' a' (K2+1+8) c' (BS++tj 1 [0]++tj 8 [0])/\dC n₀ (w6.alloc (.cells vo 23)) w' (Value.slice a3 (K2+1) k3) (.slice a' (K2+1+8) c'))):=ag (jd (cc:=1) 8 Cm ((ah _ w6).alloc (cH) _) (pM w6 [0]) (mY Cm.row _ (cH)) an cP an hnA);simp only[];refine et hK ?_ (λ hS=>?_)
   ·exact Cm.cell c3 dN
   clear hK K;refine sT 7 λ K hK=>?_;go_simp;refine et hK ?_ (λ hS=>?_)
   ·exact carry (w:=w6) ((ah _ w6).alloc (cH) _) (Cm.cell c3 dN)
   exact rp
  ·skip;go_simp;refine et hK ?_ (λ hS=>?_)
   ·exact carry (w:=w5) (ach _ _) d3
   clear hK K;refine sT 3 λ K hK=>?_;go_simp;refine N1c.O.mono ?_;rintro e w6 ⟨a3,k3,rfl,Cm,hG3⟩;have N8:Hid (Calls Tryz.prog 303 #[.slice a3 (K2+1) k3,.int .i64 8,.slice (zp (w5+1)) 1 1] w6 (λ e w'=>∃a' c',e= .returned (.slice a' (K2+1+8) c')/\fw n₀ wA (.slice a k c) w' a' (K2+1+8) c' (BS++tj 1 [0]++tj 8 [0])/\dC n₀ (w6) w' (Value.slice a3 (K2+1) k3) (.slice a' (K2+1+8) c'))):=ag (jd (cc:=1) 8 Cm (ah _ w6) (Ct NE1.O hG3 NR1.O) (Kw hG3 NR1.O (by rw[NS.O];omega)) an cP an hnA);simp only[];refine et hK ?_ (λ hS=>?_)
   ·exact Cm.cell c3 dN
   exact rp
 ·skip;go_simp;refine et hK ?_ (λ hS=>?_)
  ·exact carry (w:=w5) (B6 _) d3
  clear hK K;refine sT 2 λ K hK=>?_;go_simp;refine et hK ?_ (λ hS=>?_)
  ·exact carry (w:=w5) (ach _ _) d3
  clear hK K;refine sT 3 λ K hK=>?_;go_simp;refine N1b.O.mono ?_;rintro e w6 ⟨a3,k3,rfl,Cm,hG3⟩;have N8:Hid (Calls Tryz.prog 303 #[.slice a3 (K2+1) k3,.int .i64 8,.slice (zp w5) 1 1] w6 (λ e w'=>∃a' c',e= .returned (.slice a' (K2+1+8) c')/\fw n₀ wA (.slice a k c) w' a' (K2+1+8) c' (BS++tj 1 [0]++tj 8 [0])/\dC n₀ (w6) w' (Value.slice a3 (K2+1) k3) (.slice a' (K2+1+8) c'))):=ag (jd (cc:=1) 8 Cm (ah _ w6) (Ct NE0.O hG3 NR0.O) (Kw hG3 NR0.O (by rw[NS.O];omega)) an cP an hnA);simp only[];refine et hK ?_ (λ hS=>?_)
  ·exact Cm.cell c3 dN
  exact rp
def kL(x:a8):List Nat:=(x.key.length::x.key)++tj 4 [x.at_,x.count,0]++tj 8 [0,0,0,0]
theorem wh(h:p:=by
 clear hK K;refine sT 14 λ K hK=>?_;go_simp;refine N4.O.mono ?_;rintro e w6 ⟨a3,k3,rfl,Cm,hG3⟩;simp only[];refine et hK ?_ (λ hS=>?_)
 ·exact⟨Cm.cell c0 dN,Cm.cell c1 dN,Cm.cell e0 zR,Cm.cell e1 zR⟩
 clear hK K;refine sT 15 λ K hK=>?_;go_simp;refine ra hK ?_;clear hK K;refine nK bU ?_ _;have q2:=Cm.cell e2 zR;have q3:=Cm.cell e3 zR;have q4:=Cm.cell e4 zR;have q5:=Cm.cell e5 zR;have N8:=ag (jd (cc:=4) 8 Cm (W':=w6.alloc (.cells agO 23)) ((ah _ w6).alloc (cH) _) (pM w6 [0,0,0,0]) (mY Cm.row _ (cH)) an cP dU LH)
 go_wp2_with fail
 refine N8.O.mono ?_;rintro e w7 ⟨a4,k4,rfl,hL4,hG4⟩
 go_wp2_with fail
 go_ret;exact⟨a4,k4,by rw[mq.O.1];rfl,by rw[mq.O.1,mq.O.2];exact hL4.row,by rw[mq.O.1];exact HGA.O.T hL4.pW⟩
 ):p:=h
theorem Wb{a:az}(x:a8)(bA:w.ownsRow n₀ 5 1 (.slice a k c) k (bE bs))(eb:ay w0 x.ka x.key)(nt:Below n₀ w0 w)(yJ:w0.heap.size=n₀)
 (h1:1<=x.key.length)(h2:x.key.length<=120)(h3:x.at_<524288)(h4:x.count<=1073741824)(hk:k<=20000)(hn:n₀<=w.heap.size):
 Calls Tryz.prog 305 #[x.v,.slice a k c] w λ e w'=>∃a' c',e= .returned (.slice a' (k+(kL x).length) c')/\
  w'.ownsRow n₀ 5 1 (.slice a' (k+(kL x).length) c') (k+(kL x).length) (bE (bs++kL x))/\dC n₀ w w' (.slice a k c) (.slice a' (k+(kL x).length) c'):=by
 obtain⟨B1,o1,e1⟩:∃B o,x.ka=some ⟨B,o,none⟩:=by
  rcases eb.2 with h|⟨B,o,h,_⟩
  ·rw[h]at h1;simp at h1
  ·exact⟨B,o,h⟩
 obtain⟨ka,key,kc,at_,ct⟩:=x;simp only at e1 h1 h2 h3 h4 eb;subst e1;obtain⟨wA,Y9⟩:=bL (w.alloc (.cells (jl (some ⟨B1,o1,none⟩) key.length kc at_ ct) 363));obtain⟨wB,hwB⟩:=bL (wA.alloc (.cells (qp ct) 33));have Zb:wA.heap.size=w.heap.size+1:=by rw[Y9];simp
 have Hg:Below w w wA:=by rw[Y9];exact(ah _ w).alloc (cH) _
 have afe:Below wA wA wB:=by rw[hwB];exact(ah _ wA).alloc (cH) _
 have hbB:Below w w wB:=Hg.T (afe.mono Hg.size);have LH:n₀<=wB.heap.size:=aj hn hbB.size;have dN:(Value.slice a k c).ownBlock≠some w.heap.size:=mY bA _ (cH);have zR:(Value.slice a k c).ownBlock≠some (w.heap.size+1):=mY bA _ (bk _);have hz:wB.heap[w.heap.size]? =some (.cells (jl (some ⟨B1,o1,none⟩) key.length kc at_ ct) 363):=by rw[afe.block _ an,Y9];exact ai w _
 have j5:wB.heap[w.heap.size+1]? =some (.cells (qp ct) 33):=by rw[hwB,<-Zb];exact ai wA _
 have c0:wB.cell? (za w 0)=some (.slice (some ⟨B1,o1,none⟩) key.length kc):=by rw[af hz];rfl
 have c1:wB.cell? (za w 1)=some (.int .i64 (at_:Int)):=by rw[af hz];rfl
 obtain⟨e0,e1,e2,e3,e4,e5⟩:=kI j5;have hL:fw n₀ wB (.slice a k c) wB a k c bs:=⟨dC.row (n₀:=n₀) hbB bA,dC.refl _ _ _⟩;have HB:Hid (Below n₀ w0 wB):=ag (nt.T (hbB.mono hn));have LG:=ag eb;have HGA:=ag (dC.bH hbB hn (.slice a k c));have bY:IntKind.u64.wrap (at_:Int)=(at_:Int):=by rw[bR];omega
 have fH:IntKind.u64.wrap (ct:Int)=(ct:Int):=by rw[bR];omega
 have gV:IntKind.u64.wrap 0=0:=by decide
 have mq:=ag (show k+(kL ⟨some ⟨B1,o1,none⟩,key,kc,at_,ct⟩).length=k+1+key.length+4*3+8*4/\bs++kL ⟨some ⟨B1,o1,none⟩,key,kc,at_,ct⟩=bs++key.length::key++tj 4 [at_,ct,0]++tj 8 [0,0,0,0]from by exact⟨by simp[kL,AM];omega,by simp[kL]⟩)
 clear bA hz j5 eb nt;clear Zb;unfold a8.v;go_enter Tryz.func305,Tryz.ntmps305
 go_wp2_with fail
 rw[<-Y9,<-hwB];clear Y9 hwB;refine ku 15 (λ w'=>w'.cell? (za w 0)=some (.slice (some ⟨B1,o1,none⟩) key.length kc)/\w'.cell? (za w 1)=some (.int .i64 (at_:Int))/\w'.cell? (za (w+1) 0)=some (.int .i64 (ct:Int))/\w'.cell? (za (w+1) 1)=some (.int .i64 0)) bU ⟨c0,c1,e0,e1⟩ (λ hS=>?_);refine tT 0 hS ?_;refine tT 1 hS ?_;refine tT 2 hS ?_;refine tT 4 hS ?_;refine tT 5 hS ?_;refine tT 6 hS ?_;refine tT 7 hS ?_;refine tT 8 hS ?_;refine tT 9 hS ?_;refine tT 10 hS ?_;refine tT 11 hS ?_;refine tT 12 hS ?_;refine Pm 3 13 bU rfl rfl (λ K hK=>?_) (λ K hK=>?_)
 ·skip;go_simp;refine(qA (hL.below LH (gb).drew) LG.O HB.O yJ h1 an an LH).mono ?_;rintro e w4 ⟨g1,k1,rfl,rY, -⟩;have N4:=ag (jd (cc:=3) 4 rY (W':=w4.alloc (.cells #[.int .u64 (at_:Int),.int .u64 (ct:Int),.int .u64 0] 23)) ((ah _ w4).alloc (cH) _) (pM w4 [at_,ct,0]) (mY rY.row _ (cH)) an cP an LH);simp only[];refine et hK ?_ (λ hS=>?_)
  ·exact⟨rY.cell c0 dN,rY.cell c1 dN,rY.cell e0 zR,rY.cell e1 zR⟩
  clear hK K;refine sT 13 λ K hK=>?_;go_simp;refine et hK ?_ (λ hS=>?_)
  ·exact⟨carry (w:=w4) ((ah _ w4).alloc (cH) _) (rY.cell c0 dN),carry (w:=w4) ((ah _ w4).alloc (cH) _) (rY.cell c1 dN),carry (w:=w4) ((ah _ w4).alloc (cH) _) (rY.cell e0 zR),carry (w:=w4) ((ah _ w4).alloc (cH) _) (rY.cell e1 zR)⟩
  exact wh
 ·skip;go_simp;refine et hK ?_ (λ hS=>?_)
  ·exact⟨carry (w:=wB) ((ah _ wB).drew.alloc (cH) _) c0,carry (w:=wB) ((ah _ wB).drew.alloc (cH) _) c1,carry (w:=wB) ((ah _ wB).drew.alloc (cH) _) e0,carry (w:=wB) ((ah _ wB).drew.alloc (cH) _) e1⟩
  clear hK K;refine sT 3 λ K hK=>?_;go_simp;refine(qA (hL.below LH ((gb).drew.alloc (cH) _)) LG.O HB.O yJ h1 an an LH).mono ?_;rintro e w4 ⟨g1,k1,rfl,rY,hG1⟩;have N4:=ag (jd (cc:=3) 4 rY (W':=w4) (ah _ w4) (Ct (pM wB.drew [at_,ct,0]) hG1 (mY hL.row _ (cH))) (Kw hG1 (mY hL.row _ (cH)) cP) an cP an LH);simp only[];refine et hK ?_ (λ hS=>?_)
  ·exact⟨rY.cell c0 dN,rY.cell c1 dN,rY.cell e0 zR,rY.cell e1 zR⟩
  exact wh
def dc(xs:List aH):List Nat:=1::xs.length::xs.flatMap kB
def cz(xs:List a8):List Nat:=2::xs.length::xs.flatMap kL
theorem nQ:∀(i n:Nat),∀y∈fK i n,y<256
 |0,_,_,h=>by simp[fK]at h
 |i+1,n,y,h=>by
  rcases aO.1 h with rfl|h
  ·omega
  ·exact nQ i n y h
theorem Kx(wd:Nat)(vs:List Nat):∀y∈tj wd vs,y<256:= λ y h=>by obtain⟨v,_,h⟩:=ck.1 h;exact nQ _ _ y h
theorem Eu(x:aH)(h1:x.key.length<=120)(h2:x.val.length<=100)(h3:∀y∈x.key,y<256)(h4:∀y∈x.val,y<256):∀y∈kB x,y<256:= λ y h=>by
 simp only[kB,aG,aO]at h;rcases h with(((rfl|h)|(rfl|h))|h)|h
 ·omega
 ·exact h3 y h
 ·omega
 ·exact h4 y h
 ·exact Kx _ _ y h
 ·exact Kx _ _ y h
theorem Ev(x:a8)(h1:x.key.length<=120)(h3:∀y∈x.key,y<256):∀y∈kL x,y<256:= λ y h=>by
 simp only[kL,aG,aO]at h;rcases h with((rfl|h)|h)|h
 ·omega
 ·exact h3 y h
 ·exact Kx _ _ y h
 ·exact Kx _ _ y h
theorem AO(x:aH):(kB x).length=x.key.length+x.val.length+11:=by simp[kB,AM]<;>omega
theorem AP(x:a8):(kL x).length=x.key.length+45:=by simp[kL,AM]<;>omega
theorem nR{α:Type}(f:α->List Nat)(m:Nat):∀(xs:List α),(∀x∈xs,(f x).length<=m)->(xs.flatMap f).length<=m*xs.length
 |[],_=>by simp
 |x::xs,h=>by
  have h1:=nR f m xs (λ y hy=>h y kj);have h2:=h x cP;simp only[bf,ar,aK];rw[ju];omega
theorem yu{α:Type}(f:α->List Nat)(xs:List α)(j:Nat)(x:α)(h:xs[j]? =some x):(xs.take (j+1)).flatMap f=(xs.take j).flatMap f++f x:=by rw[aL,h];simp
theorem AQ{y z:Value}(h:Below (w.alloc (.cells #[x,y,z] t)).heap.size (w.alloc (.cells #[x,y,z] t)) w2):w2.cell? (za w 0)=some x/\w2.cell? (za w 1)=some y/\w2.cell? (za w 2)=some z:=
 ⟨l7 h 0 _ rfl,l7 h 1 _ rfl,l7 h 2 _ rfl⟩
theorem nS(h:p:=by
 rcases bg HR.O with⟨_,h,_⟩|⟨g,_,rfl,_⟩
 ·omega
 ·exact⟨g,rfl⟩
 ):p:=h
theorem Dd{a:az}{xs:List aH}(c:Nat)(h:ec w a xs)(ho:nO xs)(yI:∀x∈xs,1<=x.val.length)(b:az)(d:Nat):
 Calls Tryz.prog 217 #[.agg #[.bool true,.slice a xs.length c,.slice b 0 d]] w λ e w'=>∃a' k,e= .returned (.tuple (Lz a' (dc xs).length k))/\(dc xs).length<=k/\eZ w a'/\ay w' a' (dc xs)/\Below w w w':=by
 have hlen:=ho.mE;have Fv:=ho.MK;have hB:= λ x hx=>(h.2 x hx);have MT:= λ (w2:World) (hb:Below w w w2)=>zN c (h.below hb) ho b d;have hP:= λ (w2:World) (hb:Below w w w2)=>uF c (h.below hb) an b 0 d;have cL:∀y∈dc xs,y<256:= λ y hy=>by
  simp only[dc,aO]at hy;rcases hy with rfl|rfl|hy
  ·omega
  ·omega
  ·obtain⟨x,hx,hy⟩:=ck.1 hy;exact Eu x (ho.key x hx).2.1 (ho.key x hx).2.2 (h.2 x hx).1.1 (h.2 x hx).2.1 y hy
 have HC:=ag MT;have HP:=ag hP;have HO:=ag ho;have HX:=ag h.2;have Fy:=ag cL;have HV:=ag yI;clear yI;have j4:Hid (Below w w (w.alloc (.cells #[.bool true,.slice a xs.length c,.slice b 0 d] 147))):=ag bW;clear h MT hP ho cL hB;have hlu:(xs.length:Int)<=6:=an;go_enter Tryz.func217,Tryz.ntmps217
 go_wp2_with first
  |((with_reducible refine(HC.O _ j4.O).mono ?_);rintro e w2 ⟨rfl,bG⟩;have eJ:=ag (j4.O.T (bG.mono j4.O.size));obtain⟨n0,n1,n2⟩:=AQ bG;clear bG)
  |((with_reducible refine(HP.O _ eJ.O).mono ?_);rintro e w3 ⟨p,k,rfl,bA,cu⟩;replace n0:=carry cu n0;replace n1:=carry cu n1;replace n2:=carry cu n2;have m0:∀o,(w3.alloc o).cell? (za w 0)=_:= λ o=>carry ((ah _ w3).alloc (cH) o) n0;have ek:=ag (eJ.O.T (cu.mono eJ.O.size));have HR:=ag bA;clear cu bA)
  |fail
 obtain⟨g,rfl⟩:∃g,p=some ⟨g,0,none⟩:=by exact nS
 have UG:g<w3.heap.size:=by
  rcases bg HR.O with⟨h,_⟩|⟨g2,_,h,_,hg⟩
  ·cases h
  ·cases h;exact(cS hg).1
 obtain⟨wS,Rk⟩:=bL (w3.alloc (.cells #[.int .u8 1,.int .u8 (xs.length:Int)] 5));have Ky:Below w3 w3 wS:=by rw[Rk];exact(ah _ w3).alloc (cH) _
 have hnS:w.heap.size<=wS.heap.size:=aj ek.O.size Ky.size;have hLS:fw w wS (.slice (zp w3) 2 2) wS (zp w3) 2 2 [1,xs.length]:=by refine⟨⟨by simp[bE],.inr ⟨w3.heap.size,2,#[.int .u8 1,.int .u8 (xs.length:Int)],rfl,ek.O.size,?_,cH,by simp[maxLen],rfl,rfl⟩⟩,dC.refl _ _ _⟩;rw[Rk];exact ai w3 _
 have Wc:(Value.slice (zp w3) 2 2).ownBlock≠some g:=by simp[Value.ownBlock];omega
 have HL:=ag hLS;have O1:Hid (Below w w wS):=ag (ek.O.T (Ky.mono ek.O.size));have HWS:=ag Ky;have HVN:=ag Wc;rw[<-Rk];clear Rk Ky hLS Wc UG
 go_loopw [7,30] (λ ov iv wr=>∃j:Nat,j<=xs.length/\iv= .int .i64 (j:Int)/\∃(k':Nat) (a':az) (c':Nat),ov= .slice a' k' c'/\k'=2+((xs.take j).flatMap kB).length/\Hid (fw w wS (.slice (zp w3) 2 2) wr a' k' c' (1::xs.length::(xs.take j).flatMap kB))) (λ _ iv _=>xs.length - (intOf iv).toNat)
 case atStart=>exact⟨0,aD _,rfl,2,_,_,rfl,by simp,ag (by simpa using HL.O)⟩
 case round=>
  obtain⟨j,hj,rfl,k',a',c',rfl,hk',hl⟩:=hrel;by_cases cL:j<xs.length
  ·obtain⟨x,hx⟩:∃x,xs[j]? =some x:=⟨xs[j],by simp[cL]⟩;have Kb:=HO.O.key x (ak hx);have dK:wr.cell? ⟨g,j,none⟩=some (qf x):=hl.O.cell (p:=⟨g,j,none⟩) (carry HWS.O (kK HR.O j _ jz)) HVN.O;have qH:=nR kB 231 (xs.take j) (λ y hy=>by have:=HO.O.key y (aP hy);rw[AO];omega);rw[aX]at qH;have u9:k'<=20000:=an;have yN:=ag (Wa x hl.O.row (HX.O x (ak hx)).1 (HX.O x (ak hx)).2 (O1.O.T hl.O.pW.below) rfl Kb.1 Kb.2.1 (HV.O x (ak hx)) Kb.2.2 u9 (aj hnS hl.O.pW.below.size));have hsu:=ag (yu kB xs j x hx);have mn:(j:Int)<(xs.length:Int):=an;unfold qf aH.v at dK;unfold aH.v at yN;have Kn:=ag hk';clear hx Kb qH hk'
   go_wp2_with first
    |((with_reducible refine yN.O.mono ?_);rintro e w5 ⟨a5,c5,rfl,r6,Iz⟩)
    |fail
   exact⟨⟨j+1,an,by simp,k'+(kB x).length,a5,c5,rfl,by rw[hsu.O,ar,Kn.O];omega,ag ⟨by rw[hsu.O];simpa using r6,hl.O.pW.T Iz⟩⟩,by simp[intOf];omega⟩
  ·obtain rfl:j=xs.length:=an;rw[bd]at hk' hl;have sk:=dk (xs:=dc xs) (n₀:=w.heap.size) (W:=wr) (k:=k') (c:=c') (g:=(match a' with|some p=>p.block|none=>0)) (by
    rcases bg hl.O.row with⟨h,h2,_⟩|⟨g2,_,h,_⟩
    ·omega
    ·subst h;exact hl.O.row) Fy.O
   obtain⟨g2,rfl⟩:∃g2,a'=some ⟨g2,0,none⟩:=by
    rcases bg hl.O.row with⟨h,h2,_⟩|⟨g2,_,h,_⟩
    ·omega
    ·exact⟨g2,h⟩
   have jD:=ag (show k'=(dc xs).length/\(dc xs).length<=c'/\eZ w (zp g2)/\ay wr (zp g2) (dc xs)/\Below w w wr from⟨sk.2.2,by have:=sk.2.1;have:=sk.2.2;omega,eZ.of (Cj hl.O.row),sk.1,O1.O.T hl.O.pW.below⟩);clear sk hl hk'
   go_wp2_with fail
   go_ret2;exact⟨_,c',by rw[<-jD.O.1];rfl,jD.O.2⟩
theorem AR{a:az}{xs:List a8}(c:Nat)(h:kJ w a xs)(ho:gM xs)(b:az)(d:Nat):
 Calls Tryz.prog 217 (BX (.agg (zm b 0 d a xs.length c))) w λ e w'=>∃a' k,e= .returned (.tuple (Lz a' (cz xs).length k))/\(cz xs).length<=k/\eZ w a'/\ay w' a' (cz xs)/\Below w w w':=by
 have hlen:=ho.mE;have Fv:=ho.ML;have hB:= λ x hx=>(h.2 x hx);have MT:= λ (w2:World) (hb:Below w w w2)=>wc c (h.below hb) ho b d;have hP:= λ (w2:World) (hb:Below w w w2)=>sl c (h.below hb) an b 0 d;have cL:∀y∈cz xs,y<256:= λ y hy=>by
  simp only[cz,aO]at hy;rcases hy with rfl|rfl|hy
  ·omega
  ·omega
  ·obtain⟨x,hx,hy⟩:=ck.1 hy;exact Ev x (ho.key x hx).2.1 (h.2 x hx).1 y hy
 have HC:=ag MT;have HP:=ag hP;have HO:=ag ho;have HX:=ag h.2;have Fy:=ag cL;skip;have j4:Hid (Below w w (w.alloc (.cells (zm b 0 d a xs.length c) 147))):=ag bW;clear h MT hP ho cL hB;have hlu:(xs.length:Int)<=6:=an;go_enter Tryz.func217,Tryz.ntmps217
 go_wp2_with first
  |((with_reducible refine(HC.O _ j4.O).mono ?_);rintro e w2 ⟨rfl,bG⟩;have eJ:=ag (j4.O.T (bG.mono j4.O.size));obtain⟨n0,n1,n2⟩:=AQ bG;clear bG)
  |((with_reducible refine(HP.O _ eJ.O).mono ?_);rintro e w3 ⟨p,k,rfl,bA,cu⟩;replace n0:=carry cu n0;replace n1:=carry cu n1;replace n2:=carry cu n2;have m0:∀o,(w3.alloc o).cell? (za w 0)=_:= λ o=>carry ((ah _ w3).alloc (cH) o) n0;have ek:=ag (eJ.O.T (cu.mono eJ.O.size));have HR:=ag bA;clear cu bA)
  |fail
 obtain⟨g,rfl⟩:∃g,p=some ⟨g,0,none⟩:=by exact nS
 have UG:g<w3.heap.size:=by
  rcases bg HR.O with⟨h,_⟩|⟨g2,_,h,_,hg⟩
  ·cases h
  ·cases h;exact(cS hg).1
 obtain⟨wS,Rk⟩:=bL (w3.alloc (.cells #[.int .u8 2,.int .u8 (xs.length:Int)] 5));have Ky:Below w3 w3 wS:=by rw[Rk];exact(ah _ w3).alloc (cH) _
 have hnS:w.heap.size<=wS.heap.size:=aj ek.O.size Ky.size;have hLS:fw w wS (.slice (zp w3) 2 2) wS (zp w3) 2 2 [2,xs.length]:=by refine⟨⟨by simp[bE],.inr ⟨w3.heap.size,2,#[.int .u8 2,.int .u8 (xs.length:Int)],rfl,ek.O.size,?_,cH,by simp[maxLen],rfl,rfl⟩⟩,dC.refl _ _ _⟩;rw[Rk];exact ai w3 _
 have Wc:(Value.slice (zp w3) 2 2).ownBlock≠some g:=by simp[Value.ownBlock];omega
 have HL:=ag hLS;have O1:Hid (Below w w wS):=ag (ek.O.T (Ky.mono ek.O.size));have HWS:=ag Ky;have HVN:=ag Wc;rw[<-Rk];clear Rk Ky hLS Wc UG
 go_loopw [7,30] (λ ov iv wr=>∃j:Nat,j<=xs.length/\iv= .int .i64 (j:Int)/\∃(k':Nat) (a':az) (c':Nat),ov= .slice a' k' c'/\k'=2+((xs.take j).flatMap kL).length/\Hid (fw w wS (.slice (zp w3) 2 2) wr a' k' c' (2::xs.length::(xs.take j).flatMap kL))) (λ _ iv _=>xs.length - (intOf iv).toNat)
 case atStart=>exact⟨0,aD _,rfl,2,_,_,rfl,by simp,ag (by simpa using HL.O)⟩
 case round=>
  obtain⟨j,hj,rfl,k',a',c',rfl,hk',hl⟩:=hrel;by_cases cL:j<xs.length
  ·obtain⟨x,hx⟩:∃x,xs[j]? =some x:=⟨xs[j],by simp[cL]⟩;have Kb:=HO.O.key x (ak hx);have dK:wr.cell? ⟨g,j,none⟩=some (qg x):=hl.O.cell (p:=⟨g,j,none⟩) (carry HWS.O (kK HR.O j _ jz)) HVN.O;have qH:=nR kL 165 (xs.take j) (λ y hy=>by have:=HO.O.key y (aP hy);rw[AP];omega);rw[aX]at qH;have u9:k'<=20000:=an;have yN:=ag (Wb x hl.O.row (HX.O x (ak hx)) (O1.O.T hl.O.pW.below) rfl Kb.1 Kb.2.1 Kb.2.2.2.1 an u9 (aj hnS hl.O.pW.below.size));have hsu:=ag (yu kL xs j x hx);have mn:(j:Int)<(xs.length:Int):=an;unfold qg a8.v at dK;unfold a8.v at yN;have Kn:=ag hk';clear hx Kb qH hk'
   go_wp2_with first
    |((with_reducible refine yN.O.mono ?_);rintro e w5 ⟨a5,c5,rfl,r6,Iz⟩)
    |fail
   exact⟨⟨j+1,an,by simp,k'+(kL x).length,a5,c5,rfl,by rw[hsu.O,ar,Kn.O];omega,ag ⟨by rw[hsu.O];simpa using r6,hl.O.pW.T Iz⟩⟩,by simp[intOf];omega⟩
  ·obtain rfl:j=xs.length:=an;rw[bd]at hk' hl;have sk:=dk (xs:=cz xs) (n₀:=w.heap.size) (W:=wr) (k:=k') (c:=c') (g:=(match a' with|some p=>p.block|none=>0)) (by
    rcases bg hl.O.row with⟨h,h2,_⟩|⟨g2,_,h,_⟩
    ·omega
    ·subst h;exact hl.O.row) Fy.O
   obtain⟨g2,rfl⟩:∃g2,a'=some ⟨g2,0,none⟩:=by
    rcases bg hl.O.row with⟨h,h2,_⟩|⟨g2,_,h,_⟩
    ·omega
    ·exact⟨g2,h⟩
   have jD:=ag (show k'=(cz xs).length/\(cz xs).length<=c'/\eZ w (zp g2)/\ay wr (zp g2) (cz xs)/\Below w w wr from⟨sk.2.2,by have:=sk.2.1;have:=sk.2.2;omega,eZ.of (Cj hl.O.row),sk.1,O1.O.T hl.O.pW.below⟩);clear sk hl hk'
   go_wp2_with fail
   go_ret2;exact⟨_,c',by rw[<-jD.O.1];rfl,jD.O.2⟩
end
def Fz(c:Int):List Value:=(Sq c)
def zS(W:World)(a:az)(cs:List Nat):Prop:=cs=[]\/∃B o,a=some ⟨B,o,none⟩/\∀(j c:Nat),cs[j]? =some c->∀(i:Nat) (v:Value),(Fz c)[i]? =some v->W.cell? ⟨B,o+j*6+i,none⟩=some v
theorem zS.below{a:az}{cs:List Nat}(h:zS W a cs)(hb:Below W W W'):zS W' a cs:=by
 rcases h with h|⟨B,o,e,hc⟩
 ·exact .inl h
 ·exact .inr ⟨B,o,e, λ j c hj i v hi=>carry hb (hc j c hj i v hi)⟩
theorem yZ(cs:List Nat)(j c:Nat)(h:cs[j]? =some c):(cs.take (j+1)).sum=(cs.take j).sum+c:=by rw[aL,h];simp
theorem De(cs:List Nat)(j:Nat):(cs.take j).sum<=cs.sum:=by
 have:cs.sum=(cs.take j).sum+(cs.drop j).sum:=by rw[<-jL,bj]
 omega
theorem MU{a:az}{cs:List Nat}(k:Nat)(h:zS w a cs)(hl:cs.length<=1000)(hs:cs.sum<=1073741824):
 Calls Tryz.prog 205 (sg a cs.length k) w λ e w'=>e= .returned (.tuple #[iP (cs.sum:Nat),.int .i64 0])/\Below w w w':=by
 have H:=ag h;have HS:=ag hs;have H0:Hid (Below w w ((w.alloc (.cells zn 33)).alloc (.cells zn 33))):=ag bW;clear h hs;go_enter Tryz.func205,Tryz.ntmps205;go_wp2
 go_step3
 obtain⟨w1,bY⟩:=bL ((w.alloc (.cells zn 33)).alloc (.cells zn 33));rw[<-bY]at H0;obtain⟨hz,j5⟩:=bu (ah _ ((w.alloc (.cells zn 33)).alloc (.cells zn 33)));rw[<-bY]at hz j5;have HZ:=dO hz j5;clear hz j5
 go_wp2_with fail
 rw[<-bY];have aff:w.heap.size+1<w1.heap.size:=by rw[bY];simp
 have afg:=ag aff;clear bY aff
 go_step3
 go_wp2_with fail
 go_loopw [4,13] (λ ev iv wr=>ev= .int .i64 0/\∃j:Nat,j<=cs.length/\iv= .int .i64 (j:Int)/\Hid (Below w1 w1 wr)) (λ _ iv _=>cs.length - (intOf iv).toNat)
 case atStart=>exact⟨rfl,0,aD _,rfl,ag (gb)⟩
 case round=>
  obtain⟨rfl,j,hj,rfl,hB⟩:=hrel;by_cases cL:j<cs.length
  ·obtain⟨c,hc⟩:∃c,cs[j]? =some c:=⟨cs[j],by simp[cL]⟩;have Ki:c<=1073741824:=by have h1:=yZ cs j c hc;have h2:=De cs (j+1);have:=HS.O;omega
   obtain⟨B,o,rfl,dK⟩:∃B o,a=some ⟨B,o,none⟩/\∀(i:Nat) (v:Value),(Fz c)[i]? =some v->wr.cell? ⟨B,o+j*6+i,none⟩=some v:=by
    rcases H.O.below (H0.O.T (hB.O.mono H0.O.size))with h|⟨B,o,e,h⟩
    ·rw[h]at cL;simp at cL
    ·exact⟨B,o,e,h j c hc⟩
   have c0:=dK 0 _ rfl;have c1:=dK 1 _ rfl;have c2:=dK 2 _ rfl;have c3:=dK 3 _ rfl;have c4:=dK 4 _ rfl;have c5:=dK 5 _ rfl;rw[bb]at c0;have mn:(j:Int)<(cs.length:Int):=an;have hjb:(j:Int)<=1000:=an;have HM:=ag λ w=>Fq c Ki w;clear hc Ki dK
   go_wp2_with first
    |((with_reducible refine(HM.O _).mono ?_);rintro e w4 ⟨rfl,dX⟩;replace hB:=ag ((hB.O.alloc hB.O.size _).T (dX.mono zt)))
    |fail
   go_roundw
   case rel=>exact⟨rfl,j+1,an,by simp,hB⟩
   case measure=>simp[intOf];omega
  ·obtain rfl:j=cs.length:=an
   go_wp2_with fail
   have hz:=(hB.O.block _ (Nat.lt_of_succ_lt afg.O)).T HZ.O.1;have j5:=(hB.O.block _ afg.O).T HZ.O.2;have HZ2:=dO hz j5;have eJ:=ag (H0.O.T (hB.O.mono H0.O.size));clear hz j5 HZ
   go_loopw [28] (λ iv wq=>∃j:Nat,j<=cs.length/\iv= .int .i64 (j:Int)/\Hid (Below w w wq)/\Hid (wq.heap[w.heap.size]? =some (.cells zn 33))/\Hid (wq.heap[w.heap.size+1]? =some (.cells (Sq ((cs.take j).sum:Nat)) 33))) (λ iv _=>cs.length - (intOf iv).toNat)
   case atStart=>exact⟨0,aD _,rfl,eJ,ag HZ2.O.1,ag (by simpa using HZ2.O.2)⟩
   case round=>
    obtain⟨j,hj,rfl,hB,hz,j5⟩:=hrel;by_cases cL:j<cs.length
    ·obtain⟨c,hc⟩:∃c,cs[j]? =some c:=⟨cs[j],by simp[cL]⟩;have vx:=yZ cs j c hc;have Ki:(cs.take j).sum+c<=1073741824:=by have h2:=De cs (j+1);have:=HS.O;omega
     obtain⟨B,o,rfl,dK⟩:∃B o,a=some ⟨B,o,none⟩/\∀(i:Nat) (v:Value),(Fz c)[i]? =some v->wr.cell? ⟨B,o+j*6+i,none⟩=some v:=by
      rcases H.O.below hB.O with h|⟨B,o,e,h⟩
      ·rw[h]at cL;simp at cL
      ·exact⟨B,o,e,h j c hc⟩
     have c0:=dK 0 _ rfl;have c1:=dK 1 _ rfl;have c2:=dK 2 _ rfl;have c3:=dK 3 _ rfl;have c4:=dK 4 _ rfl;have c5:=dK 5 _ rfl;rw[bb]at c0;have mn:(j:Int)<(cs.length:Int):=an;have hjb:(j:Int)<=1000:=an;obtain⟨S,hS⟩:=bL ((cs.take j).sum);rw[<-hS]at vx Ki j5;have g1:decide ((1073741824:Int) - (c:Int)<(S:Int))=false:=dU;have g2:(c:Int)<=1073741824:=an;have FA:=ag vx;have HM:=ag λ w=>VV S c Ki w;obtain⟨d0,d1,d2,d3,d4,d5⟩:=kI j5.O;have zK:=(cS j5.O).1;have k0:∀o,(wr.alloc o).cell? (za (w+1) 0)=_:= λ o=>carry ((ah _ wr).alloc (cH) o) d0;have k1:∀o,(wr.alloc o).cell? (za (w+1) 1)=_:= λ o=>carry ((ah _ wr).alloc (cH) o) d1;have k2:∀o,(wr.alloc o).cell? (za (w+1) 2)=_:= λ o=>carry ((ah _ wr).alloc (cH) o) d2;have k3:∀o,(wr.alloc o).cell? (za (w+1) 3)=_:= λ o=>carry ((ah _ wr).alloc (cH) o) d3;have k4:∀o,(wr.alloc o).cell? (za (w+1) 4)=_:= λ o=>carry ((ah _ wr).alloc (cH) o) d4;have k5:∀o,(wr.alloc o).cell? (za (w+1) 5)=_:= λ o=>carry ((ah _ wr).alloc (cH) o) d5;have Cu:Hid (∀o,Below wr wr (wr.alloc o)):=ag λ o=>(ah _ wr).alloc (cH) o;clear hc Ki dK vx zK hS
     go_wp2_with first
      |((with_reducible refine(HM.O _).mono ?_);rintro e w4 ⟨rfl,dX⟩;have sc:=(Cu.O _).T (dX.mono (Cu.O _).size);have tt:=(sc.block _ (cS j5.O).1).T j5.O;have hy:=(sc.block _ (cS hz.O).1).T hz.O;obtain⟨x0,x1,x2,x3,x4,x5⟩:=kI tt;obtain⟨f0,f1,f2,f3,f4,f5⟩:=AJ tt;have HY:=dO hy tt;have HBB:=ag sc;clear hy tt sc dX)
      |fail
     exact⟨⟨j+1,an,by simp,ag ((hB.O.T (HBB.O.mono hB.O.size)).T (mb (bk _))),ag (by rw[Pw _ (Nat.ne_of_lt (fJ _))];exact HY.O.1),ag (by rw[FA.O,MG HY.O.2];simp)⟩,by simp[intOf];omega⟩
    ·obtain rfl:j=cs.length:=an;rw[bd]at j5;obtain⟨d0,d1,d2,d3,d4,d5⟩:=kI j5.O;obtain⟨x0,x1,x2,x3,x4,x5⟩:=kI hz.O;obtain⟨f0,f1,f2,f3,f4,f5⟩:=AJ hz.O
     go_wp2_with fail
     rw[fo];refine bodyPost_ret (v:=.tuple #[iP (cs.sum:Nat),.int .i64 0]) ?_ bp ⟨rfl,hB.O.T (mb (cH))⟩;obtain⟨s0,s1,s2,s3,s4,s5⟩:=kI (MG (v0:=.int .i64 (cs.sum:Nat)) (v1:=.int .i64 0) (v2:=.int .i64 0) (v3:=.int .u64 0) (v4:=.int .i64 0) (v5:=.int .i64 0) hz.O);rw[results_cell_tmp rfl];go_simp
end Go.Proofs.YtbiififbfefkjaaGreatDoor

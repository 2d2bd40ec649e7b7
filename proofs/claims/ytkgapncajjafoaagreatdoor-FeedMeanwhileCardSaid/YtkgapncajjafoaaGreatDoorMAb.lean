/- The store, part 2. -/
import Derived.Test.YtkgapncajjafoaaGreatDoorMAa
import Derived.RangeFuncBox
import Derived.Maps.AppendAt
import Derived.Deep.RegionHeld3
import Derived.WalkMore
import Derived.Test.YtkgapncajjafoaaGreatDoorChecked
import Derived.WalkKit
import Derived.IntWalk
import Derived.Lib.Hide
import Derived.Laws.BitsAllLaws
import Derived.Sort.Walk7a
import Derived.OneCell
import Derived.RangeFuncWrites
set_option maxRecDepth 100000
set_option maxHeartbeats 16000000
namespace Go.Proofs.YtkgapncajjafoaaGreatDoor
open Go.RowKit Go.Shelf
variable{w W W' A w0:World}{n₀ k c m B at_ n n0 D gf:Nat}{xs bs all p:List Nat}{a b:Option Addr}{ps:List Piece}{u v:Value}{t:TypeId}{P:Program}{lb:Array Value}{E:World -> Prop}{assign body:Code}{Q:Exit -> Act -> World -> Prop}
section
attribute [local go_sem] Oper.semAt_some
attribute [-go_sem] Builtin.append_
theorem Tryz.nu:(Tryz.prog.info? 5).map (λ i=>(i.zero,i.size,i.bytes))=some (some (.int .u8 0),1,1):=aO
theorem Tryz.U7(n:Nat)(hn:n<=524288):∃M:Array Value,M.size=n/\∀W:World,(Instr.makeSlice 34 (.int .i64 0) (.int .i64 (n:Int))).run Tryz.prog W= .ok (.slice (zp W) 0 n) (W.alloc (.cells M 5)):=by
 obtain⟨i0,hi,gQ,fq,mx⟩:=info_parts Tryz.nu
 refine⟨madeCells (Value.int .u8 0).cells n,size_madeCells _ _, λ W=>?_⟩
 have:=run_make (P:=Tryz.prog) W 34 5 i0 (.int .u8 0) aO hi gQ .i64 .i64 0 (n:Int) (Int.le_refl _) ag (by rw[mx];omega) ag
 simpa[fq]using this
def aB(xs:List Nat):List Value:=xs.map λ x:Nat=>.int .u8 (x:Int)
def fL{w:World}(at_ n:Nat)(pre:List (jT w)):List Nat:=(pre.map Subtype.val).flatMap (fB at_ n)
theorem tX(at_ n:Nat)(pre:List (jT w))(x:jT w):fL at_ n (pre++[x])=fL at_ n pre++fB at_ n x.1:=by simp[fL]
theorem cm{g:Nat}(h:W.ownsRow n₀ 5 1 (.slice (zp g) k c) k (aB xs))(hx:∀x∈xs,x<256):ai W (zp g) xs/\k<=c/\k=xs.length:=by
 have hl:k=xs.length:=by have:=h.1;simpa[aB]using this.symm
 rcases h.2 with⟨h,_⟩|⟨g',cap,cur,hv,_,hg,hk,_,jr,ht⟩
 ·cases h
 ·cases hv
  refine⟨⟨hx,.inr ⟨g,0,rfl, λ j x hj=>?_⟩⟩,hk,hl⟩
  have h1:(aB xs)[j]? =some (.int .u8 (x:Int)):=by simp[aB,hj]
  rw[<-ht,List.getElem?_take]at h1
  split at h1
  ·simp only[World.cell?,hg,Nat.zero_add]
   simpa using h1
  ·cases h1
theorem tY{g:Nat}{e:TypeId}{sz j:Nat}{xs:List Value}(h:W.ownsRow n₀ e sz (.slice (zp g) k c) j xs):n₀<=g:=by
 rcases h.2 with⟨h,_⟩|⟨g2,cap,cur,h,hb,_⟩
 ·cases h
 ·cases h;exact hb
def cx(m:Nat)(a:Option Addr):Prop:=∀p,a=some p->m<=p.block
theorem cx.mono{m':Nat}(h:cx m a)(hm:m'<=m):cx m' a:= λ p e=>Nat.le_trans hm (h p e)
theorem cx.of{o:Nat}(h:m<=B):cx m (some ⟨B,o,none⟩):= λ p e=>by cases e;exact h
theorem Gs(h:mC w b ps):∀x∈al ps,x<256:= λ x hx=>by
 obtain⟨p,hp,hx⟩:=List.mem_flatMap.1 hx
 exact(h.2 p hp).2.2.1 x hx
theorem si{rs:List (jT w)}(tS:rs.map Subtype.val=dJ::bM 0 ps):fL at_ n rs=((al ps).drop at_).take n:=by
 have h0:fB at_ n dJ=[]:=by simp[fB,dJ]
 unfold fL
 rw[tS,List.flatMap_cons,h0,List.nil_append,Tp,Nat.sub_zero,Nat.sub_zero,List.drop_take]
 congr 1;omega
theorem AD{rs:List (jT w)}(tS:rs.map Subtype.val=dJ::bM 0 ps)(hn:1<=n){pre:List (jT w)}{x:jT w}(hp:pre++[x]<+:rs)(hx:at_+n<=x.1.at_):fL at_ n pre=((al ps).drop at_).take n:=by
 obtain⟨rest,hr⟩:=hp
 rw[<-si tS]
 rw[<-hr]at tS
 have h0:fB at_ n dJ=[]:=by simp[fB,dJ]
 cases pre with
 |nil=>
  simp at tS
  rw[tS.1]at hx
  simp[dJ]at hx
  omega
 |cons y pre=>
  simp only[List.cons_append,List.map_cons,List.cons.injEq]at tS
  have:=Gl at_ n ps 0 (pre.map Subtype.val) (rest.map Subtype.val) x.1 (by rw[<-tS.2];simp) hx
  rw[<-hr]
  unfold fL
  have e:((y::pre++[x]++rest).map Subtype.val)=y.1::bM 0 ps:=by rw[<-tS.2];simp
  rw[e,List.flatMap_cons,List.map_cons,List.flatMap_cons,this]
theorem IY{w:World}(at_ n:Nat):∀(pre:List (jT w)),(fL at_ n pre).length<=pre.length*524288
 |[]=>by simp[fL]
 |x::pre=>by
  have h1:=IY at_ n pre
  have h2:fL at_ n (x::pre)=fB at_ n x.1++fL at_ n pre:=by simp[fL]
  have h3:(fB at_ n x.1).length<=x.1.bs.length:=by unfold fB;rw[List.length_drop,List.length_take];omega
  have h4:=x.2.2.2.2.1
  rw[h2,List.length_append,List.length_cons]
  omega
theorem BV(at_ n:Nat)(x:P9)(_:x.at_<at_+n):(fB at_ n x).length=min (at_+n - x.at_) x.bs.length - (at_ - x.at_):=by
 unfold fB;rw[List.length_drop,List.length_take]
theorem Du(h:au w b c ps)(at_ n:Nat)(dD:1<=n)(hn:at_+n<=(al ps).length):
 Calls Tryz.prog 171 #[aE b ps.length c,.int .i64 (at_:Int),.int .i64 (n:Int)] w λ e w'=>∃a k,e= .returned (.tuple (BH a n k))/\n<=k/\ai w' a (((al ps).drop at_).take n)/\cx w a/\Below w w w':=by
 have h1:= λ (w2:World) (hb:Below w w w2)=>gg (h.below hb)
 have h2:= λ (w2:World) (hb:Below w w w2)=>tV (h.below hb)
 have H1:=af h1
 have H2:=af h2
 have fG:=h.small
 have HF:=af h
 unfold aE at*
 clear h1 h2 h
 obtain⟨N,hN⟩:∃N:Nat,N=(al ps).length:=⟨_,rfl⟩
 rw[<-hN]at H2 fG hn
 have HN:=af hN
 clear hN
 have ot:(at_:Int)+(n:Int)<=N:=ag
 have ac3:(n:Int)<=N - at_:=ag
 have XG:IntKind.i64.wrap ((N:Int) - (at_:Int))=(N:Int) - (at_:Int):=by rw[IntKind.wrap_i64];omega
 have rX:Fence.wide.round=none:=rfl
 refine(callsIn_wide (n:=5)).1 ?_
 refine callsIn_of_wp_marks Tryz.func171 rfl trivial ?_ rX
 simp only[Tryz.ntmps171,zEn,Nat.reduceAdd,Nat.reduceSub]
 refine wpIn_wide.2 ?_
 have H0:Hid (Below w w (((w.alloc (.cells (cK b ps.length c) 37)).alloc (.cells (Au at_) 3)).alloc (.cells (Au n) 3))):=af (by go_grown)
 go_wp2
 go_step3
 go_wp2_with first
  |(with_reducible refine(H1.O _ H0.O).mono ?_;rintro e w2 ⟨rfl,aC⟩;have H3:=af (H0.O.T (aC.mono H0.O.size));obtain⟨p1,p2,p3⟩:=YU aC;have c0:=p1 0 _ rfl;have c1:=p1 1 _ rfl;have c2:=p1 2 _ rfl;have c3:=p1 3 _ rfl;have c4:=p1 4 _ rfl;have d0:=p2 0 _ rfl;have e0:=p3 0 _ rfl;clear aC p1 p2 p3)
  |fail
 go_region_held3 (λ w'=>(w'.cell? (za w 0)=some (.slice none 0 0)/\w'.cell? (za w 1)=some (.slice b ps.length c)/\w'.cell? (za w 2)=some (.int .i64 (-1))/\w'.cell? (za w 3)=some (.int .i64 (-1))/\w'.cell? (za w 4)=some (.bool false)/\w'.cell? (za (w.heap.size+1) 0)=some (.int .i64 (at_:Int))/\w'.cell? (za (w.heap.size+1+1) 0)=some (.int .i64 (n:Int)))/\Below w w w')
  (first
    |exact⟨⟨c0,c1,c2,c3,c4,d0,e0⟩,H3.O.drew⟩
    |exact⟨⟨carry bH c0,carry bH c1,carry bH c2,carry bH c3,carry bH c4,carry bH d0,carry bH e0⟩,H3.O.drew.T (bH.mono H3.O.size)⟩)
  (first|(with_reducible refine(H2.O _ H3.O.drew).mono ?_;rintro e w4 ⟨rfl,bH⟩))
 rename_i hS
 obtain⟨⟨q0,q1,q2,q3,q4,r0,s0⟩,hB4⟩:=hS
 have H4:=af hB4
 clear hB4 bH c0 c1 c2 c3 c4 d0 e0 H3
 obtain⟨M,hMs,IV⟩:=Tryz.U7 n ag
 have abG:=IV w4
 have HMs:=af hMs
 clear IV hMs
 go_wp2
 go_step3
 obtain⟨w5,eT⟩:=aK ((w4.alloc (.cells M 5)).alloc (.cells (jE (zp w4) 0 n) 34))
 rw[<-eT]
 have B5:Below w4 w4 w5:=by rw[eT];exact((Below.refl _ w4).alloc (aW) _).alloc aR _
 have s5:w5.heap.size=w4.heap.size+1+1:=by rw[eT];simp
 have bx:Boxed w5 (w4.heap.size+1) 34 (.slice (zp w4) 0 n):=by
  have:=Boxed.new (w4.alloc (.cells M 5)) 34 (.slice (zp w4) 0 n)
  rw[World.size_alloc]at this
  rw[eT];exact this
 have row:w5.ownsRow w4 5 1 (.slice (zp w4) 0 n) 0 []:=by
  have:=World.ownsRow_made w4 (base:=w4.heap.size) (e:=5) (size:=1) M n (aW) (by simp[maxLen];omega) (by rw[HMs.O];simp)
  rw[eT];exact this.alloc _
 have H45:=af B5
 have Bx:=af bx
 have Row:=af row
 have H5:=af (H4.O.T (B5.mono H4.O.size))
 have lr:w.heap.size+1<w4.heap.size:=World.block_lt_of_cell? w4 _ r0
 have ls:w.heap.size+1+1<w4.heap.size:=World.block_lt_of_cell? w4 _ s0
 replace q0:=carry B5 q0
 replace q1:=carry B5 q1
 replace q2:=carry B5 q2
 replace q3:=carry B5 q3
 replace q4:=carry B5 q4
 replace r0:=carry B5 r0
 replace s0:=carry B5 s0
 clear eT bx row abG B5
 go_wp2_with first
  |(refine(MR b ps.length c _).mono ?_;rintro e w6 ⟨rfl,rfl⟩)
  |fail
 have F4:au w4 b c ps:=HF.O.below H4.O
 obtain⟨rs,tS⟩:=J9 F4
 have Y3:Below w5 w5 (w5.alloc (.cells (cK b ps.length c) 37)):=(Below.refl _ w5).alloc (aW) _
 have hF6:=(HF.O.below H5.O).below Y3
 have m0:(w5.alloc (.cells (cK b ps.length c) 37)).cell? (za (w4.heap.size+1+1) 0)=some (.slice none 0 0):=by rw[<-s5,World.cell?_alloc_new];rfl
 have m1:(w5.alloc (.cells (cK b ps.length c) 37)).cell? (za (w4.heap.size+1+1) 1)=some (.slice b ps.length c):=by rw[<-s5,World.cell?_alloc_new];rfl
 have zo:ps≠[]->∀B o,b=some ⟨B,o,none⟩->B<w4.heap.size:= λ bS B o hb=>by
  rcases F4.pieces.1 with h|⟨B',o',Dv,hc⟩
  ·exact absurd h bS
  ·rw[hb]at Dv
   obtain⟨rfl,rfl⟩:B=B'/\o=o':=by simpa using Dv
   obtain⟨p,hp⟩:∃p,ps[0]? =some p:=by cases ps with
    |nil=>exact absurd rfl bS
    |cons p l=>exact⟨p,rfl⟩
   exact World.block_lt_of_cell? w4 _ (hc 0 p hp)
 refine(wpIn_wide (n:=5)).1 ?_
 refine U1 (n:=5) 10 11 rX ag (gf:=213) (lb:=(dW (zp (w4.heap.size+1+1)))) rfl trivial (enters_of Tryz.func213 aO rfl)
  (Gn Fence.wide (5 - 1) trivial rX ag w4 _ (w4.heap.size+1+1) w4.heap.size b c ps rs tS (by simp[s5]) (by simp[s5];omega) m0 m1 hF6 zo) iK.T (iK.putObj (by simp[s5];omega) (by rintro k rfl;simp[s5])) (dp)
  (λ pre W=>(∃v,Boxed W (w4.heap.size+1) 34 v/\W.ownsRow w4 5 1 v (fL at_ n pre).length (aB (fL at_ n pre))/\∃g k,v= .slice (zp g) (fL at_ n pre).length k)/\W.heap[w4.heap.size+1+1]? =some (.cells (cK b ps.length c) 37)/\Below w4 w5 W)
  (λ cd xs W=>((∃pre x,xs=pre++[x]/\cd= .exit 1/\at_+n<=x.1.at_/\∃v,Boxed W (w4.heap.size+1) 34 v/\W.ownsRow w4 5 1 v (fL at_ n pre).length (aB (fL at_ n pre))/\∃g k,v= .slice (zp g) (fL at_ n pre).length k)/\W.heap[w4.heap.size+1+1]? =some (.cells (cK b ps.length c) 37)/\Below w4 w5 W))
  ?hI ?hIx ?h0 ?assign ?body ?done ?stop
 case hI=>exact OwnFrom.and (Own.from (holdsRow_own w4.heap.size (w4.heap.size+1) 34 5 1 (λ pre:List (jT w4)=>(fL at_ n pre).length) (λ pre=>aB (fL at_ n pre)) (λ pre v=>∃g k,v= .slice (zp g) (fL at_ n pre).length k)) _) (OwnFrom.and (Own.from (Dq _ _ rfl) _) (ownFrom_below (by simp[s5];omega) (by simp[s5];omega)))
 case hIx=>
  intro cd
  refine OwnFrom.and (Own.from (λ s A B row hs hg hr=>?_) _) (OwnFrom.and (Own.from (Dq _ _ rfl) _) (ownFrom_below (by simp[s5];omega) (by simp[s5];omega)))
  obtain⟨pre,x,h1,h2,h3,h4⟩:=hs
  exact⟨pre,x,h1,h2,h3,holdsRow_own w4.heap.size (w4.heap.size+1) 34 5 1 (λ pre:List (jT w4)=>(fL at_ n pre).length) (λ pre=>aB (fL at_ n pre)) (λ pre v=>∃g k,v= .slice (zp g) (fL at_ n pre).length k) pre A B row h4 hg hr⟩
 case h0=>exact⟨⟨_,Bx.O.alloc _,Row.O.alloc _,_,_,rfl⟩,by rw[<-s5];exact World.alloc_heap_new w5 _,Y3.mono (by simp[s5];omega)⟩
 case assign=>
  intro l x W K hK
  gi_wp2
  exact hK
 case body=>
  rintro l pre x W ⟨⟨_,hv,ax,g,k,rfl⟩,hH,hB⟩ bg
  obtain⟨hxb,hxc,hxa,hxl,XH⟩:=x.2
  have r1:W.cell? (za (w.heap.size+1) 0)=some (.int .i64 (at_:Int)):=(hB.cell (p:=(za (w.heap.size+1) 0)) lr).T r0
  have s1:W.cell? (za (w.heap.size+1+1) 0)=some (.int .i64 (n:Int)):=(hB.cell (p:=(za (w.heap.size+1+1) 0)) ls).T s0
  have hc:=hv.cell
  have hf:=hv.frozen
  by_cases bB:at_+n<=x.1.at_
  ·have tZ:(at_:Int)+(n:Int)<=(x.1.at_:Int):=ag
   gi_wp2
   exact⟨KeepsFrom.refl _ _,⟨pre,x,rfl,rfl,bB,_,hv,ax,g,k,rfl⟩,hH,hB⟩
  ·have tZ:(x.1.at_:Int)<(at_:Int)+(n:Int):=ag
   have AE:(x.1.at_:Int)+(x.1.bs.length:Int)<=1048576:=ag
   by_cases ek:at_<x.1.at_+x.1.bs.length
   ·have XI:(at_:Int)<(x.1.at_:Int)+(x.1.bs.length:Int):=ag
    obtain⟨i0,hi,gQ,fq,mx⟩:=info_parts Tryz.nu
    obtain⟨B,o,ac4,abH⟩:∃B o,x.1.a=some ⟨B,o,none⟩/\∀(j:Nat) (y:Nat),x.1.bs[j]? =some y->W.cell? (za B (o+j))=some (.int .u8 (y:Int)):=by
     rcases hxb.2 with h|⟨B,o,h1,h2⟩
     ·have:=XH h
      rw[h]at ek
      simp at ek
      omega
     ·exact⟨B,o,h1, λ j y hy=>by
       have bg:=World.block_lt_of_cell? w4 _ (h2 j y hy)
       exact(hB.cell (p:=(za B (o+j))) bg).T ((H45.O.cell (p:=(za B (o+j))) bg).T (h2 j y hy))⟩
    obtain⟨lo,zS⟩:=aK (at_ - x.1.at_)
    obtain⟨Qb,Ra⟩:∃Qb,Qb=min (at_+n - x.1.at_) x.1.bs.length:=⟨_,rfl⟩
    have Mh:=BV at_ n x.1 ag
    rw[<-zS,<-Ra]at Mh
    have sj:1<=x.1.bs.length:=by
     rcases Nat.eq_zero_or_pos x.1.bs.length with h|h
     ·have:=XH (List.eq_nil_of_length_eq_zero h)
      omega
     ·exact h
    have hlh:lo+1<=Qb:=ag
    have hhc:Qb<=x.1.cap:=ag
    have hol:=IY at_ n pre
    have wH:pre.length<=524289:=by
     have h1:rs.length=ps.length+1:=by
      have:=congrArg List.length tS
      simpa[om]using this
     have:=F4.C3
     omega
    obtain⟨v',w1,bt,cY,eB, -, -⟩:=run_append_own_at (P:=Tryz.prog) W.drew w4.heap.size 34 34 5 i0 (.int .u8 0) 1 1 aO hi gQ fq mx rfl bd _ _ (aB (fL at_ n pre)) ax
     ⟨B,o+lo,none⟩ (Qb - lo) (x.1.cap - lo) (aB (fB at_ n x.1)) (by simp[aB,Mh])
     (λ j u hj=>by
       obtain⟨y,hy,rfl⟩:∃y,(fB at_ n x.1)[j]? =some y/\Value.int .u8 (y:Int)=u:=by simpa[aB]using hj
       have Gm:x.1.bs[lo+j]? =some y:=by
        unfold fB at hy
        rw[<-zS]at hy
        rw[List.getElem?_drop,List.getElem?_take]at hy
        split at hy
        ·exact hy
        ·cases hy
       have:=abH _ y Gm
       show W.cell? _=_
       rw[<-this]
       cases j with
       |zero=>rfl
       |succ j=>simp[Addr.add,Nat.add_assoc])
     (λ u hu=>by obtain⟨y,_,rfl⟩:=List.mem_map.1 hu;rfl)
     (by simp[maxLen];omega) ag (Nat.le_trans (by rw[s5];omega) hB.size)
    obtain⟨q,hq⟩:∃q,(fL at_ n pre).length+(Qb - lo)=q+1:=⟨(fL at_ n pre).length+(Qb - lo) - 1,ag⟩
    rw[hq]at cY
    obtain⟨g',k',rfl⟩:=ownsRow_succ cY
    obtain⟨k1,k2,k3,k4,k5⟩:=xh (W:=W.drew) hv bd ax (Nat.le_trans ag hB.size) ag cY eB
    have F5:=k1.cell
    have XJ:=k1.frozen
    have r2:w1.cell? (za (w.heap.size+1) 0)=some (.int .i64 (at_:Int)):=(k5.cell (p:=(za (w.heap.size+1) 0)) lr).T r1
    have s2:w1.cell? (za (w.heap.size+1+1) 0)=some (.int .i64 (n:Int)):=(k5.cell (p:=(za (w.heap.size+1+1) 0)) ls).T s1
    have k6:=k5.setCell (p:=(za (w4.heap.size+1) 0)) (Nat.le_succ _) (.slice (zp g') (q+1) k')
    have r3:=(k6.cell (p:=(za (w.heap.size+1) 0)) lr).T r1
    have s3:=(k6.cell (p:=(za (w.heap.size+1+1) 0)) ls).T s1
    have aH:IntKind.i64.wrap ((at_:Int) - (x.1.at_:Int))=(at_:Int) - (x.1.at_:Int):=by rw[IntKind.wrap_i64];omega
    have da:IntKind.i64.wrap ((at_:Int)+(n:Int) - (x.1.at_:Int))=(at_:Int)+(n:Int) - (x.1.at_:Int):=by rw[IntKind.wrap_i64];omega
    have Hlo:=af zS
    have Hhi:=af Ra
    have Hq:=af hq
    have Hcn:=af Mh
    have Hhc:=af hhc
    have ng:¬ x.1.cap=lo:=ag
    have abI:lo<=Qb:=ag
    have abI:lo<=Qb:=ag
    have BW:max ((at_:Int) - (x.1.at_:Int)) 0=(lo:Int):=ag
    have Y0:min ((at_:Int)+(n:Int) - (x.1.at_:Int)) (x.1.bs.length:Int)=(Qb:Int):=ag
    have cL:IntKind.i64.wrap ((at_:Int)+(n:Int))=(at_:Int)+(n:Int):=by rw[IntKind.wrap_i64];omega
    have hlen:(fL at_ n (pre++[x])).length=q+1:=by rw[tX,List.length_append,Mh,hq]
    have K2:iK w4.heap.size (·=w4.heap.size+1+1) W (w1.setCell (za (w4.heap.size+1) 0) (.slice (zp g') (q+1) k')):=by
     refine⟨((Below.refl _ W).drew).T k6,?_⟩
     rintro j rfl
     rw[Below.heap_setCell _ _ _ _ aR]
     exact eB.block _ (aX hH).1 (ns hH bd ax)
    have F3:∃v,Boxed (w1.setCell (za (w4.heap.size+1) 0) (.slice (zp g') (q+1) k')) (w4.heap.size+1) 34 v/\(w1.setCell (za (w4.heap.size+1) 0) (.slice (zp g') (q+1) k')).ownsRow w4 5 1 v (fL at_ n (pre++[x])).length (aB (fL at_ n (pre++[x])))/\∃g k,v= .slice (zp g) (fL at_ n (pre++[x])).length k:=
     ⟨_,k2,by rw[hlen,tX,show aB (fL at_ n pre++fB at_ n x.1)=aB (fL at_ n pre)++aB (fB at_ n x.1)from List.map_append];exact k3,g',k',by rw[hlen]⟩
    have fin:=BM (((KeepsOthers.drew W).T k4).from (w5.alloc (.cells (cK b ps.length c) 37)).heap.size) K2 F3 ((K2.same _ rfl).T hH) (hB.T K2.below)
    clear zS Ra hq Mh XH hxl hxa hxc hlh hol wH hlen K2 k2 k3 k4 F3
    gi_wp2
    refine Dt 17 aO aO (by rintro⟨a',w',h⟩;exact h) rfl ?_
    refine tP [0,1,2,3,4,5,6,7,8,9,10,11,12,13,14] ?_
    iterate 15 refine tO ?_
    refine ah 2 rfl ?_
    refine sP 15 [0,1,2,3,4,5,6,7,8,9,10,11,12,13,14] λ K hK=>?_
    go_simp
    refine nP hK ?_
    clear hK K
    refine sP 16 [0,1,2,3,4,5,6,7,8,9,10,11,12,13,14,15] λ K hK=>?_
    go_simp
    refine nP hK ?_
    clear hK K
    refine dP ?_
    go_simp
    gi_wp2
    all_goals exact fin.O
   ·have XI:(x.1.at_:Int)+(x.1.bs.length:Int)<=(at_:Int):=ag
    gi_wp2
    have ng:fB at_ n x.1=[]:=Gk ag
    have hfm:fL at_ n (pre++[x])=fL at_ n pre:=by rw[tX,ng,List.append_nil]
    exact⟨KeepsFrom.refl _ _,iK.refl _ _ _,⟨_,hv,by rw[hfm];exact ax,g,k,by rw[hfm]⟩,hH,hB⟩
 case done=>
  rintro D ys W hD rfl ⟨⟨_,hv,ax,g,k,rfl⟩,hH,hB⟩ hK
  have hc:=hv.cell
  obtain⟨my,zt,Qc⟩:=cm ax (λ y hy=>by rw[si tS]at hy;exact Gs F4.pieces y (List.mem_of_mem_drop (List.mem_of_mem_take hy)))
  have gu:=cm (ownsRow_putObj ax (.deferred none) hK rfl) (λ y hy=>by rw[si tS]at hy;exact Gs F4.pieces y (List.mem_of_mem_drop (List.mem_of_mem_take hy)))
  rw[si tS]at gu hc
  have hlen:(((al ps).drop at_).take n).length=n:=by rw[List.length_take,List.length_drop,<-HN.O];omega
  rw[hlen]at gu hc
  have Y4:Below w w (W.putObj D (.deferred none)):=(H5.O.T (hB.mono (aM H4.O.size))).T ((belowK_b (w:=w5) (n₀:=w.heap.size) (aM H5.O.size) W D _ _ (by simp[s5]at hD⊢;omega) hK rfl rfl))
  have iX:=jo gu.2.1 gu.1 (cx.of (o:=0) (Nat.le_trans H4.O.size (tY ax))) Y4
  clear my zt Qc gu hlen ax hv hH hB Y4
  go_wp2
  refine⟨by simp,.inl ⟨_,_,rfl,run_takeDeferred hK,?_⟩⟩
  exact⟨_,results_tmp2 rfl _ _ _,_,_,rfl,iX.O⟩
 case stop=>
  rintro D cd xs W hD hp ⟨⟨pre,x,rfl,rfl,hx,_,hv,ax,g,k,rfl⟩,hH,hB⟩ hK
  have hc:=hv.cell
  have gu:=cm (ownsRow_putObj ax (.deferred none) hK rfl) (λ y hy=>by rw[AD tS dD hp hx]at hy;exact Gs F4.pieces y (List.mem_of_mem_drop (List.mem_of_mem_take hy)))
  rw[AD tS dD hp hx]at gu hc
  have hlen:(((al ps).drop at_).take n).length=n:=by rw[List.length_take,List.length_drop,<-HN.O];omega
  rw[hlen]at gu hc
  have Y4:Below w w (W.putObj D (.deferred none)):=(H5.O.T (hB.mono (aM H4.O.size))).T ((belowK_b (w:=w5) (n₀:=w.heap.size) (aM H5.O.size) W D _ _ (by simp[s5]at hD⊢;omega) hK rfl rfl))
  have iX:=jo gu.2.1 gu.1 (cx.of (o:=0) (Nat.le_trans H4.O.size (tY ax))) Y4
  clear gu hlen ax hv hH hB Y4 hx
  refine wpIn_wide.2 ?_
  go_wp2
  refine⟨by simp,.inl ⟨_,_,rfl,run_takeDeferred hK,?_⟩⟩
  exact⟨_,results_tmp2 rfl _ _ _,_,_,rfl,iX.O⟩
theorem jv(x:Nat)(X:Int)(hX:X=(x:Int))(ax:W.ownsRow n₀ 5 1 (.slice a k c) k (aB xs))(hk:k<1048576)(hn:n₀<=W.heap.size):
 ∃g' c' w',(Builtin.append_ #[34,34] 34 (jF a k c (zp W) 1 1)).run Tryz.prog (W.alloc (.cells #[.int .u8 X] 5))= .ok (.slice (zp g') (k+1) c') w'/\
  w'.ownsRow n₀ 5 1 (.slice (zp g') (k+1) c') (k+1) (aB (xs++[x]))/\Below n₀ W w'/\n₀<=g'/\(∀(B:Nat) (cs:Array Value) (t:TypeId) (fz:Nat×Nat),W.heap[B]? =some (Obj.cells cs t fz)->t≠5->w'.heap[B]? =some (Obj.cells cs t fz)):=by
 subst hX
 obtain⟨i0,hi,gQ,fq,mx⟩:=info_parts Tryz.nu
 obtain⟨v',w1,bt,cY,eB, -, -⟩:=run_append_own_at (P:=Tryz.prog) (W.alloc (.cells (J3 x) 5)) n₀ 34 34 5 i0 (.int .u8 0) 1 1 aO hi gQ fq mx rfl bd _ _ (aB xs) (ax.alloc _)
  ⟨W.heap.size,0,none⟩ 1 1 [.int .u8 (x:Int)] rfl (cell_one_new _ _ _) (by simp[Value.oneCell']) (by simp[maxLen];omega) ag bV
 obtain⟨g',k',rfl⟩:=ownsRow_succ cY
 refine⟨g',k',w1,bt,by simpa[aB]using cY,?_,?_,?_⟩
 ·refine((Below.refl n₀ W).alloc hn _).grown eB bV λ j ej=>?_
  rcases ax.2 with⟨h,_⟩|⟨g,cap,cur,h,hb,_⟩
  ·cases h
   simp[Value.ownBlock]at ej
  ·cases h
   obtain rfl:g=j:=by simpa[Value.ownBlock]using ej
   exact hb
 ·rcases cY.2 with⟨h,_⟩|⟨g2,cap,cur,h,hb,_⟩
  ·cases h
  ·cases h;exact hb
 ·intro B cs t fz hB ht
  have h1:(W.alloc (.cells (J3 x) 5)).heap[B]? =some (Obj.cells cs t fz):=(Below.heap_alloc W _ B (aX hB).1).T hB
  exact(eB.block B (aX h1).1 (ns h1 ht (ax.alloc _))).T h1
end
theorem M1(k:Nat)(h1:1<=k)(h2:k<=4096)(w:World):Calls Tryz.prog 107 (Au k) w λ e w'=>e= .returned (.bool true)/\w'=w:=by
 have e1:(1:Int)<=(k:Int):=ag
 have e2:(k:Int)<=4096:=ag
 go_enter Tryz.func107,Tryz.ntmps107
 go_wp2
 go_ret
 exact⟨rfl,rfl⟩
def Marks(all:List Nat):Prop:=∀i,i%64=0->∀x,all[i]? =some x->x=0
theorem Kd(h:au w b c ps)(hm:Marks (al ps)):
 Calls Tryz.prog 134 #[aE b ps.length c,.int .i64 ((al ps).length:Nat)] w λ e w'=>e= .returned (.bool false)/\Below w w w':=by
 have fG:=h.small
 obtain⟨N,hN⟩:∃N:Nat,N=(al ps).length:=⟨_,rfl⟩
 rw[<-hN]at fG⊢
 have nh:(N:Int).tmod 64=((N%64:Nat):Int):=by rw[Int.tmod_eq_emod_of_nonneg ag];omega
 by_cases h0:N%64=0
 ·unfold aE
  have h0':(N:Int).tmod 64=0:=by rw[nh];omega
  have HB:Hid (Below w w (w.alloc (.cells (cK b ps.length c) 37))):=af (by go_grown)
  clear hN h hm nh
  go_enter Tryz.func134,Tryz.ntmps134
  go_wp2
  go_ret
  exact⟨rfl,HB.O⟩
 ·obtain⟨r,hr⟩:=aK (N%64)
  obtain⟨q,hq⟩:=aK (N - r)
  rw[<-hr]at nh h0
  have j7:(N:Int) - (r:Int)=(q:Int):=ag
  have Tq:¬ (r:Int)=0:=ag
  have hx:((al ps).drop q).take 1=[0]:=by
   have h1:q<(al ps).length:=ag
   have h2:=hm q ag _ (List.getElem?_eq_getElem h1)
   rw[List.drop_eq_getElem_cons h1,h2];rfl
  have hR:∀w2:World,Below w w w2->Calls Tryz.prog 171 #[.agg (cK b ps.length c),.int .i64 (q:Int),.int .i64 1] w2 λ e w'=>(∃B o k,e= .returned (.tuple (BH (some ⟨B,o,none⟩) 1 k))/\w'.cell? ⟨B,o,none⟩=some (.int .u8 0))/\Below w2 w2 w':= λ w2 hb=>by
   have:=Du (h.below hb) q 1 (aW) ag
   rw[hx]at this
   refine this.mono ?_
   rintro e w' ⟨a,k,rfl,hk,my, -,hB⟩
   rcases my.2 with h|⟨B,o,rfl,hc⟩
   ·cases h
   ·exact⟨⟨B,o,k,rfl,hc 0 0 rfl⟩,hB⟩
  have HR:=af hR
  unfold aE
  have HB:Hid (Below w w (w.alloc (.cells (cK b ps.length c) 37))):=af (by go_grown)
  clear hN h hm hq hR hx h0 hr
  go_enter Tryz.func134,Tryz.ntmps134
  go_wp2_with first
   |(with_reducible refine(HR.O _ HB.O).mono ?_;rintro e w2 ⟨⟨B,o,k,rfl,hc⟩,aC⟩)
   |fail
  go_ret
  exact⟨rfl,HB.O.T (aC.mono HB.O.size)⟩
def xm(n:Nat):Nat:=Nat.xor (Nat.div n 2) (Nat.mul (Nat.mod n 2) 2197175160)
def Ke:Nat->Nat->Nat
 |0,m=>m
 |k+1,m=>xm (Ke k m)
theorem M3(n:Nat)(h:n<4294967296):xm n<4294967296:=by
 have h1:Nat.div n 2<2^32:=by show n/2<_;omega
 have h2:Nat.mul (Nat.mod n 2) 2197175160<2^32:=by show n%2*2197175160<_;omega
 exact Nat.xor_lt_two_pow h1 h2
theorem Gt(n:Nat)(h:n<4294967296):∀k,Ke k n<4294967296
 |0=>h
 |k+1=>M3 _ (Gt n h k)
theorem Kf(m:Nat)(h:m%2=0):xm m=m/2:=by
 have:xm m=(m/2)^^^(m%2*2197175160):=rfl
 rw[this,h];simp
theorem M4(m:Nat)(h:m%2=1):xm m=(m/2)^^^2197175160:=by
 have:xm m=(m/2)^^^(m%2*2197175160):=rfl
 rw[this,h]
theorem zT{a:Addr}(h:w.cell? a=some u)(v:Value):(w.setCell a v).cell? a=some v:=World.cell?_setCell_same _ _ _ h
theorem Kg(b o:Nat)(n c:Nat)(w:World)(hc:w.cell? ⟨b,o,none⟩=some (.int .u32 (n:Int)))(hf:w.frozen? ⟨b,o,none⟩=false)(hn:n<4294967296)(F5:c<256):
 Calls Tryz.prog 49 #[.pointer (some ⟨b,o,none⟩),.int .u8 (c:Int)] w λ e w'=>e= .returned (.tuple #[])/\w'=w.setCell ⟨b,o,none⟩ (.int .u32 (Ke 8 (n^^^c):Nat)):=by
 have hx:bits .xor .u32 (n:Int) (c:Int)=((n^^^c:Nat):Int):=u32_xor_nat n c hn ag
 have tJ:n^^^c<4294967296:=Nat.xor_lt_two_pow (n:=32) hn ag
 generalize hgm:n^^^c=m0 at hx tJ⊢
 clear hgm
 go_enter Tryz.func49,Tryz.ntmps49
 go_wp2
 go_loopw [16] (λ i wr=>∃k:Nat,k<=8/\i= .int .i64 (k:Int)/\wr=w.setCell ⟨b,o,none⟩ (.int .u32 (Ke k m0:Nat))) (λ i _=>8 - (intOf i).toNat)
 case atStart=>exact⟨0,ag,rfl,rfl⟩
 case round=>
  obtain⟨k,hk,rfl,hw⟩:=hrel
  have Qd:wr.cell? ⟨b,o,none⟩=some (.int .u32 (Ke k m0:Nat)):=by rw[hw];exact zT hc _
  have kK:wr.frozen? ⟨b,o,none⟩=false:=by rw[hw];simpa using hf
  have Hw:=af hw
  clear hw
  have hm:=Gt m0 tJ k
  have hs:Ke (k+1) m0=xm (Ke k m0):=rfl
  have he:k=8->Ke 8 m0=Ke k m0:= λ h=>by rw[h]
  have He:=af he
  clear he
  generalize Ke k m0=m at Qd hm hs Hw He
  have Hs:=af hs
  clear hs hc hf hx
  by_cases Tv:k<8
  ·rcases Nat.mod_two_eq_zero_or_one m with hp|hp
   ·have hand:bits .and .u32 (m:Int) 1=0:=by
     have:=u32_and_nat m 1 hm bd
     rw[Nat.and_one_is_mod,hp]at this
     exact this
    have Hp:=af (Kf m hp)
    clear hp
    go_wp2
    refine⟨⟨k+1,ag,by go_num,?_⟩,by simp[intOf];omega⟩
    rw[Hs.O,Hp.O,Hw.O,setCell_setCell]
    rfl
   ·have hand:bits .and .u32 (m:Int) 1=1:=by
     have:=u32_and_nat m 1 hm bd
     rw[Nat.and_one_is_mod,hp]at this
     exact this
    have hxo:bits .xor .u32 ((m:Int)/2) 2197175160=((m/2^^^2197175160:Nat):Int):=u32_xor_nat (m/2) 2197175160 ag bd
    have Hp:=af (M4 m hp)
    clear hp
    go_wp2
    refine⟨⟨k+1,ag,by go_num,?_⟩,by simp[intOf];omega⟩
    rw[Hs.O,Hp.O,Hw.O,setCell_setCell,setCell_setCell]
  ·have h8:k=8:=ag
   have H8:=af h8
   clear h8
   go_wp2
   go_end0
   refine⟨rfl,?_⟩
   rw[Hw.O,He.O H8.O]
def dE(n:Nat):Nat:=4294967295^^^n
def jM(a:Nat)(xs:List Nat):Nat:=xs.foldl (λ a x=>Ke 8 (a^^^x)) a
theorem ff(n:Nat)(h:n<4294967296):dE n<4294967296:=Nat.xor_lt_two_pow (n:=32) bd h
theorem lI:∀(xs:List Nat) (a:Nat),a<4294967296->(∀x∈xs,x<256)->jM a xs<4294967296
 |[],a,h,_=>h
 |x::xs,a,h,hx=>lI xs _ (Gt _ (Nat.xor_lt_two_pow (n:=32) h (aM (hx x aR))) 8) (λ y hy=>hx y (by simp[hy]))
theorem Kh(a:Nat)(xs:List Nat)(x:Nat):jM a (xs++[x])=Ke 8 (jM a xs^^^x):=by simp[jM]
theorem xn(s:Nat)(xs:List Nat)(B o c:Nat)(w:World)(hs:s<4294967296)(hx:∀x∈xs,x<256)(hl:xs.length<1000000)
 (xo:∀(j:Nat) (x:Nat),xs[j]? =some x->w.cell? (za B (o+j))=some (.int .u8 (x:Int))):
 Calls Tryz.prog 33 #[.int .u32 (s:Int),.slice (some ⟨B,o,none⟩) xs.length c] w λ e w'=>e= .returned (.int .u32 (dE (jM (dE s) xs):Nat))/\Below w w w':=by
 have Kb:bits .xor .u32 4294967295 (s:Int)=((dE s:Nat):Int):=u32_xor_nat 4294967295 s bd hs
 have hsg:IntKind.u32.signed=false:=rfl
 have BW:IntKind.u32.max=4294967295:=rfl
 have Hc:=af xo
 have Hx:=af hx
 clear xo hx
 go_enter Tryz.func33,Tryz.ntmps33
 go_wp2
 go_loopw [16] (λ i wr=>∃k:Nat,k<=xs.length/\i= .int .i64 (k:Int)/\Hid (wr.heap[w.heap.size]? =some (.cells #[.int .u32 (jM (dE s) (xs.take k):Nat)] 132 (0,0)))/\Hid (Below w w wr)) (λ i _=>xs.length - (intOf i).toNat)
 case atStart=>
  refine⟨0,Nat.zero_le _,rfl,?_,?_⟩
  ·exact af (by show(w.heap.push _)[w.heap.size]? =_;rw[Array.getElem?_push_size];rfl)
  ·exact af ((dp).alloc (aW) _)
 case round=>
  obtain⟨k,hk,rfl,bq,ua⟩:=hrel
  by_cases bg:k<xs.length
  ·have h1:=cell_of_one bq.O
   have h2:=free_of_one bq.O
   obtain⟨x,Y5⟩:∃x,xs[k]? =some x:=⟨xs[k],by simp[bg]⟩
   have xp:wr.cell? (za B (o+k))=some (.int .u8 (x:Int)):=by
    have:=Hc.O k x Y5
    have hB:B<w.heap.size:=by
     rcases Nat.lt_or_ge B w.heap.size with h|h
     ·exact h
     ·simp[World.cell?,Array.getElem?_eq_none h]at this
    rw[ua.O.cell (p:=(za B (o+k))) hB];exact this
   have M5:x<256:=Hx.O x (List.mem_of_getElem? Y5)
   have ng:jM (dE s) (xs.take k)<4294967296:=lI _ _ (ff s hs) (λ y hy=>Hx.O y (List.mem_of_mem_take hy))
   have Hn:Hid (jM (dE s) (xs.take (k+1))=Ke 8 (jM (dE s) (xs.take k)^^^x)):=af (by
    rw[List.take_add_one,Y5];exact Kh _ _ _)
   have Hxk:=af Y5
   clear Y5 Kb
   generalize jM (dE s) (xs.take k)=a at h1 ng Hn bq
   go_wp2_with((with_reducible refine(Kg _ _ a x _ h1 h2 ng M5).mono ?_);rintro e w' ⟨rfl,rfl⟩)
   exact⟨⟨k+1,ag,by go_num,af (by rw[Hn.O];exact one_setCell bq.O),af (ua.O.setCell (aW) _)⟩,by simp[intOf];omega⟩
  ·have h1:=cell_of_one bq.O
   have Qc:Hid (xs.take k=xs):=af (List.take_of_length_le ag)
   have ng:jM (dE s) (xs.take k)<4294967296:=lI _ _ (ff s hs) (λ y hy=>Hx.O y (List.mem_of_mem_take hy))
   have fu:bits .xor .u32 4294967295 ((jM (dE s) (xs.take k):Nat):Int)=((dE (jM (dE s) (xs.take k)):Nat):Int):=u32_xor_nat 4294967295 _ bd ng
   have He:Hid (dE (jM (dE s) (xs.take k))=dE (jM (dE s) xs)):=af (by rw[Qc.O])
   clear Kb
   generalize jM (dE s) (xs.take k)=a at h1 ng fu bq He
   go_wp2
   go_ret
   exact⟨congrArg (λ v:Nat=>Ending.returned (.int .u32 (v:Int))) He.O,ua.O⟩
theorem BX(xs:List Nat)(B o c:Nat)(w:World)(hx:∀x∈xs,x<256)(hl:xs.length<1000000)
 (xo:∀(j:Nat) (x:Nat),xs[j]? =some x->w.cell? (za B (o+j))=some (.int .u8 (x:Int))):
 Calls Tryz.prog 20 (jE (some ⟨B,o,none⟩) xs.length c) w λ e w'=>e= .returned (.int .u32 (dE (jM (dE 0) xs):Nat))/\Below w w w':=by
 have hm:Calls Tryz.prog 33 #[.int .u32 0,.slice (some ⟨B,o,none⟩) xs.length c] w λ e w'=>e= .returned (.int .u32 (dE (jM (dE 0) xs):Nat))/\Below w w w':=xn 0 xs B o c w bd hx hl xo
 have Hm:=af hm
 clear hm xo hx
 go_enter Tryz.func20,Tryz.ntmps20
 go_wp2_with((with_reducible refine Hm.O.mono ?_);rintro e w' ⟨rfl,hb⟩)
 go_ret
 exact⟨rfl,hb⟩
section
attribute [-go_sem] Builtin.append_
def wL(n:Nat):List Nat:=[n/256%256,n%256]
def Rb(xs ys:List Nat):Nat:=dE (jM (dE (dE (jM (dE 0) xs))) ys)
def Mi(s:Nat):List Nat:=[s%256,s/256%256,s/65536%256,s/16777216%256]
def eV(p:List Nat):List Nat:=wL p.length++Mi (Rb (wL p.length) p)++p
theorem Gu(l n:Nat)(hl:l<=n)(hn:n<=524288):∃M:Array Value,M.size=n/\(∀j,j<n->M[j]? =some (.int .u8 0))/\∀W:World,(Instr.makeSlice 34 (.int .i64 (l:Int)) (.int .i64 (n:Int))).run Tryz.prog W= .ok (.slice (zp W) l n) (W.alloc (.cells M 5)):=by
 obtain⟨i0,hi,gQ,fq,mx⟩:=info_parts Tryz.nu
 refine⟨madeCells (Value.int .u8 0).cells n,size_madeCells _ _, λ j hj=>?_, λ W=>?_⟩
 ·simp[madeCells,hj,Value.cells,Nat.mod_one]
 ·have:=run_make (P:=Tryz.prog) W 34 5 i0 (.int .u8 0) aO hi gQ .i64 .i64 (l:Int) (n:Int) ag ag (by rw[mx];omega) ag
  simpa[fq]using this
theorem IZ(p:List Nat)(a:Option Addr)(c:Nat)(w:World)(hp:1<=p.length)(tK:p.length<=4096)(hb:ai w a p):
 Calls Tryz.prog 109 (jE a p.length c) w λ e w'=>∃g k,e= .returned (.slice (zp g) (6+p.length) k)/\w.heap.size<=g/\w'.ownsRow w 5 1 (.slice (zp g) (6+p.length) k) (6+p.length) (aB (eV p))/\Below w w w':=by
 obtain⟨n,hn⟩:=aK p.length
 rw[<-hn]at hp tK⊢
 obtain⟨M,hM,Y6,IV⟩:=Gu 2 (6+n) ag ag
 have hM0:=Y6 0 ag
 have XK:=Y6 1 ag
 have Y7:∀W:World,(Instr.makeSlice 34 (.int .i64 2) (.int .i64 (6+(n:Int)))).run Tryz.prog W= .ok (.slice (zp W) 2 (6+n)) (W.alloc (.cells M 5)):= λ W=>by have:=IV W;simpa using this
 have bg:∀y∈wL n,y<256:=by intro y hy;simp[wL]at hy;omega
 have hhd:wL n=[n/256,n%256]:=by unfold wL;rw[Nat.mod_eq_of_lt (by omega:n/256<256)]
 obtain⟨M',hM'⟩:∃M',M'=(M.setIfInBounds 0 (.int .u8 ((n:Int)/256))).setIfInBounds 1 (.int .u8 ((n:Int)%256)):=⟨_,rfl⟩
 have U8:M'[0]? =some (.int .u8 ((n/256:Nat):Int)):=by rw[hM',Array.getElem?_setIfInBounds_ne bd,Array.getElem?_setIfInBounds_self_of_lt ag];rfl
 have U9:M'[1]? =some (.int .u8 ((n%256:Nat):Int)):=by rw[hM',Array.getElem?_setIfInBounds_self_of_lt (by rw[Array.size_setIfInBounds];omega)];rfl
 have Y8:M'.size=6+n:=by rw[hM'];simp[hM]
 have hS:Calls Tryz.prog 20 (jE (zp w) 2 (6+n)) (w.alloc (.cells M' 5)) λ e w'=>e= .returned (.int .u32 (dE (jM (dE 0) (wL n)):Nat))/\Below (w.alloc (.cells M' 5)).heap.size (w.alloc (.cells M' 5)) w':=by
  refine BX (wL n) w.heap.size 0 (6+n) (w.alloc (.cells M' 5)) bg (by simp[wL]) (λ j x hj=>?_)
  rw[World.cell?_alloc_new]
  rw[hhd]at hj
  match j,hj with
  |0,hj=>cases hj;exact U8
  |1,hj=>cases hj;exact U9
 have dm:dE (jM (dE 0) (wL n))<4294967296:=ff _ (lI _ _ (ff 0 bd) bg)
 have hMo:∀w2:World,Below w w w2->Calls Tryz.prog 33 #[.int .u32 (dE (jM (dE 0) (wL n)):Nat),.slice a n c] w2 λ e w'=>e= .returned (.int .u32 (Rb (wL n) p:Nat))/\Below w2 w2 w':= λ w2 hB=>by
  have h2:=hb.below hB
  rcases h2.2 with h|⟨B,o,rfl,hc⟩
  ·rw[h]at hn;simp at hn;omega
  ·have:=xn _ p B o c w2 dm h2.1 ag hc
   rw[<-hn]at this
   exact this
 have fZ:Rb (wL n) p<4294967296:=ff _ (lI _ _ (ff _ dm) hb.1)
 have HW:Hid (Below w w (w.alloc (.cells M' 5))):=af ((Below.refl _ w).alloc (aW) _)
 generalize Ki:Rb (wL n) p=s2 at hMo fZ
 generalize dE (jM (dE 0) (wL n))=s1 at hS hMo dm
 have HS:=af hS
 have HMo:=af hMo
 have Hb:=af hb
 have HM:=af Y8
 have Hn:=af hn
 have Hcs:=af Ki
 have abJ:=af U8
 have abK:=af U9
 clear IV Y6 hb hM hn hS hMo Ki Y8 U8 U9 bg dm
 go_enter Tryz.func109,Tryz.ntmps109
 go_wp2_with first
  |(rw[<-hM'];with_reducible refine HS.O.mono ?_;rintro e w2 ⟨rfl,aC⟩;have H2:=af (HW.O.T (aC.mono HW.O.size));have eU:=aC.block w aR)
  |(with_reducible refine(HMo.O _ H2.O).mono ?_;rintro e w3 ⟨rfl,aL⟩;have H3:=af (H2.O.T (aL.mono H2.O.size)))
  |fail
 have ax:w3.ownsRow w 5 1 (.slice (zp w) 2 (6+n)) 2 (aB (wL n)):=by
  have oC:w3.heap[w.heap.size]? =some (.cells M' 5 (0,0)):=by
   have e1:=World.alloc_heap_new w (.cells M' 5)
   have e2:=eU.T e1
   exact(aL.block w (aX e2).1).T e2
  refine⟨by simp[aB,wL],.inr ⟨w.heap.size,6+n,M',rfl,aW,oC,ag,by simp[maxLen];omega,by rw[HM.O];simp,?_⟩⟩
  rw[hhd]
  have h0:=abJ.O
  have h1:=abK.O
  apply List.ext_getElem?
  intro j
  rw[List.getElem?_take]
  match j with
  |0=>simpa[aB]using h0
  |1=>simpa[aB]using h1
  |j+2=>simp[aB];intro h;omega
 have abL:=af ax
 clear ax eU aC aL
 go_loopw [4,25] (λ v i wr=>∃k:Nat,k<=4/\i= .int .i64 (k:Int)/\∃g c',v= .slice (zp g) (2+k) c'/\w.heap.size<=g/\Hid (wr.ownsRow w 5 1 (.slice (zp g) (2+k) c') (2+k) (aB (wL n++(Mi s2).take k)))/\Hid (Below w w wr)) (λ _ i _=>4 - (intOf i).toNat)
 case atStart=>exact⟨0,ag,rfl,_,_,rfl,aW,af (by simpa using abL.O),H3⟩
 case round=>
  obtain⟨k,hk,rfl,g,c',rfl,hg,ax,hB⟩:=hrel
  by_cases bg:k<4
  ·have MW:(k:Int)<4:=ag
   have fY:k=0\/k=1\/k=2\/k=3:=ag
   rcases fY with rfl|rfl|rfl|rfl
   ·obtain⟨g',c2,w4,bt,dN,zu,mg, -⟩:=jv (s2%256) ((s2:Int)%256) ag ax.O ag hB.O.size
    have iX:=cV dN (hB.O.T zu) mg
    clear dN zu mg
    go_wp2_with fail
    exact⟨⟨1,ag,rfl,g',c2,rfl,iX.O.2.2,af (by simpa[Mi]using iX.O.1),af iX.O.2.1⟩,by simp[intOf]⟩
   ·obtain⟨g',c2,w4,bt,dN,zu,mg, -⟩:=jv (s2/256%256) ((s2:Int)/256%256) ag ax.O ag hB.O.size
    have iX:=cV dN (hB.O.T zu) mg
    clear dN zu mg
    go_wp2_with fail
    exact⟨⟨2,ag,rfl,g',c2,rfl,iX.O.2.2,af (by simpa[Mi]using iX.O.1),af iX.O.2.1⟩,by simp[intOf]⟩
   ·obtain⟨g',c2,w4,bt,dN,zu,mg, -⟩:=jv (s2/65536%256) ((s2:Int)/65536%256) ag ax.O ag hB.O.size
    have iX:=cV dN (hB.O.T zu) mg
    clear dN zu mg
    go_wp2_with fail
    exact⟨⟨3,ag,rfl,g',c2,rfl,iX.O.2.2,af (by simpa[Mi]using iX.O.1),af iX.O.2.1⟩,by simp[intOf]⟩
   ·obtain⟨g',c2,w4,bt,dN,zu,mg, -⟩:=jv (s2/16777216%256) ((s2:Int)/16777216) ag ax.O ag hB.O.size
    have iX:=cV dN (hB.O.T zu) mg
    clear dN zu mg
    go_wp2_with fail
    exact⟨⟨4,ag,rfl,g',c2,rfl,iX.O.2.2,af (by simpa[Mi]using iX.O.1),af iX.O.2.1⟩,by simp[intOf]⟩
  ·obtain rfl:k=4:=ag
   have h2:=Hb.O.below hB.O
   obtain⟨B,o,rfl,hc⟩:∃B o,a=some ⟨B,o,none⟩/\∀(j:Nat) (x:Nat),p[j]? =some x->wr.cell? (za B (o+j))=some (.int .u8 (x:Int)):=by
    rcases h2.2 with h|h
    ·have:=Hn.O;rw[h]at this;simp at this;omega
    ·exact h
   obtain⟨i0,hi,gQ,fq,mx⟩:=info_parts Tryz.nu
   obtain⟨v',w4,bt,cY,eB, -, -⟩:=run_append_own_at (P:=Tryz.prog) wr w.heap.size 34 34 5 i0 (.int .u8 0) 1 1 aO hi gQ fq mx rfl bd _ _ _ ax.O
    ⟨B,o,none⟩ n c (aB p) (by simp[aB,Hn.O]) (λ j u hj=>by
      obtain⟨y,hy,rfl⟩:∃y,p[j]? =some y/\Value.int .u8 (y:Int)=u:=by simpa[aB]using hj
      rw[<-hc j y hy]
      cases j with
      |zero=>rfl
      |succ j=>simp[Addr.add])
    (λ u hu=>by obtain⟨y,_,rfl⟩:=List.mem_map.1 hu;rfl) (by simp[maxLen];omega) ag hB.O.size
   rw[show 2+4+n=(5+n)+1 by omega]at cY
   obtain⟨g',k',rfl⟩:=ownsRow_succ cY
   rw[show(5+n)+1=6+n by omega]at cY bt
   have zu:Below w w w4:=by
    refine hB.O.grown eB hB.O.size λ j ej=>?_
    rcases ax.O.2 with⟨h,_⟩|⟨g2,cap,cur,h,hb,_⟩
    ·cases h
    ·cases h
     obtain rfl:g=j:=by simpa[Value.ownBlock]using ej
     exact hb
   have mg:w.heap.size<=g':=by
    rcases cY.2 with⟨h,_⟩|⟨g2,cap,cur,h,hb,_⟩
    ·cases h
    ·cases h;exact hb
   have he:aB (wL n++List.take 4 (Mi s2))++aB p=aB (eV p):=by
    rw[eV,<-Hn.O,Hcs.O]
    simp[aB,Mi]
   rw[he]at cY
   have iX:=cV mg cY zu
   clear he cY mg zu eB hc h2 hi gQ fq mx
   go_wp2_with fail
   go_ret
   exact⟨g',k',rfl,iX.O⟩
def gi(W:World)(B n₀:Nat)(a:Option Addr)(c n0:Nat)(bs:List Nat):Prop:=
 W.heap[B]? =some (Obj.cells #[.slice a bs.length c,.int .i64 (n0:Int)] 274 (0,0))/\W.ownsRow n₀ 5 1 (.slice a bs.length c) bs.length (aB bs)
theorem Rc{u':Value}(h:W.heap[B]? =some (Obj.cells #[u,v] t (0,0))):(W.setCell (za B 0) u').heap[B]? =some (Obj.cells #[u',v] t (0,0)):=by
 obtain⟨bg,hk⟩:=aX h
 show(W.heap.modify B _)[B]? =_
 rw[Array.getElem?_eq_getElem (by rw[Array.size_modify];exact bg),Array.getElem_modify_self,hk]
 rfl
theorem mD(h:W.heap[B]? =some (Obj.cells #[u,v] t (0,0))):W.cell? (za B 0)=some u/\W.cell? (za B 1)=some v/\W.frozen? ⟨B,0,none⟩=false:=by
 refine⟨?_,?_,?_⟩<;>simp[World.cell?,World.frozen?,h]
def jN(n0:Nat)(bs:List Nat)(x:Nat):List Nat:=(if(n0+bs.length)%64=0 then bs++[0]else bs)++[x]
theorem mh(x:Nat)(h:gi W B n₀ a c n0 bs)(hk:bs.length<1048576)(hn:n₀<=W.heap.size)(hB:n₀<=B):
 ∃g' c' w',(Builtin.append_ #[34,34] 34 (jF a bs.length c (zp W) 1 1)).run Tryz.prog (W.alloc (.cells (J3 x) 5))= .ok (.slice (zp g') (bs.length+1) c') w'/\
  w'.cell? (za B 0)=some (.slice a bs.length c)/\w'.frozen? ⟨B,0,none⟩=false/\gi (w'.setCell (za B 0) (.slice (zp g') (bs.length+1) c')) B n₀ (zp g') c' n0 (bs++[x])/\Below n₀ W (w'.setCell (za B 0) (.slice (zp g') (bs.length+1) c')):=by
 obtain⟨g',c',w',bt,dN,zu,mg,hH⟩:=jv x (x:Int) rfl h.2 hk hn
 have hw:=hH B _ _ _ h.1 bd
 obtain⟨d1,_,d3⟩:=mD hw
 refine⟨g',c',w',bt,d1,d3,⟨by simpa using Rc hw,?_⟩,zu.setCell (p:=(za B 0)) hB _⟩
 have:=dN.kept (grownBy_setCell' w' B (.slice (zp g') (bs.length+1) c')) (.inr (ns hw bd dN).symm)
 simpa using this
theorem Rd(x:Nat)(_:x<256)(h:gi W B n₀ a c n0 bs)(hk:bs.length<1048575)(h0:n0<=1048576)(hn:n₀<=W.heap.size)(hB:n₀<=B):
 Calls Tryz.prog 135 #[.pointer (zp B),.int .u8 (x:Int)] W λ e w'=>(∃v,e= .returned v)/\∃a' c',gi w' B n₀ a' c' n0 (jN n0 bs x)/\Below n₀ W w':=by
 obtain⟨e1,e2,e3⟩:=mD h.1
 by_cases hm:(n0+bs.length)%64=0
 ·have hd:gi W.drew B n₀ a c n0 bs:=h
  obtain⟨g1,c1,w1,bt,f1,f2,aH,rZ⟩:=mh 0 hd ag hn hB
  obtain⟨g2,c2,w2,M6,k1,k2,da,hB2⟩:=mh x aH bV (Nat.le_trans hn rZ.size) hB
  have Y9:jN n0 bs x=bs++[0]++[x]:=by simp[jN,hm]
  have hl:(bs++[0]).length=bs.length+1:=by simp
  rw[hl]at M6 k1 da hB2
  have jr:(w1.setCell (za B 0) (.slice (zp g1) (bs.length+1) c1)).heap.size=w1.heap.size:=by simp[World.setCell]
  rw[jr]at M6
  have iX:=af (show∃a' c',gi (w2.setCell (za B 0) (.slice (zp g2) (bs.length+1+1) c2)) B n₀ a' c' n0 (jN n0 bs x)/\Below n₀ W (w2.setCell (za B 0) (.slice (zp g2) (bs.length+1+1) c2))from⟨_,_,by rw[Y9];exact da,((Below.refl _ W).drew.T rZ).T hB2⟩)
  have ht:((((n0:Int)+(bs.length:Int)).tmod 64)==0)=true:=by
   have:((n0:Int)+(bs.length:Int)).tmod 64=0:=by rw[Int.tmod_eq_emod_of_nonneg ag];omega
   simpa using this
  have XG:IntKind.i64.wrap ((n0:Int)+(bs.length:Int))=(n0:Int)+(bs.length:Int):=by rw[IntKind.wrap_i64];omega
  have abM:(Builtin.append_ #[34,34] 34 (jF a bs.length c (zp W) 1 1)).run Tryz.prog ((W.alloc (.cells #[.int .u8 0] 5)).drew)= .ok (.slice (zp g1) (bs.length+1) c1) w1:=bt
  obtain⟨m1,_,m3⟩:=mD aH.1
  rw[hl]at m1
  clear h hd aH rZ Y9 hm bt da hB2 hl jr
  go_enter Tryz.func135,Tryz.ntmps135
  go_wp2_with fail
  go_region_held3 (λ w'=>w'.cell? (za B 0)=some (.slice a bs.length c)/\w'.cell? (za B 1)=some (.int .i64 (n0:Int))) (exact⟨e1,e2⟩) (fail)
  go_wp2_with fail
  go_end0
  exact⟨⟨_,rfl⟩,iX.O⟩
 ·have hd:gi W.drew B n₀ a c n0 bs:=h
  obtain⟨g1,c1,w1,bt,f1,f2,aH,rZ⟩:=mh x hd ag hn hB
  have Y9:jN n0 bs x=bs++[x]:=by simp[jN,hm]
  have iX:=af (show∃a' c',gi (w1.setCell (za B 0) (.slice (zp g1) (bs.length+1) c1)) B n₀ a' c' n0 (jN n0 bs x)/\Below n₀ W (w1.setCell (za B 0) (.slice (zp g1) (bs.length+1) c1))from⟨_,_,by rw[Y9];exact aH,(Below.refl _ W).drew.T rZ⟩)
  have ht:((((n0:Int)+(bs.length:Int)).tmod 64)==0)=false:=by
   have:¬ ((n0:Int)+(bs.length:Int)).tmod 64=0:=by rw[Int.tmod_eq_emod_of_nonneg ag];omega
   simpa using this
  have XG:IntKind.i64.wrap ((n0:Int)+(bs.length:Int))=(n0:Int)+(bs.length:Int):=by rw[IntKind.wrap_i64];omega
  have abM:(Builtin.append_ #[34,34] 34 (jF a bs.length c (zp W) 1 1)).run Tryz.prog ((W.alloc (.cells (J3 x) 5)).drew)= .ok (.slice (zp g1) (bs.length+1) c1) w1:=bt
  clear h hd aH rZ Y9 hm bt
  go_enter Tryz.func135,Tryz.ntmps135
  go_wp2_with fail
  go_region_held3 (λ w'=>w'.cell? (za B 0)=some (.slice a bs.length c)/\w'.cell? (za B 1)=some (.int .i64 (n0:Int))) (exact⟨e1,e2⟩) (fail)
  go_wp2_with fail
  go_end0
  exact⟨⟨_,rfl⟩,iX.O⟩
def dq(n0:Nat)(xs:List Nat):List Nat:=xs.foldl (jN n0) []
def br(n0:Nat):Nat:=if n0%64=0 then n0+1 else n0
theorem M7(n0:Nat)(bs:List Nat)(x:Nat):(jN n0 bs x).length<=bs.length+2:=by unfold jN;split<;>simp
theorem Kj(n0:Nat)(xs:List Nat)(x:Nat):dq n0 (xs++[x])=jN n0 (dq n0 xs) x:=by simp[dq]
theorem AF(n0:Nat):∀(xs bs:List Nat),(xs.foldl (jN n0) bs).length<=bs.length+2*xs.length
 |[],bs=>by simp
 |x::xs,bs=>by
  have:=AF n0 xs (jN n0 bs x)
  have:=M7 n0 bs x
  simp only[List.foldl_cons,List.length_cons]
  omega
theorem M8(n0:Nat)(xs:List Nat):(dq n0 xs).length<=2*xs.length:=by have:=AF n0 xs [];simpa[dq]using this
theorem M9(n0:Nat)(x:Nat):n0+(dq n0 [x]).length=br n0+1:=by
 simp only[dq,List.foldl_cons,List.foldl_nil,jN,br,List.length_nil,Nat.add_zero]
 split<;>simp
theorem Kk(h:au w b c ps)(hm:Marks (al ps))(xs:List Nat)(a:Option Addr)(ca:Nat)(hb:ai w a xs)(h1:1<=xs.length)(h2:xs.length<=5000):
 Calls Tryz.prog 108 #[aE b ps.length c,.slice a xs.length ca] w λ e w'=>∃a' c',e= .returned (.tuple (zq9 a' (dq (al ps).length xs).length c' (br (al ps).length:Nat)))/\w'.ownsRow w 5 1 (.slice a' (dq (al ps).length xs).length c') (dq (al ps).length xs).length (aB (dq (al ps).length xs))/\Below w w w':=by
 have fG:=h.small
 have hL:= λ (w2:World) (hb:Below w w w2)=>MX (h.below hb)
 have hK:= λ (w2:World) (hb:Below w w w2)=>Kd (h.below hb) hm
 have HL:=af hL
 have HK:=af hK
 have Hb:=af hb
 unfold aE at*
 clear hL hK h hm hb
 generalize(al ps).length=N at*
 have H0:Hid (Below w w (w.alloc (.cells (cK b ps.length c) 37))):=af (by go_grown)
 go_enter Tryz.func108,Tryz.ntmps108
 go_wp2_with first
  |(with_reducible refine(HL.O _ H0.O).mono ?_;rintro e w2 ⟨rfl,aC⟩;have H2:=af (H0.O.T (aC.mono H0.O.size));obtain⟨c0,c1,c2,c3,c4⟩:=xc aC;have zv:=World.block_lt_of_cell? w2 _ c0;clear aC)
  |(refine(HK.O _ ?_).mono ?_;(exact H2.O.T ((Below.refl _ w2).alloc H2.O.size _));rintro e w3 ⟨rfl,aL⟩)
  |fail
 have cL:gi w3 w2.heap.size w.heap.size none 0 N []:=by
  refine⟨(aL.block w2 aR).T (World.alloc_heap_new w2 _),by simp[aB],.inl ⟨rfl,rfl⟩⟩
 have H3:Hid (Below w w w3):=af ((H2.O.T ((Below.refl _ w2).alloc H2.O.size _)).T (aL.mono (by have:=H2.O.size;simp;omega)))
 have Hw3:=af cL
 have oD:=H2.O.size
 clear cL aL c0 c1 c2 c3 c4
 go_loopw [8,33] (λ t i wr=>∃k:Nat,k<=xs.length/\i= .int .i64 (k:Int)/\t= .int .i64 ((if k=0 then 0 else br N:Nat):Int)/\∃a' c',Hid (gi wr w2.heap.size w.heap.size a' c' N (dq N (xs.take k)))/\Hid (Below w w wr)) (λ _ i _=>xs.length - (intOf i).toNat)
 case atStart=>exact⟨0,Nat.zero_le _,rfl,rfl,none,0,af (by simpa[dq]using Hw3.O),H3⟩
 case round=>
  obtain⟨k,hk,rfl,rfl,a',c',hw,hB⟩:=hrel
  by_cases bg:k<xs.length
  ·obtain⟨x,hx⟩:∃x,xs[k]? =some x:=⟨xs[k],by simp[bg]⟩
   have aC:=Hb.O.below hB.O
   have M5:=aC.1 x (List.mem_of_getElem? hx)
   obtain⟨B,o,rfl,xp⟩:∃B o,a=some ⟨B,o,none⟩/\wr.cell? (za B (o+k))=some (.int .u8 (x:Int)):=by
    rcases aC.2 with h|⟨B,o,h,hc⟩
    ·rw[h]at bg;simp at bg
    ·exact⟨B,o,h,hc k x hx⟩
   have Re:=M8 N (xs.take k)
   have vV:(xs.take k).length<=5000:=by rw[List.length_take];omega
   have jw:=Rd x M5 hw.O ag ag hB.O.size oD
   have iN:jN N (dq N (xs.take k)) x=dq N (xs.take (k+1)):=by rw[List.take_add_one,hx];exact(Kj _ _ _).symm
   rw[iN]at jw
   have HP:=af jw
   have Hx:=af hx
   clear jw aC hx Re vV iN
   by_cases zP:k=0
   ·subst zP
    have ac5:wr.cell? ⟨B,o,none⟩=some (.int .u8 (x:Int)):=xp
    have ac6:(0:Int)<(xs.length:Int):=ag
    have bB:xs.take (0+1)=[x]:=by rw[List.take_add_one,Hx.O];rfl
    rw[bB]at HP
    have zU:=M9 N x
    obtain⟨L,hL⟩:=aK ((dq N [x]).length)
    have dm:IntKind.i64.wrap ((N:Int)+(L:Int))=(N:Int)+(L:Int):=by rw[IntKind.wrap_i64];rw[<-hL]at zU;unfold br at zU;split at zU<;>omega
    have fZ:(N:Int)+(L:Int) - 1=((br N:Nat):Int):=by rw[<-hL]at zU;omega
    have iU:IntKind.i64.wrap ((br N:Nat):Int)=((br N:Nat):Int):=by rw[IntKind.wrap_i64];unfold br;split<;>omega
    have Aw:IntKind.i64.wrap ((N:Int)+(L:Int) - 1)=((br N:Nat):Int):=by rw[fZ];exact iU
    have Gv:=af hL
    have I0:=af bB
    clear zU hL fZ iU Hx bB
    go_wp2_with first
     |(refine HP.O.mono ?_;rintro e w4 ⟨⟨v4,rfl⟩,a4,c4,gA,bH⟩;have qZ:w4.cell? (za w2 0)=some (.slice a4 L c4):=(by rw[Gv.O];exact(mD gA.1).1);have Hw4:=af gA;clear gA)
     |fail
    exact⟨⟨1,ag,rfl,rfl,a4,c4,af (by rw[show xs.take 1=[x]from I0.O];exact Hw4.O),af (hB.O.T bH)⟩,by simp[intOf];omega⟩
   ·have MW:((k:Int)==0)=false:=bV
    go_wp2_with first
     |(with_reducible refine HP.O.mono ?_;rintro e w4 ⟨⟨v4,rfl⟩,a4,c4,gA,bH⟩)
     |fail
    exact⟨⟨k+1,ag,rfl,by simp[zP],a4,c4,af gA,af (hB.O.T bH)⟩,by simp[intOf];omega⟩
  ·have Qc:k=xs.length:=ag
   subst Qc
   rw[if_neg (by omega:¬ xs.length=0)]
   have hw':=hw.O
   rw[List.take_length]at hw'
   have kL:=(mD hw'.1).1
   have Hw':=af hw'.2
   clear hw' hw
   go_wp2_with fail
   go_ret2
   exact⟨_,_,rfl,Hw'.O,hB.O⟩
def Qe:Nat->List Nat->List (Nat×Nat)
 |_,[]=>[]
 |j,x::l=>if j%64=0 then Qe (j+1) l else(j,x)::Qe (j+1) l
theorem Na(n:Nat)(bs cs:List Nat)(x:Nat):jN n (bs++cs) x=bs++jN (n+bs.length) cs x:=by
 unfold jN;rw[List.length_append,<-Nat.add_assoc];split<;>simp
theorem AG(n:Nat):∀(xs bs cs:List Nat),xs.foldl (jN n) (bs++cs)=bs++xs.foldl (jN (n+bs.length)) cs
 |[],_,_=>rfl
 |x::xs,bs,cs=>by simp only[List.foldl_cons,Na];exact AG n xs bs _
theorem iY(n x:Nat)(xs:List Nat):dq n (x::xs)=jN n [] x++dq (n+(jN n [] x).length) xs:=by
 have:=AG n xs (jN n [] x) []
 simpa[dq]using this
theorem kM(n x:Nat):jN n [] x=if n%64=0 then[0,x]else[x]:=by unfold jN;simp;split<;>simp
theorem BY(q9:List Nat):∀(xs:List Nat) (n:Nat),(Qe n (dq n xs++q9)).map Prod.snd=xs++(Qe (n+(dq n xs).length) q9).map Prod.snd
 |[],n=>by simp[dq]
 |x::xs,n=>by
  rw[iY,List.append_assoc,kM]
  by_cases h:n%64=0
  ·have h1:¬ (n+1)%64=0:=ag
   have ih:=BY q9 xs (n+2)
   simp only[h,if_true,List.cons_append,List.nil_append,List.length_cons,List.length_nil,Qe,h1,if_false,List.map_cons,Nat.zero_add]
   rw[show n+1+1=n+2 by omega,show n+(1+1)=n+2 by omega,ih,show n+(dq (n+2) xs).length.succ.succ=n+2+(dq (n+2) xs).length by omega]
  ·have ih:=BY q9 xs (n+1)
   simp only[h,if_false,List.cons_append,List.nil_append,List.length_cons,List.length_nil,Qe,List.map_cons,Nat.zero_add]
   rw[ih,show n+(dq (n+1) xs).length.succ=n+1+(dq (n+1) xs).length by omega]
theorem ub:∀(xs:List Nat) (n i x:Nat),(dq n xs)[i]? =some x->(n+i)%64=0->x=0
 |[],n,i,x,h,_=>by simp[dq]at h
 |y::xs,n,i,x,h,hm=>by
  rw[iY,kM]at h
  by_cases h0:n%64=0
  ·simp only[h0,if_true,List.cons_append,List.nil_append,List.length_cons,List.length_nil]at h
   match i,h,hm with
   |0,h,_=>simpa using h.symm
   |1,_,hm=>omega
   |i+2,h,hm=>exact ub xs (n+2) i x (by simpa using h) (by rw[<-hm];congr 1;omega)
  ·simp only[h0,if_false,List.cons_append,List.nil_append,List.length_cons,List.length_nil]at h
   match i,h,hm with
   |0,h,hm=>omega
   |i+1,h,hm=>exact ub xs (n+1) i x (by simpa using h) (by rw[<-hm];congr 1;omega)
theorem AH(h:Marks all)(xs:List Nat):Marks (all++dq all.length xs):= λ i hi x hx=>by
 by_cases hl:i<all.length
 ·rw[List.getElem?_append_left hl]at hx;exact h i hi x hx
 ·rw[List.getElem?_append_right ag]at hx
  exact ub xs all.length (i - all.length) x hx (by rw[show all.length+(i - all.length)=i by omega];exact hi)
theorem I1:∀(xs:List Nat) (n:Nat),(∀x∈xs,x<256)->∀y∈dq n xs,y<256
 |[],n,_,y,hy=>by simp[dq]at hy
 |x::xs,n,h,y,hy=>by
  rw[iY,List.mem_append,kM]at hy
  rcases hy with hy|hy
  ·have:=h x aR
   split at hy<;>simp at hy<;>omega
  ·exact I1 xs _ (λ z hz=>h z (by simp[hz])) y hy
theorem Nb(n x:Nat)(xs:List Nat):1<=(dq n (x::xs)).length:=by rw[iY,List.length_append,kM];split<;>simp<;>omega
def de(all:List Nat)(at_:Nat):List (Nat×Nat):=Qe at_ (all.drop at_)
def dO(all:List Nat)(at_:Nat)(p:List Nat):Prop:=
 1<=p.length/\p.length<=4096/\(∀x∈p,x<256)/\∃pre q9,all=pre++dq pre.length (eV p)++q9/\at_=br pre.length
theorem dO.more(h:dO all at_ p)(m:List Nat):dO (all++m) at_ p:=by
 obtain⟨h1,h2,h3,pre,q9,rfl,h5⟩:=h
 exact⟨h1,h2,h3,pre,q9++m,by simp,h5⟩
theorem mE(p:List Nat):(eV p).length=6+p.length:=by simp[eV,wL,Mi];omega
theorem uc(p:List Nat):∃y ys,eV p=y::ys:=⟨_,_,rfl⟩
theorem dO.new(all p:List Nat)(h1:1<=p.length)(h2:p.length<=4096)(h3:∀x∈p,x<256):dO (all++dq all.length (eV p)) (br all.length) p:=
 ⟨h1,h2,h3,all,[],by simp,rfl⟩
theorem dO.xq(h:dO all at_ p):at_%64≠0:=by
 obtain⟨_,_,_,pre,q9,_,rfl⟩:=h
 unfold br;split<;>omega
theorem dO.lt(h:dO all at_ p):at_<all.length:=by
 obtain⟨h1,_,_,pre,q9,rfl,rfl⟩:=h
 obtain⟨y,ys,e⟩:=uc p
 rw[e,iY,kM]
 unfold br
 split<;>simp<;>omega
theorem dO.behind(h:dO all at_ p):∃more,(de all at_).map Prod.snd=eV p++more:=by
 obtain⟨h1,_,_,pre,q9,rfl,rfl⟩:=h
 have hu:=BY q9 (eV p) pre.length
 refine⟨_,Eq.T ?_ hu⟩
 congr 1
 unfold de
 obtain⟨y,ys,e⟩:=uc p
 rw[List.append_assoc,e,iY,kM]
 unfold br
 by_cases h0:pre.length%64=0
 ·simp only[h0,if_true]
  rw[List.drop_append,List.drop_eq_nil_of_le ag]
  simp[Qe,h0]
 ·simp only[h0,if_false]
  rw[List.drop_append,List.drop_eq_nil_of_le ag]
  simp
theorem Nc(all:List Nat)(j:Nat)(h:j<all.length):de all j=if j%64=0 then de all (j+1)else(j,all[j])::de all (j+1):=by
 unfold de
 rw[List.drop_eq_getElem_cons h,Qe]
theorem BZ(all:List Nat)(j:Nat)(h:all.length<=j):de all j=[]:=by
 unfold de
 rw[List.drop_eq_nil_of_le h,Qe]
end
theorem Gw(b:Option Addr)(k c:Nat)(at_:Nat)(w:World):
 Calls Tryz.prog 129 #[aE b k c,.int .i64 (at_:Int)] w λ e w'=>e= .returned (.func (.func 170) #[] (iS (zp w) (zp (w.heap.size+1))))/\w'=(w.alloc (.cells (cK b k c) 37)).alloc (.cells (Au at_) 3):=by
 unfold aE
 go_enter Tryz.func129,Tryz.ntmps129
 go_wp2
 go_ret
 exact⟨rfl,rfl⟩
def rowOf(B:Nat)(W:World):Option Nat:=
 match W.heap[B]? with
 |some (.cells #[.slice (some a) _ _] _ _)=>some a.block
 |_=>none
theorem dT(h:W'.heap[B]? =W.heap[B]?):rowOf B W'=rowOf B W:=by unfold rowOf;rw[h]
theorem gH{a:Addr}(h:Boxed W B t (.slice (some a) n c)):rowOf B W=some a.block:=by unfold rowOf;rw[h];rfl
theorem mF(h:Boxed W B t (.slice none n c)):rowOf B W=none:=by unfold rowOf;rw[h];rfl
structure Lets(n₀:Nat)(X:Nat->Prop)(B:Nat)(W W':World):Prop where
 below:Below n₀ W W'
 bT:∀(k:Nat) (cs:Array Value) (t:TypeId) (fz:Nat×Nat),W.heap[k]? =some (.cells cs t fz)->¬ X k->k≠B->rowOf B W≠some k->W'.heap[k]? =some (.cells cs t fz)
 row:∀k,rowOf B W'=some k->rowOf B W=some k\/W.heap.size<=k
 lt:(∀k,rowOf B W=some k->k<W.heap.size)->∀k,rowOf B W'=some k->k<W'.heap.size
theorem Lets.refl(n₀:Nat)(X:Nat->Prop)(B:Nat)(W:World):Lets n₀ X B W W:=⟨dp, λ _ _ _ _ h _ _ _=>h, λ _ h=>.inl h, λ h=>h⟩
theorem Lets.size{n₀:Nat}{X:Nat->Prop}{B:Nat}{U V:World}(h:Lets n₀ X B U V):U.heap.size<=V.heap.size:=h.below.size
theorem Lets.T{n₀:Nat}{X:Nat->Prop}{B:Nat}{U V W:World}(h:Lets n₀ X B U V)(k:Lets n₀ X B V W):Lets n₀ X B U W where
 below:=h.below.T k.below
 bT:= λ j cs t fz hj hx hb hr=>by
  refine k.bT j cs t fz (h.bT j cs t fz hj hx hb hr) hx hb λ e=>?_
  rcases h.row j e with e|e
  ·exact hr e
  ·have:=(aX hj).1;omega
 row:= λ j e=>by
  rcases k.row j e with e|e
  ·exact h.row j e
  ·exact .inr (Nat.le_trans h.size e)
 lt:= λ hl=>k.lt (h.lt hl)
theorem Lets.aA{X:Nat->Prop}(h:Below W W W')(hB:B<W.heap.size)(hn:n₀<=W.heap.size):Lets n₀ X B W W':=by
 have e:=dT (h.block B hB)
 refine⟨h.mono hn, λ k cs t fz hk _ _ _=>(h.block k (aX hk).1).T hk, λ k hk=>.inl (e▸hk), λ hl k hk=>Nat.lt_of_lt_of_le (hl k (e▸hk)) h.size⟩
theorem Lets.putObj{n₀:Nat}{X:Nat->Prop}{B:Nat}(W:World)(l:Nat)(o o':Obj)(h:W.heap[l]? =some o)(ho:o.isCells=false)(hB:B≠l)(hn:n₀<=l):Lets n₀ X B W (W.putObj l o'):=by
 have e:rowOf B (W.putObj l o')=rowOf B W:=dT (World.putObj_heap_other (λ e=>hB e))
 refine⟨(Below.refl n₀ W).grown (grownBy_putObj' W l o') (by have:=(aX h).1;omega) (λ k e=>by cases e;omega), λ k cs t fz hk _ _ _=>(World.putObj_heap_other λ e=>?_).T hk, λ k hk=>.inl (e▸hk), λ hl k hk=>by simpa using hl k (e▸hk)⟩
 subst e;rw[hk]at h;cases h;cases ho
theorem Lets.setCell{n₀:Nat}{X:Nat->Prop}{B:Nat}(W:World)(a:Addr)(v:Value)(hx:X a.block)(hB:B≠a.block)(hn:n₀<=a.block):Lets n₀ X B W (W.setCell a v):=by
 have e:rowOf B (W.setCell a v)=rowOf B W:=dT (Below.heap_setCell W a v B hB)
 refine⟨(Below.refl n₀ W).setCell hn v, λ k cs t fz hk h _ _=>(Below.heap_setCell W a v k λ e=>?_).T hk, λ k hk=>.inl (e▸hk), λ hl k hk=>by simpa[World.setCell]using hl k (e▸hk)⟩
 subst e;exact h hx
def Safe(X:Nat->Prop)(B:Nat)(W:World)(k:Nat):Prop:=¬ X k/\k≠B/\rowOf B W≠some k
theorem Lets.safe{X:Nat->Prop}(h:Lets n₀ X B W W')(hs:Safe X B W k)(hk:k<W.heap.size):Safe X B W' k:=
 ⟨hs.1,hs.2.1, λ e=>(h.row k e).elim hs.2.2 (λ h=>ag)⟩
theorem Lets.mG{X:Nat->Prop}(h:Lets n₀ X B W W'){p:Addr}(hs:Safe X B W p.block)(hc:W.cell? p=some v):W'.cell? p=some v:=by
 obtain⟨o,ho,Tx⟩:=cells_of_cell hc
 cases o<;>simp[Obj.isCells]at Tx
 exact(World.cell?_of_block (w:=W) ((h.bT _ _ _ _ ho hs.1 hs.2.1 hs.2.2).T ho.symm)).T hc
theorem Lets.ft{X:Nat->Prop}(h:Lets n₀ X B W W'){cs:Array Value}{fz:Nat×Nat}(hs:Safe X B W k)(hc:W.heap[k]? =some (.cells cs t fz)):W'.heap[k]? =some (.cells cs t fz):=h.bT _ _ _ _ hc hs.1 hs.2.1 hs.2.2
theorem Dw{X:Nat->Prop}(h:Below W W W')(hX:¬ X k)(hB:B<W.heap.size)(hr:∀k,rowOf B W=some k->k<W.heap.size)(hk:W.heap.size<=k):Safe X B W' k:=
 ⟨hX,ag, λ e=>by rw[dT (h.block B hB)]at e;have:=hr k e;omega⟩
theorem ai.safe{X:Nat->Prop}(h:Lets n₀ X B W W')(hb:ai W a xs)(hs:∀p,a=some p->Safe X B W p.block):ai W' a xs:=by
 refine⟨hb.1,?_⟩
 rcases hb.2 with h0|⟨C,o,ha,hc⟩
 ·exact .inl h0
 ·exact .inr ⟨C,o,ha, λ j x hx=>h.mG (p:=(za C (o+j))) (by have:=hs ⟨C,o,none⟩ ha;exact this) (hc j x hx)⟩
structure dz(D:Nat)(dw:Nat->Prop)(A B:World):Prop where
 size:A.heap.size<=B.heap.size
 os:B.os=A.os
 tape:B.tape=A.tape
 output:B.output=A.output
 bT:∀(k:Nat) (o:Obj),A.heap[k]? =some o->k<D\/o.isCells=true->¬ dw k->B.heap[k]? =some o
theorem dz.refl(D:Nat)(M:Nat->Prop)(A:World):dz D M A A:=⟨aW,rfl,rfl,rfl, λ _ _ h _ _=>h⟩
theorem dz.T{D:Nat}{M:Nat->Prop}{A B C:World}(h:dz D M A B)(k:dz D M B C):dz D M A C:=
 ⟨Nat.le_trans h.size k.size,k.os.T h.os,k.tape.T h.tape,k.output.T h.output, λ i o hi hd hm=>k.bT i o (h.bT i o hi hd hm) hd hm⟩
theorem dz.aA{M:Nat->Prop}{B:World}(h:Below A A B):dz D M A B:=
 ⟨h.size,h.os,h.tape,h.output, λ k _ hk _ _=>(h.block k (aX hk).1).T hk⟩
theorem dz.alloc{D:Nat}{M:Nat->Prop}(A:World)(o:Obj):dz D M A (A.alloc o):=dz.aA ((Below.refl _ A).alloc (aW) o)
theorem dz.putObj{D:Nat}{M:Nat->Prop}(A:World)(l:Nat)(o o':Obj)(hl:D<=l)(h:A.heap[l]? =some o)(ho:o.isCells=false):dz D M A (A.putObj l o'):=
 ⟨by simp,rfl,rfl,rfl, λ k u hk hd _=>(World.putObj_heap_other (λ e=>by subst e;rw[h]at hk;cases hk;exact hd.elim (λ h=>ag) (λ h=>by rw[ho]at h;cases h))).T hk⟩
theorem dz.setCell{D:Nat}{M:Nat->Prop}(A:World)(a:Addr)(v:Value)(hm:M a.block):dz D M A (A.setCell a v):=
 ⟨by simp[World.setCell],rfl,rfl,rfl, λ k o hk _ h=>(Below.heap_setCell A a v k (λ e=>h (e▸hm))).T hk⟩
theorem dz.cell{M:Nat->Prop}{B:World}(h:dz D M A B){p:Addr}(hc:A.cell? p=some v)(hm:¬ M p.block):B.cell? p=some v:=by
 obtain⟨o,ho,Tx⟩:=cells_of_cell hc
 exact(World.cell?_of_block (w:=A) ((h.bT _ _ ho (.inr Tx) hm).T ho.symm)).T hc
theorem dz.drew{D:Nat}{M:Nat->Prop}(A:World):dz D M A A.drew:=⟨aW,rfl,rfl,rfl, λ _ _ h _ _=>h⟩
def Gx{α:Type}(P:Program)(gf:Nat)(lb:Array Value)(mH:α->Array Value)(Kp:World->World->Prop)(dw:Nat->Prop)(E:World->Prop)(xs:List α)(w:World):Prop:=
 ∀(n l:Nat) (J Jx:List α->World->Prop) (W:World),3<=n->Below w w W->
  (∀s A B,J s A->dz W dw A B->J s B)->
  (∀s A B,Jx s A->dz W dw A B->Jx s B)->
  (∀pre x W1,J pre W1->pre++[x]<+:xs->YieldAt Fence.wide (n - 1) P l (mH x) W1 λ e W'=>
    (e= .returned (.bool true)/\J (pre++[x]) W'/\Kp W1 W')\/(e= .returned (.bool false)/\Jx (pre++[x]) W'/\Kp W1 W'))->
  J [] W->
  CallsIn Fence.wide n P gf (#[.func (.yield l) #[] #[]]++lb) W λ e W'=>(∃v,e= .returned v)/\(J xs W'\/∃pre,pre<+:xs/\Jx pre W')/\E W'
def Dx{α:Type}(P:Program)(gf:Nat)(lb:Array Value)(mH:α->Array Value)(Kp:World->World->Prop)(dw:Nat->Prop)(E:World->Prop)(zw:List α->Prop)(At:α->World->Prop)(Full:List α->Prop)(w:World):Prop:=
 ∀(n l:Nat) (J Jx:List α->World->Prop) (W:World),3<=n->Below w w W->
  (∀s A B,J s A->dz W dw A B->J s B)->
  (∀s A B,Jx s A->dz W dw A B->Jx s B)->
  (∀pre x W1,J pre W1->zw (pre++[x])->At x W1->YieldAt Fence.wide (n - 1) P l (mH x) W1 λ e W'=>
    (e= .returned (.bool true)/\J (pre++[x]) W'/\Kp W1 W')\/(e= .returned (.bool false)/\Jx (pre++[x]) W'/\Kp W1 W'))->
  J [] W->
  CallsIn Fence.wide n P gf (#[.func (.yield l) #[] #[]]++lb) W λ e W'=>(∃v,e= .returned v)/\((∃s,Full s/\J s W')\/∃pre,zw pre/\Jx pre W')/\E W'
theorem Gx.g{α:Type}{mH:α->Array Value}{Kp:World->World->Prop}{dw:Nat->Prop}{xs:List α}(h:Gx P gf lb mH Kp dw E xs w):Dx P gf lb mH Kp dw E (·<+:xs) (λ _ _=>True) (·=xs) w:=
 λ n l J Jx W hn hb hJ Nf hY h0=>(h n l J Jx W hn hb hJ Nf (λ pre x W1 h1 h2=>hY pre x W1 h1 h2 trivial) h0).mono λ _ _ h=>⟨h.1,h.2.1.imp (λ j=>⟨xs,rfl,j⟩) id,h.2.2⟩
def xt{α:Type}(B:Nat)(Kp:World->World->Prop)(I:List α->World->Prop)(Ix:Code->List α->World->Prop)(xs:List α)(W:World):Exit->Act->World->Prop
 | .normal,_,W'=>KeepsFrom B W W'/\Kp W W'/\I xs W'
 | .ret,_,W'=>KeepsFrom B W W'/\Kp W W'/\Ix .ret xs W'
 | .exit id,_,W'=>KeepsFrom B W W'/\Kp W W'/\Ix (.exit id) xs W'
 | .goto t,_,W'=>KeepsFrom B W W'/\Kp W W'/\Ix (.goto t) xs W'
 | .panic _,_,_=>False
 | .outgrown,_,_=>False
theorem Ng{α:Type}{g:Operand}{ps:Array Tmp}{a:Act}
 (h1:5<=n)(hg:a.eval g= .func (.func gf) #[] lb)(eg:∀args w,(callFunc gf args).run P w= .ok (.enter gf args) w)
 {mH:α->Array Value}{Kp:World->World->Prop}{dw:Nat->Prop}{zw:List α->Prop}{At:α->World->Prop}{Full:List α->Prop}(mf:Dx P gf lb mH Kp dw E zw At Full w0)(Qf:∀x A B,At x A->dz w dw A B->At x B)
 (rY:∀{A B C:World},Kp A B->Kp B C->Kp A C)(xe:∀(W:World) (l:Nat) (o o':Obj),w.heap.size<=l->W.heap[l]? =some o->o.isCells=false->Kp W (W.putObj l o'))(iL:Below w0 w0 w)(zx:∀x,(mH x).size=ps.size)
 (mI:∀k,dw k->k<w.heap.size)
 (I:List α->World->Prop)(Ix:Code->List α->World->Prop)(hI:∀s A B,I s A->dz w dw A B->I s B)(hIx:∀c s A B,Ix c s A->dz w dw A B->Ix c s B)(hE:∀(W:World) (l:Nat) (o o':Obj),w.heap.size<=l->W.heap[l]? =some o->o.isCells=false->E W->E (W.putObj l o'))(h0:I [] w)(B4:α->Act)
 (fb:∀(l:Nat) (x:α) (W:World) (K:Act->World->Prop),K (B4 x) W->
   assign.wpIn (Fence.wide.inRound l) (n - 1 - 1) P (Exit.then K (λ _ _ _=>False)) {tmps:=(ps.zip (mH x)).foldl (λ t (p,v)=>t.setIfInBounds p v) a.tmps,defers:=[]} W)
 (kF:∀(l:Nat) (pre:List α) (x:α) (W:World),I pre W->zw (pre++[x])->At x W->body.wpIn (Fence.wide.inRound l) (n - 1 - 1) P (xt w.heap.size Kp I Ix (pre++[x]) W) (B4 x) W)
 (kG:∀(D:Nat) (s:List α) (W:World),w.heap.size<=D->Full s->I s W->E W->W.heap[D]? =some (.deferred (some []))->Q .normal {a with defers:={target:=.collected D,args:=#[]}::a.defers} W)
 (kH:∀(D:Nat) (c:Code) (pre:List α) (W:World),w.heap.size<=D->zw pre->Ix c pre W->E W->W.heap[D]? =some (.deferred (some []))->c.wpIn Fence.wide n P Q {a with defers:={target:=.collected D,args:=#[]}::a.defers} W):
 (Code.rangeFunc g ps assign body).wpIn Fence.wide n P Q a w:=by
 refine wpIn_rangeFunc ?_
 intro fn Za
 rw[show Fence.wide.round=none from rfl]
 obtain⟨rec,j8⟩:∃rec:LoopState->Option Code->Loop,rec= λ st pe=>{state:=st,pending:=pe,fn,tmps:=a.tmps,params:=ps,assign,body,defers:=w.heap.size}:=⟨_,rfl⟩
 obtain⟨W1,qF⟩:∃W1,(w.alloc (.deferred (some []))).alloc (.loop (rec .ready none))=W1:=⟨_,rfl⟩
 have sk:W1.heap[w.heap.size+1]? =some (.loop (rec .ready none)):=by
  rw[<-qF];have:=World.alloc_heap_new (w.alloc (.deferred (some []))) (.loop (rec .ready none));rwa [World.size_alloc]at this
 have hK1:W1.heap[w.heap.size]? =some (.deferred (some [])):=by
  rw[<-qF];exact(Below.heap_alloc _ _ _ aR).T (World.alloc_heap_new w _)
 have dm:W1.heap.size=w.heap.size+1+1:=by rw[<-qF];simp
 have hI1:I [] W1:=by rw[<-qF];exact hI _ _ _ (hI _ _ _ h0 (dz.alloc _ _)) (dz.alloc _ _)
 have aQ:Below w0 w0 W1:=by
  rw[<-qF];exact iL.T ((((Below.refl _ w).alloc (aW) _).alloc aR _).mono iL.size)
 refine⟨w.heap.size+1,[{target:=.collected w.heap.size,args:=#[]}],W1,{target:=.fn (.func gf) lb,args:=#[.func (.yield (w.heap.size+1)) #[] #[]]},W1,gf,
  #[.func (.yield (w.heap.size+1)) #[] #[]]++lb,W1,?_,?_,?_,?_, λ _=>ag,?_⟩
 ·rw[<-qF,j8];exact run_enterLoop_outer _ _ _ _ _
 ·simp only[resolve,hg]
  simp[go_sem]
 ·intro f' hf';trivial
 ·simp[invoke,go_sem,eg]
 ·have zy:∀{A B:World},dz W1 dw A B->dz w dw A B:= λ h=>⟨h.size,h.os,h.tape,h.output, λ k o hk hd hm=>h.bT k o hk (hd.elim (λ h=>.inl ag) .inr) hm⟩
  have Dy:∀{A B:World} {k:Nat} {o:Obj},dz W1 dw A B->A.heap[k]? =some o->w.heap.size<=k->k<W1.heap.size->B.heap[k]? =some o:= λ h hk h1 h2=>h.bT _ _ hk (.inl h2) (λ m=>aM (mI _ m))
  refine(mf (n - 1) (w.heap.size+1)
   (λ pre W=>I pre W/\W.heap[w.heap.size+1]? =some (.loop (rec .ready none))/\W.heap[w.heap.size]? =some (.deferred (some [])))
   (λ pre W=>∃c,Ix c pre W/\W.heap[w.heap.size+1]? =some (.loop (rec .done (some c)))/\W.heap[w.heap.size]? =some (.deferred (some [])))
   W1 ag aQ
   (λ s A B hs hk=>⟨hI s A B hs.1 (zy hk),Dy hk hs.2.1 ag ag,Dy hk hs.2.2 ag ag⟩)
   (λ s A B hs hk=>by
     obtain⟨c,hc,hl,oN⟩:=hs
     exact⟨c,hIx c s A B hc (zy hk),Dy hk hl ag ag,Dy hk oN ag ag⟩)
   ?_ ⟨hI1,sk,hK1⟩).mono ?_
  ·rintro pre x W ⟨hi,hl,hk⟩ gj ot
   have bg:w.heap.size+1<W.heap.size:=(aX hl).1
   have hy:=run_yield (P:=P) (args:=mH x) hl (by rw[j8];exact zx x)
   rw[j8]at hy
   refine⟨fn,_,assign,body,hy,roundIn_of_wpIn Za (fb _ x W _ ⟨_,run_beginRound hl (by rw[j8]),?_⟩)⟩
   have oD:(W.putObj (w.heap.size+1) (.loop {rec .ready none with state:=.busy})).heap[w.heap.size+1]? =some (.loop {rec .ready none with state:=.busy}):=World.putObj_heap_same bg
   have oN:(W.putObj (w.heap.size+1) (.loop {rec .ready none with state:=.busy})).heap[w.heap.size]? =some (.deferred (some [])):=(World.putObj_heap_other ag).T hk
   have da:Kp W (W.putObj (w.heap.size+1) (.loop {rec .ready none with state:=.busy})):=xe _ _ _ _ ag hl rfl
   refine wpIn_mono (kF _ pre x _ (hI _ _ _ hi (dz.putObj _ _ _ _ ag hl rfl)) gj (Qf _ _ _ ot (dz.putObj _ _ _ _ ag hl rfl))) ?_
   have fin:∀(jump:Option Code) (W3:World),KeepsFrom w (W.putObj (w.heap.size+1) (.loop {rec .ready none with state:=.busy})) W3->
    (Instr.endRound (w.heap.size+1) jump).run P W3= .ok (.bool jump.isNone) (W3.putObj (w.heap.size+1) (.loop (rec (if jump.isNone then .ready else .done) jump)))/\
    W3.heap[w.heap.size+1]? =some (.loop {rec .ready none with state:=.busy})/\
    (W3.putObj (w.heap.size+1) (.loop (rec (if jump.isNone then .ready else .done) jump))).heap[w.heap.size+1]? =some (.loop (rec (if jump.isNone then .ready else .done) jump))/\
    (W3.putObj (w.heap.size+1) (.loop (rec (if jump.isNone then .ready else .done) jump))).heap[w.heap.size]? =some (.deferred (some [])):= λ jump W3 fY=>by
    have jx:=fY.same _ _ ag oD rfl
    have:=run_endRound (P:=P) jump jx
    rw[j8]at this⊢
    exact⟨this,by rw[j8]at jx;exact jx,World.putObj_heap_same (aX jx).1,(World.putObj_heap_other ag).T (fY.same _ _ (aW) oN rfl)⟩
   rintro e a3 W3 hp
   cases e with
   |normal=>
    obtain⟨fY,ra,AE⟩:=hp
    obtain⟨hr,jx,Dz,DA⟩:=fin none W3 fY
    exact⟨_,_,hr,.inl ⟨rfl,⟨hI _ _ _ AE (dz.putObj _ _ _ _ ag jx rfl),Dz,DA⟩,rY (rY da ra) (xe _ _ _ _ ag jx rfl)⟩⟩
   |ret=>
    obtain⟨fY,ra,AE⟩:=hp
    obtain⟨hr,jx,Dz,DA⟩:=fin (some .ret) W3 fY
    exact⟨_,_,hr,.inr ⟨rfl,⟨.ret,hIx _ _ _ _ AE (dz.putObj _ _ _ _ ag jx rfl),Dz,DA⟩,rY (rY da ra) (xe _ _ _ _ ag jx rfl)⟩⟩
   |exit id=>
    obtain⟨fY,ra,AE⟩:=hp
    obtain⟨hr,jx,Dz,DA⟩:=fin (some (.exit id)) W3 fY
    exact⟨_,_,hr,.inr ⟨rfl,⟨.exit id,hIx _ _ _ _ AE (dz.putObj _ _ _ _ ag jx rfl),Dz,DA⟩,rY (rY da ra) (xe _ _ _ _ ag jx rfl)⟩⟩
   |goto t=>
    obtain⟨fY,ra,AE⟩:=hp
    obtain⟨hr,jx,Dz,DA⟩:=fin (some (.goto t)) W3 fY
    exact⟨_,_,hr,.inr ⟨rfl,⟨.goto t,hIx _ _ _ _ AE (dz.putObj _ _ _ _ ag jx rfl),Dz,DA⟩,rY (rY da ra) (xe _ _ _ _ ag jx rfl)⟩⟩
   |panic ch=>exact hp.elim
   |outgrown=>exact hp.elim
  ·rintro e W2 ⟨⟨v,rfl⟩,(⟨s,hs,hi,hl,hk⟩|⟨pre,hSp,c,hi,hl,hk⟩),Rf⟩
   ·exact⟨none,_,by have:=run_endLoop (P:=P) hl (by rw[j8];simp);rw[j8]at this;exact this,kG _ s _ (aW) hs (hI _ _ _ hi (dz.putObj _ _ _ _ ag hl rfl)) (hE _ _ _ _ ag hl rfl Rf) ((World.putObj_heap_other ag).T hk)⟩
   ·exact⟨some c,_,by have:=run_endLoop (P:=P) hl (by rw[j8];simp);rw[j8]at this;exact this,kH _ c pre _ (aW) hSp (hIx c _ _ _ hi (dz.putObj _ _ _ _ ag hl rfl)) (hE _ _ _ _ ag hl rfl Rf) ((World.putObj_heap_other ag).T hk)⟩
theorem Va{α:Type}{g:Operand}{ps:Array Tmp}{a:Act}
 (h1:5<=n)(hg:a.eval g= .func (.func gf) #[] lb)(eg:∀args w,(callFunc gf args).run P w= .ok (.enter gf args) w)
 {mH:α->Array Value}{Kp:World->World->Prop}{dw:Nat->Prop}{xs:List α}(mf:Gx P gf lb mH Kp dw E xs w0)
 (rY:∀{A B C:World},Kp A B->Kp B C->Kp A C)(xe:∀(W:World) (l:Nat) (o o':Obj),w.heap.size<=l->W.heap[l]? =some o->o.isCells=false->Kp W (W.putObj l o'))(iL:Below w0 w0 w)(zx:∀x,(mH x).size=ps.size)
 (mI:∀k,dw k->k<w.heap.size)
 (I:List α->World->Prop)(Ix:Code->List α->World->Prop)(hI:∀s A B,I s A->dz w dw A B->I s B)(hIx:∀c s A B,Ix c s A->dz w dw A B->Ix c s B)(hE:∀(W:World) (l:Nat) (o o':Obj),w.heap.size<=l->W.heap[l]? =some o->o.isCells=false->E W->E (W.putObj l o'))(h0:I [] w)(B4:α->Act)
 (fb:∀(l:Nat) (x:α) (W:World) (K:Act->World->Prop),K (B4 x) W->
   assign.wpIn (Fence.wide.inRound l) (n - 1 - 1) P (Exit.then K (λ _ _ _=>False)) {tmps:=(ps.zip (mH x)).foldl (λ t (p,v)=>t.setIfInBounds p v) a.tmps,defers:=[]} W)
 (kF:∀(l:Nat) (pre:List α) (x:α) (W:World),I pre W->pre++[x]<+:xs->body.wpIn (Fence.wide.inRound l) (n - 1 - 1) P (xt w.heap.size Kp I Ix (pre++[x]) W) (B4 x) W)
 (kG:∀(D:Nat) (W:World),w.heap.size<=D->I xs W->E W->W.heap[D]? =some (.deferred (some []))->Q .normal {a with defers:={target:=.collected D,args:=#[]}::a.defers} W)
 (kH:∀(D:Nat) (c:Code) (pre:List α) (W:World),w.heap.size<=D->pre<+:xs->Ix c pre W->E W->W.heap[D]? =some (.deferred (some []))->c.wpIn Fence.wide n P Q {a with defers:={target:=.collected D,args:=#[]}::a.defers} W):
 (Code.rangeFunc g ps assign body).wpIn Fence.wide n P Q a w:=
 Ng h1 hg eg mf.g (λ _ _ _ h _=>h) rY xe iL zx mI I Ix hI hIx hE h0 B4 fb (λ l pre x W h1 h2 _=>kF l pre x W h1 h2) (λ D _ W h1 h2 h3=>kG D W h1 (h2▸h3)) kH
abbrev Nh(a:Act)(p1 p2 d1 d2:Tmp)(u v:Value):Act:={tmps:=(((a.tmps.setIfInBounds p1 u).setIfInBounds p2 v).setIfInBounds d1 u).setIfInBounds d2 v,defers:=[]}
theorem Rg{α:Type}{g:Operand}{p1 p2:Tmp}(d1 d2:Tmp){a:Act}
 (h1:5<=n)(hg:a.eval g= .func (.func gf) #[] lb)(eg:∀args w,(callFunc gf args).run P w= .ok (.enter gf args) w)
 {e1 e2:α->Value}{Kp:World->World->Prop}{dw:Nat->Prop}{xs:List α}(mf:Gx P gf lb (λ x=>#[e1 x,e2 x]) Kp dw E xs w)
 (rY:∀{A B C:World},Kp A B->Kp B C->Kp A C)(xe:∀(W:World) (l:Nat) (o o':Obj),w.heap.size<=l->W.heap[l]? =some o->o.isCells=false->Kp W (W.putObj l o'))
 (mI:∀k,dw k->k<w.heap.size)
 (I:List α->World->Prop)(Ix:Code->List α->World->Prop)(hI:∀s A B,I s A->dz w dw A B->I s B)(hIx:∀c s A B,Ix c s A->dz w dw A B->Ix c s B)(hE:∀(W:World) (l:Nat) (o o':Obj),w.heap.size<=l->W.heap[l]? =some o->o.isCells=false->E W->E (W.putObj l o'))(h0:I [] w)
 (fb:∀(l:Nat) (x:α) (W:World) (K:Act->World->Prop),K (Nh a p1 p2 d1 d2 (e1 x) (e2 x)) W->
   assign.wpIn (Fence.wide.inRound l) (n - 1 - 1) P (Exit.then K (λ _ _ _=>False)) {tmps:=(a.tmps.setIfInBounds p1 (e1 x)).setIfInBounds p2 (e2 x),defers:=[]} W)
 (kF:∀(l:Nat) (pre:List α) (x:α) (W:World),I pre W->pre++[x]<+:xs->body.wpIn (Fence.wide.inRound l) (n - 1 - 1) P (xt w.heap.size Kp I Ix (pre++[x]) W) (Nh a p1 p2 d1 d2 (e1 x) (e2 x)) W)
 (kG:∀(D:Nat) (W:World),w.heap.size<=D->I xs W->E W->W.heap[D]? =some (.deferred (some []))->Q .normal {a with defers:={target:=.collected D,args:=#[]}::a.defers} W)
 (kH:∀(D:Nat) (c:Code) (pre:List α) (W:World),w.heap.size<=D->pre<+:xs->Ix c pre W->E W->W.heap[D]? =some (.deferred (some []))->c.wpIn Fence.wide n P Q {a with defers:={target:=.collected D,args:=#[]}::a.defers} W):
 (Code.rangeFunc g #[p1,p2] assign body).wpIn Fence.wide n P Q a w:=
 Va h1 hg eg mf rY xe (dp) (λ _=>rfl) mI I Ix hI hIx hE h0 (λ x=>Nh a p1 p2 d1 d2 (e1 x) (e2 x)) (λ l x W K hK=>by simpa using fb l x W K hK) kF kG kH
section
attribute [local go_sem] Oper.semAt_some
def Vb(x:Nat×Nat):Array Value:=#[.int .i64 (x.1:Int),.int .u8 (x.2:Int)]
theorem df{fz:Nat×Nat}(h:W.heap[B]? =some (.cells (cK b k c) t fz)):
 W.cell? (za B 0)=some (.slice none 0 0)/\W.cell? (za B 1)=some (.slice b k c)/\W.cell? (za B 2)=some (.int .i64 (-1))/\W.cell? (za B 3)=some (.int .i64 (-1))/\W.cell? (za B 4)=some (.bool false):=by
 refine⟨?_,?_,?_,?_,?_⟩<;>simp[World.cell?,h]
theorem aJ{fz:Nat×Nat}(h:W.heap[B]? =some (.cells #[v] t fz)):W.cell? (za B 0)=some v:=by simp[World.cell?,h]
theorem DB(hF:au w0 b c ps)(hm:Marks (al ps))(at_:Nat)(Kl:at_%64≠0)(bg:at_<(al ps).length)
 (X:Nat->Prop)(B B1 B2:Nat)(w:World)(nh:Below w0 w0 w)
 (aQ:w.heap[B1]? =some (.cells (cK b ps.length c) 37))
 (aC:w.heap[B2]? =some (.cells (Au at_) 3))
 (dm:Safe X B w B1)(fZ:Safe X B w B2)(hX:∀k,X k->k<w.heap.size)(hB:B<w.heap.size)(hr:∀k,rowOf B w=some k->k<w.heap.size):
 Gx Tryz.prog 170 (iS (zp B1) (zp B2)) Vb (Lets w0 X B) (λ _=>False) (λ _=>True) (de (al ps) at_) w:=by
 intro n l J Jx W hn kN hJ Nf hY h0
 have hFW:=hF.below (nh.T (kN.mono nh.size))
 have fG:=hF.small
 obtain⟨all,fK⟩:=aK (al ps)
 rw[<-fK]at bg hm fG hY⊢
 obtain⟨N,hN⟩:∃N:Nat,N=all.length:=⟨_,rfl⟩
 rw[<-hN]at bg fG
 have HL:Hid (∀(m:Nat) (w2:World),Below w0 w0 w2->CallsIn Fence.wide m Tryz.prog 133 (Gi (.agg (cK b ps.length c))) w2 λ e w'=>e= .returned (.int .i64 (N:Int))/\Below w2 w2 w'):=
  af λ m w2 h=>callsIn_wide.2 (by have:=MX (hF.below h);rw[<-fK,<-hN]at this;exact this)
 have HR:Hid (∀(m q k:Nat) (w2:World),Below w0 w0 w2->1<=k->q+k<=N->CallsIn Fence.wide m Tryz.prog 171 #[.agg (cK b ps.length c),.int .i64 (q:Int),.int .i64 (k:Int)] w2 λ e w'=>∃C o cp,e= .returned (.tuple (BH (some ⟨C,o,none⟩) k cp))/\w2.heap.size<=C/\(∀(j x:Nat),((all.drop q).take k)[j]? =some x->w'.cell? (za C (o+j))=some (.int .u8 (x:Int)))/\Below w2 w2 w'):=
  af λ m q k w2 h h1 h2=>by
   refine callsIn_wide.2 ?_
   have:=Du (hF.below h) q k h1 (by rw[<-fK,<-hN];exact h2)
   refine this.mono ?_
   rintro e w' ⟨a,kk,rfl,hk,my,kK,hB⟩
   rw[<-fK]at my
   rcases my.2 with h|⟨C,o,rfl,hc⟩
   ·have:=congrArg List.length h
    simp at this;omega
   ·exact⟨C,o,kk,rfl,kK _ rfl,hc,hB⟩
 have HF:=af hF
 have ei:=af nh
 have lJ:=af kN
 have Vc:=(kN.block B1 (aX aQ).1).T aQ
 have Vd:=(kN.block B2 (aX aC).1).T aC
 have hrw:rowOf B W=rowOf B w:=dT (kN.block B hB)
 have Ty:Hid (Safe X B W B1):=af ⟨dm.1,dm.2.1,by rw[hrw];exact dm.2.2⟩
 have C4:Hid (Safe X B W B2):=af ⟨fZ.1,fZ.2.1,by rw[hrw];exact fZ.2.2⟩
 have Qg:Hid (∀k,X k->k<W.heap.size):=af λ k h=>Nat.lt_of_lt_of_le (hX k h) kN.size
 have Ni:Hid (B<W.heap.size):=af (Nat.lt_of_lt_of_le hB kN.size)
 have I2:Hid (∀k,rowOf B W=some k->k<W.heap.size):=af λ k h=>Nat.lt_of_lt_of_le (hr k (hrw▸h)) kN.size
 have Ve:Hid (w0.heap.size<=W.heap.size):=af (Nat.le_trans nh.size kN.size)
 have Hb1:=af Vc
 have Hb2:=af Vd
 have HJ:=af hJ
 have HY:=af hY
 have Hm:=af hm
 have ac7:=af fK
 have HN:=af hN
 have Gy:Hid (Below w0 w0 W):=af (nh.T (kN.mono nh.size))
 obtain⟨c0,c1,c2,c3,c4⟩:=df Vc
 have d0:=aJ Vd
 obtain⟨r,DC⟩:∃r,r=at_%64:=⟨_,rfl⟩
 obtain⟨q0,I3⟩:=aK (at_ - r)
 have e1:(at_:Int).tmod 64=(r:Int):=by rw[Int.tmod_eq_emod_of_nonneg ag];omega
 have e2:(at_:Int) - (r:Int)=(q0:Int):=ag
 have e3:((r:Int)==0)=false:=bV
 have e4:decide (N<=at_)=false:=bV
 have e0:decide ((at_:Int)<0)=false:=by simp
 have e6:(q0:Int)<=524288:=ag
 have j7:q0%64=0:=ag
 have ny:q0<at_:=ag
 have ko:at_<q0+64:=ag
 have HQ:=jo j7 ny ko bg
 clear DC I3 j7 ny ko Kl hF nh kN aQ aC Vc Vd dm fZ hX hB hr hrw hJ Nf hY hm hFW fK hN bg
 refine callsIn_of_wp Tryz.func170 rfl trivial ?_ rfl
 simp only[Tryz.ntmps170,zEn,Nat.reduceAdd,Nat.reduceSub]
 gi_wp2_with first
  |((refine⟨True.intro, λ _=>ag,?_⟩);(with_reducible refine(HL.O _ _ Gy.O).mono ?_);rintro e w2 ⟨rfl,aC⟩;replace c0:=carry aC c0;replace c1:=carry aC c1;replace c2:=carry aC c2;replace c3:=carry aC c3;replace c4:=carry aC c4;replace d0:=carry aC d0;have H2:=af aC;clear aC)
  |fail
 have hL0:Lets w0 X B W w2:=Lets.aA H2.O Ni.O Ve.O
 have Tz:Hid (J [] w2):=af (HJ.O _ _ _ h0 (dz.aA H2.O))
 have HL0:=af hL0
 clear hL0 h0
 gi_loopw [5] (λ fr wr=>∃(q:Nat) (pre:List (Nat×Nat)),fr= .int .i64 (q:Int)/\q%64=0/\q0<=q/\q<=N+64/\Hid (de all at_=pre++de all (max at_ q))/\Hid (J pre wr)/\Hid (Lets w0 X B W wr)) (λ fr _=>N+64 - (intOf fr).toNat)
 case atStart=>exact⟨q0,[],rfl,HQ.O.1,aW,by have:=HQ.O;omega,af (by rw[Nat.max_eq_left (aM HQ.O.2.1)];rfl),Tz,HL0⟩
 case round=>
  obtain⟨q,pre,rfl,Vf,hqq,hqN,zV,hJp,Rh⟩:=hrel
  have k1:=df (Rh.O.ft Ty.O Hb1.O)
  have k2:=aJ (Rh.O.ft C4.O Hb2.O)
  obtain⟨c0,c1,c2,c3,c4⟩:=k1
  have d0:=k2
  by_cases Zb:q<N
  ·obtain⟨m,hm⟩:=aK (min 64 (N - q))
   have Y0:min 64 ((N:Int) - (q:Int))=(m:Int):=ag
   have zO:1<=m:=ag
   have Qa:q+m<=N:=ag
   have HR':=HR.O
   have aH:IntKind.i64.wrap ((N:Int) - (q:Int))=(N:Int) - (q:Int):=by rw[IntKind.wrap_i64];omega
   obtain⟨i0,ou⟩:=aK (max (at_ - q) 1)
   have ko:=HQ.O.2.2.1
   have j7:=HQ.O.1
   have wM:=HQ.O.2.2.2
   have ny:=HQ.O.2.1
   have BW:max ((at_:Int) - (q:Int)) 1=(i0:Int):=ag
   have da:IntKind.i64.wrap ((at_:Int) - (q:Int))=(at_:Int) - (q:Int):=by rw[IntKind.wrap_i64];omega
   have tZ:1<=i0:=ag
   have XI:i0<=m:=ag
   have iZ:de all (max at_ q)=de all (q+i0):=by
    by_cases ha:at_<q
    ·rw[Nat.max_eq_right ag,Nc all q (by rw[<-HN.O];exact Zb),if_pos Vf,show i0=1 by omega]
    ·rw[Nat.max_eq_left ag,show q+i0=at_ by omega]
   have cu:de all (q+m)=de all (max at_ (q+64)):=by
    rw[Nat.max_eq_right ag]
    by_cases h:m=64
    ·rw[h]
    ·rw[BZ all (q+m) (by rw[<-HN.O];omega),BZ all (q+64) (by rw[<-HN.O];omega)]
   have Hst:=af iZ
   have nz:=af cu
   have Hm':=af hm
   have Hi0:=af ou
   have Hq2:=cj ny ko
   have Vg:=af Vf
   clear iZ cu hm ou ny ko HR' Vf wM j7
   gi_wp2_with first
    |((refine⟨True.intro, λ _=>ag,?_⟩);(with_reducible refine(HR.O _ q m _ ?_ zO Qa).mono ?_);(exact Gy.O.T Rh.O.below);rintro e w3 ⟨C,o,cp,rfl,hC,kL,aL⟩;replace c0:=carry aL c0;replace c1:=carry aL c1;replace c2:=carry aL c2;replace c3:=carry aL c3;replace c4:=carry aL c4;replace d0:=carry aL d0;have H3:=af aL;have I4:=af kL;have hz:w3.cell? ⟨C,o,none⟩=some (.int .u8 0):=kL 0 0 (by rw[List.getElem?_take,List.getElem?_drop];have fq:q<all.length:=(by rw[<-HN.O];exact Zb);rw[if_pos ag,Nat.add_zero,List.getElem?_eq_getElem fq];exact congrArg some (Hm.O q Vg.O _ (List.getElem?_eq_getElem fq)));have hmi:(0:Int)<(m:Int):=ag;have ac8:0<m:=zO;clear kL aL)
    |fail
   have mJ:Lets w0 X B wr w3:=Lets.aA H3.O (Nat.lt_of_lt_of_le Ni.O Rh.O.size) (Nat.le_trans Ve.O Rh.O.size)
   have mK:=af (Rh.O.T mJ)
   have DD:Hid (J pre w3):=af (HJ.O _ _ _ hJp.O (dz.aA H3.O))
   have Ri:Hid (Safe X B w3 C):=af (Dw H3.O (λ h=>cG (Qg.O _ h) Rh.O.size) (Nat.lt_of_lt_of_le Ni.O Rh.O.size) (Rh.O.lt I2.O) hC)
   clear mJ
   gi_loopw [8] (λ iv Zc=>∃(i:Nat) (zW:List (Nat×Nat)),iv= .int .i64 (i:Int)/\i0<=i/\i<=m/\Hid (de all at_=zW++de all (q+i))/\Hid (J zW Zc)/\Hid (Lets w0 X B w3 Zc)) (λ iv _=>m - (intOf iv).toNat)
   case atStart=>exact⟨i0,pre,rfl,aW,XI,af (by rw[zV.O,Hst.O]),DD,af (Lets.refl _ _ _ _)⟩
   case round=>
    obtain⟨i,zW,rfl,hii,him,Vh,Zd,Vi⟩:=hrel
    by_cases Ze:i<m
    ·have XL:q+i<all.length:=by rw[<-HN.O];omega
     obtain⟨x,Km⟩:∃x,all[q+i]? =some x:=⟨_,List.getElem?_eq_getElem XL⟩
     have hx:de all (q+i)=(q+i,x)::de all (q+i+1):=by
      rw[Nc all _ XL,if_neg (cG Vg.O Hm'.O)]
      rw[List.getElem?_eq_getElem XL]at Km
      cases Km;rfl
     have xp:w3.cell? (za C (o+i))=some (.int .u8 (x:Int)):=I4.O i _ (by rw[List.getElem?_take,if_pos Ze,List.getElem?_drop,Km])
     have XM:=Vi.O.mG (p:=(za C (o+i))) Ri.O xp
     have gj:zW++[(q+i,x)]<+:de all at_:=⟨de all (q+i+1),by rw[Vh.O,hx];simp⟩
     obtain⟨f1,t1,a1,b1,lA,J8⟩:=HY.O zW (q+i,x) wr Zd.O gj
     have XN:Vb (q+i,x)=#[.int .i64 ((q:Int)+(i:Int)),.int .u8 (x:Int)]:=by simp[Vb]
     rw[XN]at lA
     have qp:(q:Int)+(i:Int)<=1048576:=ag
     have Hx:=af hx
     have abN:=af gj
     have ac9:(i:Int)<(m:Int):=ag
     clear hx XL xp gj XN Km
     gi_wp2_with fail
     refine⟨λ _=>ag,J8.mono ?_⟩
     rintro e w5 (⟨rfl,hJ5,zz⟩|⟨rfl,jG,zz⟩)
     ·gi_wp2_with fail
      go_roundw
      case rel=>exact⟨i+1,zW++[(q+i,x)],by simp,ag,ag,af (by rw[Vh.O,Hx.O];simp[Nat.add_assoc]),af hJ5,af (Vi.O.T zz)⟩
      case measure=>simp[intOf];omega
     ·gi_wp2_with fail
      refine bodyPost_ret (results_none rfl _ _ _) rfl ?_
      exact⟨⟨_,rfl⟩,.inr ⟨_,abN.O,jG⟩,trivial⟩
    ·have hie:i=m:=ag
     subst hie
     gi_wp2_with fail
     go_roundw
     case rel=>exact⟨q+64,zW,by simp,by have:=Vg.O;omega,ag,ag,af (by rw[Vh.O,nz.O]),Zd,af (mK.O.T Vi.O)⟩
     case measure=>simp[intOf];omega
  ·have he:de all (max at_ q)=[]:=BZ all _ (by rw[<-HN.O];omega)
   have iX:=af (show J (de all at_) wr by rw[zV.O,he,List.append_nil];exact hJp.O)
   clear he
   gi_wp2
   go_end0
   exact⟨⟨_,rfl⟩,.inl iX.O,trivial⟩
end
end Go.Proofs.YtkgapncajjafoaaGreatDoor

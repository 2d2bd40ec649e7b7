/- The store, part 7. -/
import Derived.Test.YtbiififbfefkjaaGreatDoorMAe
set_option linter.unusedSimpArgs false
set_option linter.unusedVariables false
set_option maxRecDepth 100000
set_option maxHeartbeats 16000000
namespace Go.Proofs.YtbiififbfefkjaaGreatDoor
open Go.RowKit Go.Shelf
variable{ps:List Piece}{w:World}{c i:Nat}{xs ys:List Nat}
section
attribute [-go_sem] Builtin.append_
theorem SS(W:World):(Builtin.append_ #[28,28] 28 #[.slice none 0 0,.slice none 0 0]).run Tryz.prog W= .ok (.slice none 0 0) W:=by obtain⟨i0,hi,_,j5,vr⟩:=info_parts Tryz.sU;exact run_append_owned_none (P:=Tryz.prog) (w:=W) 0 28 28 5 i0 1 bU hi (.slice none 0 0) 0 [] ⟨rfl,.inl ⟨rfl,rfl⟩⟩
theorem Fw{j:Nat}{p:Piece}(h:ps[j]? =some p):aw (ps.take (j+1))=aw (ps.take j)++p.2.1:=by unfold aw;rw[aL,h];simp
theorem MR{b:az}(hF:aQ w b c ps):
 Calls Tryz.prog 28 #[bN b ps.length c] w λ e w'=>∃a k,e= .returned (.slice a (aw ps).length k)/\ay w' a (aw ps)/\Below w w w':=by
 obtain⟨L,hL⟩:=bL ps.length;obtain⟨w1,bY⟩:=bL (w.alloc (.cells (fA b L c) 31));have cN:Below w w w1:=by rw[bY];go_grown
 have j5:w1.heap.size=w.heap.size+1:=by rw[bY];simp
 have ahc:=SS w1;rw[bY]at ahc;have vb:=ag (λ (w2:World) (h:Below w1 w1 w2)=>(vP (b:=b) (k:=L) (c:=c) (t:=31) (w:=w) (w2:=w2) (by rw[<-bY];exact h)));have HF:=ag hF;have hL5:(L:Int)<=524288:=cm hF.LB;have HL:=ag hL;have H1:=dO cN j5;have HW:=ag bY;rw[<-hL];clear hF hL cN j5 bY;go_enter Tryz.func28,Tryz.ntmps28;unfold bN
 go_wp2_with fail
 rw[<-HW.O]
 go_loopw [3,4] (λ rv iv wr=>∃j:Nat,j<=L/\iv= .int .i64 (j:Int)/\∃q m k,rv= .slice q m k/\Hid (m=(aw (ps.take j)).length/\wr.ownsRow (w+1) 5 1 (.slice q m k) m (bE (aw (ps.take j))))/\Hid (Below (w+1) w1 wr)) (λ _ iv _=>L - (intOf iv).toNat)
 case atStart=>exact⟨0,aD _,rfl,none,0,0,rfl,ag ⟨rfl,rfl,.inl ⟨rfl,rfl⟩⟩,ag (gb)⟩
 case round=>
  obtain⟨j,hj,rfl,q,m,k,rfl,bA,hB⟩:=hrel;obtain⟨f0,f1,f2,f3,f4⟩:=vb.O wr (by rw[H1.O.2];exact hB.O);have hB0:=H1.O.1.T (hB.O.mono (bk _));have kA:w.heap.size+1<=wr.heap.size:=iX hB.O.size H1.O.2;by_cases cL:j<L
  ·have mn:(j:Int)<(L:Int):=an;obtain⟨p,hp⟩:∃p,ps[j]? =some p:=⟨_,aB (cm HL.O)⟩;obtain⟨B,o,hA,hc⟩:∃B o,b=some ⟨B,o,none⟩/\∀(j:Nat) (p:Piece),ps[j]? =some p->w.cell? (za B (o+j))=some (.slice p.1 p.2.1.length p.2.2):=by
    rcases HF.O.pieces.1 with h|h
    ·rw[h]at hp;simp at hp
    ·exact h
   obtain⟨dN,_,iL⟩:=HF.O.pieces.2 p (ak hp);have dK:=carry hB0 (hc j p hp);have hlp:1<=p.2.1.length:=gZ.2 dN;obtain⟨Bp,op,hpa⟩:∃Bp op,p.1=some ⟨Bp,op,none⟩:=by
    rcases iL.2 with h|⟨Bp,op,h,_⟩
    ·exact absurd h dN
    ·exact⟨Bp,op,h⟩
   have adk:=iL.below hB0;rw[hpa]at adk dK;have lH:=Fw hp;have hle:=lD ps (j+1);have jN:=HF.O.small;have hlen:(aw (ps.take (j+1))).length=m+p.2.1.length:=by rw[lH,ar,bA.O.1]
   obtain⟨g',c',w5,eh,r6,Iz⟩:=fg (cc:=p.2.2) bA.O.2 adk rfl hlp an kA;rw[<-lH]at r6;have HE:=ag (show Hid (m+p.2.1.length=(aw (ps.take (j+1))).length/\w5.ownsRow (w+1) 5 1 (.slice (zp g') (m+p.2.1.length) c') (m+p.2.1.length) (bE (aw (ps.take (j+1)))))from ag ⟨hlen.symm,r6⟩);have HB:=ag (hB.O.T Iz.below);subst hA;generalize p.2.1.length=pl at*;generalize p.2.2=pc at*;clear hc dN iL adk lH hle jN hlen r6 Iz bA hp hpa cL hj
   go_wp2_with fail
   exact⟨⟨j+1,an,by simp,_,_,_,rfl,HE.O,HB⟩,by simp[intOf];omega⟩
  ·obtain rfl:j=L:=an;have hr:=bA.O;rw[show ps.take j=ps by rw[HL.O,bd]]at hr;have iL:ay wr q (aw ps):=by
    rcases bg hr.2 with⟨rfl,h0,_⟩|⟨g,cur,rfl,_,_⟩
    ·have:aw ps=[]:=cw.1 (by rw[<-hr.1];exact h0);rw[this];exact ay.nil _ _
    ·refine(dk hr.2 λ x hx=>?_).1;obtain⟨p,hp,hx⟩:=ck.1 hx;exact(HF.O.pieces.2 p hp).2.2.1 x hx
   have HE:=dO hr.1 iL;have HB:=ag hB0;clear hr iL bA cL hj
   go_wp2_with fail
   go_ret;exact⟨q,k,by rw[<-HE.O.1];rfl,HE.O.2,HB.O⟩
end
theorem SU{b:az}(hF:aQ w b c ps):
 Calls Tryz.prog 96 #[bN b ps.length c] w λ e w'=>e= .returned (.int .i64 ((aw ps).length:Int))/\Below w w w':=by
 obtain⟨L,hL⟩:=bL ps.length;obtain⟨w1,bY⟩:=bL (w.alloc (.cells (fA b L c) 31));have cN:Below w w w1:=by rw[bY];go_grown
 have j5:w1.heap.size=w.heap.size+1:=by rw[bY];simp
 obtain⟨f0,f1,f2,f3,f4⟩:=vP (b:=b) (k:=L) (c:=c) (t:=31) (w:=w) (w2:=w1) (by rw[<-bY];exact gb);have HF:=ag hF;have hL5:(L:Int)<=524288:=cm hF.LB;have HL:=ag hL;have H1:=ag cN;have HW:=ag bY;rw[<-hL];clear hF hL cN j5 bY;go_enter Tryz.func96,Tryz.ntmps96;unfold bN
 go_wp2_with fail
 rw[<-HW.O]
 go_loopw [3,4] (λ rv iv wr=>∃j:Nat,j<=L/\iv= .int .i64 (j:Int)/\∃m:Nat,rv= .int .i64 (m:Int)/\Hid (m=(aw (ps.take j)).length)/\wr=w1) (λ _ iv _=>L - (intOf iv).toNat)
 case atStart=>exact⟨0,aD _,rfl,0,rfl,ag rfl,rfl⟩
 case round=>
  obtain⟨j,hj,rfl,m,rfl,hm,rfl⟩:=hrel;have hm5:(m:Int)<=524288:=Ig (lD ps j) HF.O.small hm.O;by_cases cL:j<L
  ·have mn:(j:Int)<(L:Int):=an;obtain⟨p,hp⟩:∃p,ps[j]? =some p:=⟨_,aB (cm HL.O)⟩;obtain⟨B,o,hA,hc⟩:∃B o,b=some ⟨B,o,none⟩/\∀(j:Nat) (p:Piece),ps[j]? =some p->w.cell? (za B (o+j))=some (.slice p.1 p.2.1.length p.2.2):=by
    rcases HF.O.pieces.1 with h|h
    ·rw[h]at hp;simp at hp
    ·exact h
   have dK:=carry H1.O (hc j p hp);have HE:=ag (show Hid (m+p.2.1.length=(aw (ps.take (j+1))).length)from ag (by rw[Fw hp,ar,hm.O]));have hle:=lD ps (j+1);have jN:=HF.O.small;have BP:(m:Int)+(p.2.1.length:Int)<=524288:=cm HE.O.O;subst hA;generalize p.2.1.length=pl at*;generalize p.2.2=pc at*;generalize p.1=pa at*;clear hc hle jN hp cL hj hm
   go_wp2_with fail
   exact⟨⟨j+1,an,by simp,m+pl,by simp,HE.O,trivial⟩,by simp[intOf];omega⟩
  ·obtain rfl:j=L:=an;have hr:=hm.O;rw[show ps.take j=ps by rw[HL.O,bd]]at hr;have HR:=ag hr;clear hr cL hj hm
   go_wp2_with fail
   go_ret;exact⟨by rw[<-HR.O];rfl,H1.O⟩
theorem VX{b:az}(hF:aQ w b c ps)(more:Nat)(hm:(aw ps).length+more<=524288):
 Calls Tryz.prog 58 #[bN b ps.length c,.int .i64 (more:Int)] w λ e w'=>e= .returned (.tuple #[bN b ps.length c,.int .i64 0])/\Below w w w':=by
 obtain⟨L,hL⟩:=bL ps.length;have VY:= λ (w2:World) (h:Below w w w2)=>SU (hF.below h);have jN:((aw ps).length:Int)+(more:Int)<=524288:=an;generalize(aw ps).length=al at*;rw[<-hL]at VY⊢;have HL:=ag VY;have H0:Hid (Below w w ((w.alloc (.cells (fA b L c) 31)).alloc (.cells kF 31))):=ag bW;clear hF VY hL;go_enter Tryz.func58,Tryz.ntmps58;unfold bN at*
 go_wp2_with first
  |((with_reducible refine(HL.O _ H0.O).mono ?_);rintro e w2 ⟨rfl,bG⟩;have H2:=ag (H0.O.T (bG.mono H0.O.size));obtain⟨l8,hR⟩:=bu bG;obtain⟨c0,c1,c2,c3,c4⟩:=dF l8;have r0:=af hR 0;have r1:=af hR 1;have r2:=af hR 2;have r3:=af hR 3;have r4:=af hR 4;have f0:=ax hR 0;have f1:=ax hR 1;have f2:=ax hR 2;have f3:=ax hR 3;have f4:=ax hR 4;simp only[cW]at r0 r1 r2 r3 r4;have O0:=ag hR;clear l8 hR bG)
  |fail
 refine bodyPost_ret (v:=.tuple (vm (.agg (fA b L c)))) ?_ bp ?_
 ·rw[results_cell_tmp rfl];have hs:=af (Cp (v0:=.slice none 0 0) (v1:=.slice b L c) (v2:=.int .i64 (-1)) (v3:=.int .i64 (-1)) (v4:=.bool false) O0.O);exact nN
 ·exact⟨rfl,H2.O.T (iw an)⟩
section
attribute [local go_sem] Oper.semAt_some
def ltB(a b:List Nat):Bool:=decide (cmpL a b= -1)
theorem XI{x y:Nat}(hx:xs[i]? =some x)(hy:ys[i]? =some y):cmpL (xs.drop i) (ys.drop i)=if x<y then-1 else if y<x then 1 else cmpL (xs.drop (i+1)) (ys.drop (i+1)):=by obtain⟨h1,rfl⟩:=aC.1 hx;obtain⟨h2,rfl⟩:=aC.1 hy;rw[bI h1,bI h2,cmpL]
theorem RR(h:i=xs.length\/i=ys.length)(h1:i<=xs.length)(h2:i<=ys.length):decide (cmpL (xs.drop i) (ys.drop i)= -1)=decide (xs.length<ys.length):=by
 rcases h with rfl|rfl
 ·rw[gH];by_cases h:xs.length<ys.length
  ·rw[bI h];simp[cmpL,h]
  ·rw[dh an];simp[cmpL,h]
 ·rw[gH];cases hd:xs.drop ys.length<;>simp[cmpL]<;>omega
theorem Qn{a b:az}(c d:Nat)(hx:ay w a xs)(hy:ay w b ys)(h1:xs.length<=1000)(h2:ys.length<=1000):
 Calls Tryz.prog 62 (fP a xs.length c b ys.length d) w λ e w'=>e= .returned (.bool (ltB xs ys))/\Below w w w':=by
 obtain⟨n,hn⟩:=bL xs.length;obtain⟨m,hm⟩:=bL ys.length;have kH:(n:Int)<=1000:=an;have Mg:(m:Int)<=1000:=an;have HX:=ag hx;have HY:=ag hy;have HN:=dO hn hm;have HL:Hid (ltB xs ys=decide (cmpL xs ys= -1)):=ag rfl;rw[<-hn,<-hm];clear hx hy h1 h2 hn hm;go_enter Tryz.func62,Tryz.ntmps62
 go_wp2_with fail
 go_loopw [5] (λ iv wr=>∃i:Nat,i<=n/\i<=m/\iv= .int .i64 (i:Int)/\Hid (cmpL xs ys=cmpL (xs.drop i) (ys.drop i))/\Hid (Below w w wr)) (λ iv _=>n - (intOf iv).toNat)
 case atStart=>exact⟨0,aD _,aD _,rfl,ag rfl,ag (gb)⟩
 case round=>
  obtain⟨i,hi,him,rfl,hc,hB⟩:=hrel;by_cases cL:i<n
  ·have ve:(i:Int)<(n:Int):=an;by_cases hlm:i<m
   ·have hdm:decide ((i:Int)<(m:Int))=true:=dU;obtain⟨x,hx⟩:∃x,xs[i]? =some x:=⟨_,aB (cm HN.O.1)⟩;obtain⟨y,hy⟩:∃y,ys[i]? =some y:=⟨_,aB (cm HN.O.2)⟩;obtain⟨A,o,rfl,hca⟩:∃A o,a=some ⟨A,o,none⟩/\∀(j:Nat) (x:Nat),xs[j]? =some x->w.cell? (za A (o+j))=some (.int .u8 (x:Int)):=by
     rcases HX.O.2 with h|h
     ·rw[h]at hx;cases hx
     ·exact h
    obtain⟨B,p,rfl,hcb⟩:∃B o,b=some ⟨B,o,none⟩/\∀(j:Nat) (x:Nat),ys[j]? =some x->w.cell? (za B (o+j))=some (.int .u8 (x:Int)):=by
     rcases HY.O.2 with h|h
     ·rw[h]at hy;cases hy
     ·exact h
    have cx:=carry hB.O (hca i x hx);have cy:=carry hB.O (hcb i y hy);have hd:=XI hx hy;rw[<-hc.O]at hd;have HBD:Hid (Below w w wr.drew):=ag hB.O.drew;by_cases UO:x=y
    ·subst UO;have HC:Hid (cmpL xs ys=cmpL (xs.drop (i+1)) (ys.drop (i+1))):=ag (by rw[hd];simp);clear hd hc hx hy hca hcb him
     go_wp2_with fail
     refine bP 9 ?_;refine tP [0,1,2,3,4,5,6,7,8] ?_
     iterate 9 refine tO ?_
     refine au 0 rfl ?_;refine dP ?_;go_simp
     go_wp2_with fail
     exact⟨⟨i+1,an,an,by simp,HC,HBD⟩,by simp[intOf];omega⟩
    ·have dN:((x:Int)==(y:Int))=false:=dU;have WL:¬ (x:Int)=(y:Int):=an;have HR:Hid (ltB xs ys=decide (x<y)):=ag (by
      rw[HL.O,hd];by_cases h:x<y
      ·simp[h]
      ·have:y<x:=an;simp[h,this])
     have HBE:Hid (Below w w wr.drew.drew):=ag HBD.O.drew;clear hd hc hx hy hca hcb UO
     go_wp2_with fail
     refine bP 9 ?_;refine tP [0,1,2,3,4,5,6,7,8] ?_
     iterate 9 refine tO ?_
     refine au 0 rfl ?_;refine dP ?_;go_simp
     go_wp2_with fail
     refine bP 10 ?_;refine tP [0,1,2,3,4,5,6,7,8,9] ?_
     iterate 10 refine tO ?_
     refine au 0 rfl ?_;refine dP ?_;go_simp
     go_wp2_with fail
     go_ret;exact⟨by rw[HR.O];rfl,HBE.O⟩
   ·have hdm:decide ((i:Int)<(m:Int))=false:=dU;have HR:Hid (ltB xs ys=decide (n<m)):=ag (by
     rw[HL.O,hc.O,RR (.inr (cm HN.O.2)) (cm HN.O.1) (cm HN.O.2),<-HN.O.1,<-HN.O.2])
    clear hdm
    go_wp2_with fail
    go_ret;exact⟨by rw[HR.O];rfl,hB.O⟩
  ·obtain rfl:i=n:=an;have HR:Hid (ltB xs ys=decide (i<m)):=ag (by
    rw[HL.O,hc.O,RR (.inl (cm HN.O.1)) (cm HN.O.1) (cm HN.O.2),<-HN.O.1,<-HN.O.2])
   clear cL
   go_wp2_with fail
   go_ret;exact⟨by rw[HR.O];rfl,hB.O⟩
theorem Uc(k v:az)(n c m d:Nat)(h1:1<=n)(h2:n<=120)(h3:m<=100)(w:World):
 Calls Tryz.prog 63 (BX (.agg (il k n c v m d))) w λ e w'=>e= .returned (.bool true)/\Below w w w':=by
 have e1:decide ((1:Int)<=(n:Int))=true:=dU;have e2:decide ((n:Int)<=120)=true:=dU;have e3:decide ((m:Int)<=100)=true:=dU;have e4:(1:Int)<=(n:Int):=an;go_enter Tryz.func63,Tryz.ntmps63
 go_wp2_with fail
 go_ret;exact⟨rfl,by go_grown⟩
end
end Go.Proofs.YtbiififbfefkjaaGreatDoor

/- The store, part 8. -/
import Derived.Test.YtbiififbfefkjaaGreatDoorMAe
set_option linter.unusedSimpArgs false
set_option linter.unusedVariables false
set_option maxRecDepth 100000
set_option maxHeartbeats 16000000
namespace Go.Proofs.YtbiififbfefkjaaGreatDoor
open Go.RowKit Go.Shelf
section
attribute [-go_sem] Builtin.append_
def S5(n j:Nat):Int:=if j=0 then-1 else(db n:Int)
theorem FH(n:Nat)(xs:List Nat){j x:Nat}(hx:xs[j]? =some x):ed n (xs.take (j+1))=ny n (ed n (xs.take j)) x:=by rw[aL,hx,fY,Jb]
theorem Na{w:World}{a b:az}(c cb:Nat){all xs:List Nat}(hA:ay w a all)(hm:Marks all)(hl:all.length<=524288)(hX:ay w b xs)(h1:1<=xs.length)(h2:xs.length<=5000):
 Calls Tryz.prog 27 (fP a all.length c b xs.length cb) w λ e w'=>∃B k,e= .returned (.tuple (acM (zp B) (ed all.length xs).length k (db all.length:Int)))/\ay w' (zp B) (ed all.length xs)/\(ed all.length xs).length<=k/\Below w w w':=by
 obtain⟨Bx,ox,rfl,Ca⟩:∃B o,b=some ⟨B,o,none⟩/\∀(j:Nat) (x:Nat),xs[j]? =some x->w.cell? (za B (o+j))=some (.int .u8 (x:Int)):=by
  rcases hX.2 with h|h
  ·rw[h]at h1;simp at h1
  ·exact h
 have G5:∀(n:Nat),n=all.length->n%64≠0->∃Ba oa,a=some ⟨Ba,oa,none⟩/\w.cell? ⟨Ba,oa+(n - n%64),none⟩=some (.int .u8 0):= λ n hn h=>by
  rcases hA.2 with h0|⟨Ba,oa,e,hc⟩
  ·rw[hn,h0]at h;simp at h
  ·have cL:n - n%64<all.length:=an;have hx:=hm (n - n%64) an _ (aB cL);have:=hc (n - n%64) _ (aB cL);rw[hx]at this;exact⟨Ba,oa,e,this⟩
 have afj:=hX.1;obtain⟨n,hn⟩:=bL all.length;obtain⟨L,hL⟩:=bL xs.length;have hMK:=G5 n hn;rw[<-hn,<-hL];have Zo:(n:Int)<=524288:=an;have hL5:(L:Int)<=5000:=an;have HL:=ag hL;have H1:=ag h1;have HX:=ag Ca;have HXL:=ag afj;clear hA hm hl hX h1 h2 Ca G5 hn afj hL;go_enter Tryz.func27,Tryz.ntmps27;have abO:Hid ((0:Nat)=(ed n (xs.take 0)).length/\w.ownsRow w 5 1 (.slice none 0 0) 0 (bE (ed n (xs.take 0)))):=ag ⟨rfl,rfl,.inl ⟨rfl,rfl⟩⟩;by_cases UF:n%64=0
 case' pos=>
  have hi:(n:Int)%64=0:=an;clear hMK
  go_wp2_with fail
 case' neg=>
  obtain⟨Ba,oa,rfl,hz⟩:=hMK UF;have hi:¬ (n:Int)%64=0:=an
  go_wp2_with fail
  clear hz
 all_goals
  go_loopw [6,8,9] (λ rv av iv wr=>∃j:Nat,j<=L/\iv= .int .i64 (j:Int)/\av= .int .i64 (S5 n j)/\∃q m k,rv= .slice q m k/\Hid (m=(ed n (xs.take j)).length/\wr.ownsRow w 5 1 (.slice q m k) m (bE (ed n (xs.take j))))/\Hid (Below w w wr)) (λ _ _ iv _=>L - (intOf iv).toNat)
  case atStart=>exact⟨0,aD _,rfl,rfl,none,0,0,rfl,abO,ag (gb)⟩
  case round=>
   obtain⟨j,hj,rfl,rfl,q,m,k,rfl,bA,hB⟩:=hrel;by_cases cL:j<L
   ·have mn:(j:Int)<(L:Int):=an;obtain⟨x,hx⟩:∃x,xs[j]? =some x:=⟨_,aB (cm HL.O)⟩;have Zp:m<=10000:=by
     have e:=bA.O.1;have h2:=Fj n (xs.take j);rw[aX]at h2;omega
    have hz:=FH n xs hx;obtain⟨g1,c1,w1,ID,C8,yL⟩:=gP 0 0 rfl bA.O.2 an hB.O.size;obtain⟨g2,c2,w2,Ck,oO,jk⟩:=gP x (x:Int) rfl C8 an (aj hB.O.size yL.below.size);obtain⟨g3,c3,w3,we,nL,pz⟩:=gP x (x:Int) rfl bA.O.2 an hB.O.size;have zH:j=0->m=0:= λ h=>by have:=bA.O.1;rw[h]at this;simpa[ed]using this
    have Rq:=bA.O.1;by_cases hq:(n+m)%64=0
    ·have hqi:((n:Int)+(m:Int))%64=0:=an;have dK:=carry (hB.O.T yL.below) (HX.O j x hx);have HE:=ag (show Hid (m+1+1=(ed n (xs.take (j+1))).length/\w2.ownsRow w 5 1 (.slice (zp g2) (m+1+1) c2) (m+1+1) (bE (ed n (xs.take (j+1)))))from ag (by
      rw[hz,ny,if_pos (by rw[<-Rq];exact hq)];exact⟨by simp[<-Rq],oO⟩))
     have HB:=ag ((hB.O.T yL.below).T jk.below);by_cases Db:j=0
     ·have adq:(j:Int)=0:=an;rw[Db,bb]at dK;have Hj:=ag (show S5 n (j+1)=(n:Int)+((m:Int)+1)by have:=zH Db;unfold S5 db;rw[if_neg an,if_pos an];omega);clear zH C8 oO nL yL jk pz we hz bA hx Db Rq
      go_wp2_with fail
      exact⟨⟨j+1,an,by simp;omega,by rw[Hj.O],_,_,_,rfl,HE.O,HB⟩,by simp[intOf];omega⟩
     ·have adq:¬ (j:Int)=0:=an;have Hj:=ag (show S5 n (j+1)=S5 n j by unfold S5;rw[if_neg an,if_neg Db]);clear zH C8 oO nL yL jk pz we hz bA hx Db Rq
      go_wp2_with fail
      exact⟨⟨j+1,an,by simp,by rw[Hj.O],_,_,_,rfl,HE.O,HB⟩,by simp[intOf];omega⟩
    ·have hqi:¬ ((n:Int)+(m:Int))%64=0:=an;have dK:=carry hB.O (HX.O j x hx);have HE:=ag (show Hid (m+1=(ed n (xs.take (j+1))).length/\w3.ownsRow w 5 1 (.slice (zp g3) (m+1) c3) (m+1) (bE (ed n (xs.take (j+1)))))from ag (by
      rw[hz,ny,if_neg (by rw[<-Rq];exact hq)];exact⟨by simp[<-Rq],nL⟩))
     have HB:=ag (hB.O.T pz.below);by_cases Db:j=0
     ·have adq:(j:Int)=0:=an;rw[Db,bb]at dK;have Hj:=ag (show S5 n (j+1)=(n:Int)+(m:Int)by have:=zH Db;unfold S5 db;rw[if_neg an,if_neg an];omega);clear zH C8 oO nL yL jk pz ID Ck hz bA hx Db Rq
      go_wp2_with fail
      exact⟨⟨j+1,an,by simp;omega,by rw[Hj.O],_,_,_,rfl,HE.O,HB⟩,by simp[intOf];omega⟩
     ·have adq:¬ (j:Int)=0:=an;have Hj:=ag (show S5 n (j+1)=S5 n j by unfold S5;rw[if_neg an,if_neg Db]);clear zH C8 oO nL yL jk pz ID Ck hz bA hx Db Rq
      go_wp2_with fail
      exact⟨⟨j+1,an,by simp,by rw[Hj.O],_,_,_,rfl,HE.O,HB⟩,by simp[intOf];omega⟩
   ·obtain rfl:j=L:=an;have hLs:=HL.O;have hr:=bA.O.2;have Rq:=bA.O.1;have mU:S5 n j=(db n:Int):=by unfold S5;rw[if_neg (cm H1.O)]
    rw[hLs,bd]at hr Rq;have dN:ed n xs≠[]:=by have hL0:0<xs.length:=H1.O;have e:ed n (xs.take (xs.length - 1+1))=_:=FH n xs (aB (show xs.length - 1<xs.length by omega));rw[show xs.length - 1+1=xs.length by omega,bd]at e;rw[e,ny];simp
    rcases bg hr with⟨_,h0,_⟩|⟨g,cur,rfl,hg,_⟩
    ·rw[h0]at Rq;exact absurd (cw.1 Rq.symm) dN
    ·obtain⟨iL,tw,_⟩:=dk hr (Kk xs n HXL.O);have HF:=ag (show(∃B,g=B)/\m=(ed n xs).length/\ay wr (zp g) (ed n xs)/\m<=k from⟨⟨g,rfl⟩,Rq,iL,tw⟩);rw[mU];clear hr Rq iL tw mU dN hLs bA hg
     go_wp2_with fail
     go_ret2;exact⟨g,k,by rw[<-HF.O.2.1];rfl,HF.O.2.2.1,by rw[<-HF.O.2.1];exact HF.O.2.2.2,hB.O⟩
end
end Go.Proofs.YtbiififbfefkjaaGreatDoor

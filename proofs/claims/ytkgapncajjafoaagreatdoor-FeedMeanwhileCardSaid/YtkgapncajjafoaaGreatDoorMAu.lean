/- The store, part 21. -/
import Derived.Test.YtkgapncajjafoaaGreatDoorMAa
import Derived.Test.YtkgapncajjafoaaGreatDoorMAt
set_option maxRecDepth 100000
set_option maxHeartbeats 16000000
namespace Go.Proofs.YtkgapncajjafoaaGreatDoor
open Go.RowKit Go.Shelf
variable{es:List aG}{n:Int}{q k:Nat}
def j5(k:Nat)(l:List aG):Nat:=match l.getLast? with|none=>k|some x=>x.s
theorem P2(hr:es.Pairwise λ x y=>x.s<y.s)(k:Nat)(hn:1<=n):es.filter (λ x=>decide (j5 k (eS es k n)<x.s))=(es.filter λ x=>decide (k<x.s)).drop n.toNat:=by
 obtain⟨F,hF⟩:=aK (es.filter λ x=>decide (k<x.s))
 have hb:eS es k n=F.take n.toNat:=by unfold eS;rw[hF]
 rw[hb,<-hF]
 have hFr:F.Pairwise λ x y=>x.s<y.s:=by rw[hF];exact hr.filter _
 have hFk:∀x∈F,k<x.s:= λ x hx=>by rw[hF]at hx;exact of_decide_eq_true (List.mem_filter.1 hx).2
 rcases og (F.take n.toNat)with h0|⟨A,x,hA⟩
 ·have hF0:F=[]:=by
   rcases F with _|⟨y,F⟩
   ·rfl
   ·obtain⟨m,hm⟩:∃m,n.toNat=m+1:=⟨n.toNat - 1,ag⟩
    rw[hm]at h0;simp at h0
  rw[hF0]
  simp only[List.take_nil,List.drop_nil]
  show es.filter (λ x=>decide (k<x.s))=[]
  rw[<-hF,hF0]
 ·have hl:j5 k (F.take n.toNat)=x.s:=by rw[hA];simp[j5]
  rw[hl]
  have O8:F=(A++[x])++F.drop n.toNat:=by rw[<-hA,List.take_append_drop]
  have hx:k<x.s:=hFk x (by rw[O8];simp)
  have e1:es.filter (λ y=>decide (x.s<y.s))=F.filter λ y=>decide (x.s<y.s):=by
   rw[hF,List.filter_filter]
   refine List.filter_congr λ y _=>?_
   by_cases h:x.s<y.s
   ·have:k<y.s:=ag
    simp[h,this]
   ·simp[h]
  rw[e1]
  obtain⟨D,hD⟩:=aK (F.drop n.toNat)
  rw[<-hD]at O8⊢
  rw[O8,List.filter_append]
  rw[O8,List.pairwise_append]at hFr
  have h1:(A++[x]).filter (λ y=>decide (x.s<y.s))=[]:=by
   rw[List.filter_eq_nil_iff]
   intro y hy
   have h2:=hFr.1
   rw[List.pairwise_append]at h2
   rcases List.mem_append.1 hy with h|h
   ·have:=h2.2.2 y h x aR
    simp;omega
   ·rw[List.mem_singleton]at h;rw[h];simp
  have h2:D.filter (λ y=>decide (x.s<y.s))=D:=by
   rw[List.filter_eq_self]
   intro y hy
   exact decide_eq_true (hFr.2.2 x aR y hy)
  rw[h1,h2,List.nil_append]
theorem Tk(hr:es.Pairwise λ x y=>x.s<y.s)(k:Nat){m:Int}(hn:1<=n)(hm:1<=m):eS es k (n+m)=eS es k n++eS es (j5 k (eS es k n)) m:=by
 have h:=P2 hr k hn
 have e:(n+m).toNat=n.toNat+m.toNat:=ag
 rw[show eS es (j5 k (eS es k n)) m=((es.filter λ x=>decide (k<x.s)).drop n.toNat).take m.toNat from by rw[<-h];rfl]
 show(es.filter λ x=>decide (k<x.s)).take (n+m).toNat=_
 rw[e,List.take_add]
 rfl
theorem C2(k:Nat)(a b:List aG):j5 k (a++b)=j5 (j5 k a) b:=by
 unfold j5
 rcases og b with rfl|⟨p,x,rfl⟩
 ·simp
 ·rw[<-List.append_assoc];simp
theorem P3(h:∀x∈es,x.s<=q)(hk:k<=q)(n:Int):j5 k (eS es k n)<=q:=by
 unfold j5
 rcases og (eS es k n)with h0|⟨p,x,hp⟩
 ·rw[h0];exact hk
 ·rw[hp];simp
  exact h x (FH x (by rw[hp];simp)).1
theorem P4(k:Nat)(l:List aG):kj (cX k) l=cX (j5 k l):=by
 unfold kj j5
 cases l.getLast?<;>rfl
theorem J1:(⟨#[]⟩:ByteArray)=cX 0:=by unfold cX;rw[if_pos (.inr rfl)]
theorem zn{w:World}{b:Option Addr}{cf a1 d1 c1 a2 d2 c2:Nat}{ps:List Piece}(hF:au w b cf ps)(hm:Marks (al ps))(hC:cB (al ps) a1 d1 c1 a2 d2 c2 q es)(hq:q<=1099511627776)(hk:k<=q){bX:Int}(mY:1<=bX):
 Calls Tryz.prog 15 #[aE b ps.length cf,cU a1 d1 c1 a2 d2 c2 q,.string (cX k),.int .i64 bX] w λ e w'=>∃(a:Option Addr) (c:Nat),e= .returned (.tuple (IT a (eS es k bX).length c (cX (j5 k (eS es k bX)))))/\w'.ownsRow w 56 5 (.slice a (eS es k bX).length c) (eS es k bX).length ((eS es k bX).flatMap eQ)/\Below w w w':=by
 have h:=zl hF hm hC hq (tok:=cX k) (aM (FW k)) (od (n:=k) ag).2 (od (n:=k) ag).1 hk mY
 rw[P4]at h
 exact h
end Go.Proofs.YtkgapncajjafoaaGreatDoor

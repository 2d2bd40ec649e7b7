/- The store, part 18. -/
import Derived.Test.YtkgapncajjafoaaGreatDoorMAa
import Derived.Test.YtkgapncajjafoaaGreatDoorMAo
import Derived.Test.YtkgapncajjafoaaGreatDoorMAg
import Derived.Test.YtkgapncajjafoaaGreatDoorMAq
import Derived.Test.YtkgapncajjafoaaGreatDoorMAp
set_option linter.unusedSimpArgs false
set_option linter.unusedVariables false
set_option maxRecDepth 100000
set_option maxHeartbeats 16000000
namespace Go.Proofs.YtkgapncajjafoaaGreatDoor
open Go.RowKit Go.Shelf
variable{W w V W':World}{x y:aG}{a b:Option Addr}{es:List aG}{id:ByteArray}{j c n c2 g m:Nat}{bX z r:Int}{o:Option aG}{gone right:Bool}{dd:Array Value}{ps:List Piece}
section
attribute [local go_sem] Oper.semAt_some
attribute [-go_sem] Builtin.append_
theorem tE:(Tryz.prog.info? 56).map (λ i=>(i.zero,i.size,i.bytes))=some (some (.agg MG),5,40):=aO
theorem iG(x:aG):(eQ x).length=5:=rfl
theorem FL(x:aG):∀u∈eQ x,u.oneCell'=true:=by simp[eQ,Value.oneCell']
theorem uP{B o:Nat}(h:W.rangeAt B o (eQ x)):W.cell? ⟨B,o,none⟩=some (.int .u64 (x.s:Int))/\W.cell? (za B (o+1))=some (.string (aU x.id))/\W.cell? (za B (o+2))=some (.int .u32 (x.g:Int))/\W.cell? (za B (o+3))=some (.int .u32 (x.m:Int))/\W.cell? (za B (o+4))=some (.bool x.del):=
 ⟨h 0 _ rfl,h 1 _ rfl,h 2 _ rfl,h 3 _ rfl,h 4 _ rfl⟩
theorem FM{a b:ByteArray}(h:a=b):(a.toList==b.toList)=true:=by rw[h];simp
theorem uQ{a b:ByteArray}(h:a≠b):(a.toList==b.toList)=false:=by
 cases hc:(a.toList==b.toList)with
 |false=>rfl
 |true=>
  exfalso
  rw[ByteArray.toList_eq,ByteArray.toList_eq,beq_iff_eq]at hc
  exact h (ByteArray.ext (Array.toList_inj.mp hc))
def fA(es:List aG)(id:List Nat)(j:Nat):List aG:=(es.take j).filter λ y=>decide (y.id≠id)
theorem FN{id:List Nat}(hy:es[j]? =some y)(h:y.id=id):fA es id (j+1)=fA es id j:=by
 unfold fA;rw[List.take_add_one,hy,Option.toList_some,List.filter_append];simp[h]
theorem ID{id:List Nat}(hy:es[j]? =some y)(h:y.id≠id):fA es id (j+1)=fA es id j++[y]:=by
 unfold fA;rw[List.take_add_one,hy,Option.toList_some,List.filter_append];simp[h]
theorem IE(es:List aG)(x:aG):fA es x.id es.length++[x]=ee es x:=by
 unfold fA ee;rw[List.take_length]
theorem IF(es:List aG)(id:List Nat)(j:Nat):(fA es id j).length<=es.length:=by
 unfold fA
 exact Nat.le_trans (List.length_filter_le _ _) (by rw[List.length_take];omega)
theorem Pz(h:bj eQ 5 w a es)(hl:es.length<=1000)(hid:∀y∈es,aU y.id=aU x.id↔y.id=x.id):
 Calls Tryz.prog 32 (UT a es.length c (.agg (se x.s (aU x.id) x.g x.m x.del))) w λ e w'=>∃(a':Option Addr) (k:Nat),e= .returned (.slice a' (ee es x).length k)/\bj eQ 5 w' a' (ee es x)/\(∀p,a'=some p->w.heap.size<=p.block)/\Below w w w':=by
 obtain⟨w1,aH⟩:=aK (w.alloc (.cells (se x.s (aU x.id) x.g x.m x.del) 56))
 have aQ:Below w w w1:=by rw[aH];go_grown
 have bB:w1.heap[w.heap.size]? =some (.cells (se x.s (aU x.id) x.g x.m x.del) 56):=jJ aH
 have fq:w1.heap.size=w.heap.size+1:=by rw[aH];simp
 have cZ:=af aQ
 have AM:=af bB
 have HZ1:=af fq
 have kg:=af aH
 have H:=af h
 have HL:=af hl
 have TU:=af hid
 obtain⟨L,hL⟩:=aK es.length
 have Gv:=af hL
 have sk:(L:Int)<=1000:=ag
 rw[<-hL]
 clear h hl hid aQ bB fq aH hL
 go_enter Tryz.func32,Tryz.ntmps32
 go_wp2_with fail
 rw[<-kg.O]
 go_loopw [5,6] (λ rv iv wr=>∃j:Nat,j<=L/\iv= .int .i64 (j:Int)/\∃q m k',rv= .slice q m k'/\Hid (m=(fA es x.id j).length/\wr.ownsRow (w.heap.size+1) 56 5 (.slice q m k') m ((fA es x.id j).flatMap eQ))/\Hid (Below w w wr/\w.heap.size+1<=wr.heap.size/\wr.heap[w.heap.size]? =some (.cells (se x.s (aU x.id) x.g x.m x.del) 56))) (λ _ iv _=>L - (intOf iv).toNat)
 case atStart=>exact⟨0,Nat.zero_le _,rfl,none,0,0,rfl,af ⟨by simp[fA],by simp[fA],.inl ⟨rfl,rfl⟩⟩,af ⟨cZ.O,by have:=HZ1.O;omega,AM.O⟩⟩
 case round=>
  obtain⟨j,hj,rfl,q,m,k',rfl,ax,hB⟩:=hrel
  obtain⟨wd,Cb⟩:=aK wr.drew
  have SX:Below wr wr wd:=by rw[Cb];exact(Below.refl _ wr).drew
  have Lz:=(SX.block _ (aM hB.O.2.1)).T hB.O.2.2
  have hml:(m:Int)<=1000:=zI (IF es x.id j) ax.O.1 HL.O
  have C9:=af SX
  have HWD:=af Cb
  have HXD:=af Lz
  by_cases bg:j<L
  ·obtain⟨y,hy⟩:∃y,es[j]? =some y:=⟨_,List.getElem?_eq_getElem (aM Gv.O)⟩
   obtain⟨B,o,hA⟩:=H.O.some_ (aM Gv.O)
   have Dj:w.rangeAt B (o+j*5) (eQ y):=by
    have h1:=H.O
    rw[hA]at h1;exact h1.get hy
   have Lu:=fQ Dj hB.O.1
   obtain⟨c0,c1,c2,c3,c4⟩:=uP Lu
   obtain⟨x0,x1,x2,x3,x4⟩:=gF hB.O.2.2
   have Uc:=List.mem_of_getElem? hy
   have gy:(j:Int)<(L:Int):=ag
   subst hA
   by_cases bS:y.id=x.id
   ·have iZ:=FM ((TU.O y Uc).2 bS)
    have oG:=af (show Hid (m=(fA es x.id (j+1)).length/\wd.ownsRow (w.heap.size+1) 56 5 (.slice q m k') m ((fA es x.id (j+1)).flatMap eQ))from af (by rw[FN hy bS];exact⟨ax.O.1,bO.row C9.O ax.O.2⟩))
    clear hy Dj Lu Uc bS Cb SX Lz c0 c2 c3 c4 x0 x2 x3 x4
    go_wp2_with fail
    refine bP 8 ?_
    refine tP [0,1,2,3,4,5,6,7] ?_
    iterate 8 refine tO ?_
    refine ah 0 rfl ?_
    refine dP ?_
    go_simp
    rw[<-HWD.O]
    go_wp2_with fail
    exact⟨⟨j+1,ag,by simp,_,_,_,rfl,oG.O,af ⟨hB.O.1.T (C9.O.mono hB.O.1.size),Nat.le_trans hB.O.2.1 C9.O.size,HXD.O⟩⟩,by simp[intOf];omega⟩
   ·have iZ:=uQ (λ e=>bS ((TU.O y Uc).1 e))
    obtain⟨g',k2,w5,bt,cz,ni⟩:=eF (P:=Tryz.prog) 44 56 (.agg MG) 5 40 aO tE rfl bd (W:=wd) (n₀:=w.heap.size+1) (eQ y) (iG y) (FL y) (bO.row C9.O ax.O.2) ag ag (Nat.le_trans hB.O.2.1 C9.O.size)
    have C6:=fQ Lu C9.O
    have oG:=af (show Hid (m+1=(fA es x.id (j+1)).length/\w5.ownsRow (w.heap.size+1) 56 5 (.slice (zp g') (m+1) k2) (m+1) ((fA es x.id (j+1)).flatMap eQ))from af (by rw[ID hy bS];exact⟨by simp;exact ax.O.1,by rw[List.flatMap_append];simpa using cz⟩))
    have eN:=af (show Below w w w5/\w.heap.size+1<=w5.heap.size/\w5.heap[w.heap.size]? =some (.cells (se x.s (aU x.id) x.g x.m x.del) 56)from⟨(hB.O.1.T (C9.O.mono hB.O.1.size)).T (ni.below.mono (Nat.le_succ _)),Nat.le_trans (Nat.le_trans hB.O.2.1 C9.O.size) ni.below.size,(ni.below.block _ (Nat.lt_succ_self _)).T HXD.O⟩)
    clear hy Dj Lu Uc bS Cb SX Lz c0 c2 c3 c4 x0 x2 x3 x4 cz ni
    unfold eQ at bt C6
    go_wp2_with fail
    refine bP 8 ?_
    refine tP [0,1,2,3,4,5,6,7] ?_
    iterate 8 refine tO ?_
    refine ah 0 rfl ?_
    refine dP ?_
    go_simp
    rw[<-HWD.O]
    go_wp2_with first
     |(refine bh 56 ?_)
     |fail
    exact⟨⟨j+1,ag,by simp,_,_,_,rfl,oG.O,af eN.O⟩,by simp[intOf];omega⟩
  ·obtain rfl:j=L:=ag
   obtain⟨g',k2,w5,bt,cz,ni⟩:=eF (P:=Tryz.prog) 44 56 (.agg MG) 5 40 aO tE rfl bd (W:=wr) (n₀:=w.heap.size+1) (eQ x) (iG x) (FL x) ax.O.2 ag ag hB.O.2.1
   have hrx:wr.rangeAt w 0 (eQ x):=aj hB.O.2.2
   have HE:=af (show m+1=(ee es x).length/\bj eQ 5 w5 (zp g') (ee es x)/\(∀p,(some ⟨g',0,none⟩:Option Addr)=some p->w.heap.size<=p.block)/\Below w w w5 from by
    have e:=IE es x
    have h1:=ax.O.1
    rw[Gv.O]at h1 cz
    rw[<-e]
    have kK:w.heap.size<=g':=by
     rcases ay cz with⟨h,_⟩|⟨g2,_,h,h2,_⟩
     ·cases h
     ·cases h;omega
    refine⟨by simp[h1],bj.gX (n₀:=w.heap.size+1) (k:=m+1) (c:=k2) (by rw[List.flatMap_append];simpa using cz) iG bd, λ p hp=>by cases hp;exact kK,hB.O.1.T (ni.below.mono (Nat.le_succ _))⟩)
   clear cz ni Cb SX Lz
   unfold eQ at bt hrx
   go_wp2_with first
    |(refine bh 56 ?_)
    |fail
   go_ret
   refine⟨some ⟨g',0,none⟩,k2,?_,HE.O.2.1,HE.O.2.2.1,HE.O.2.2.2⟩
   rw[<-HE.O.1]
   rfl
def aec(es:List aG)(n j:Nat):List aG:=(es.take j).filter λ x=>decide (n<x.s)
theorem aeW(hy:es[j]? =some y)(h:n<y.s):aec es n (j+1)=aec es n j++[y]:=by
 unfold aec;rw[List.take_add_one,hy,Option.toList_some,List.filter_append];simp[h]
theorem aeH(hy:es[j]? =some y)(h:¬ n<y.s):aec es n (j+1)=aec es n j:=by
 unfold aec;rw[List.take_add_one,hy,Option.toList_some,List.filter_append];simp;omega
theorem aeX(es:List aG)(n j:Nat):(aec es n j).length<=es.length:=by
 unfold aec
 exact Nat.le_trans (List.length_filter_le _ _) (by rw[List.length_take];omega)
theorem aer(h:j=es.length\/((aec es n j).length:Int)=bX)(hm:((aec es n j).length:Int)<=bX):aec es n j=eS es n bX:=by
 unfold eS
 have e:es.filter (λ x=>decide (n<x.s))=aec es n j++(es.drop j).filter (λ x=>decide (n<x.s)):=by
  unfold aec;rw[<-List.filter_append,List.take_append_drop]
 rw[e]
 rcases h with h|h
 ·rw[h,List.drop_length,List.filter_nil,List.append_nil,<-h,List.take_of_length_le ag]
 ·rw[List.take_append_of_le_length ag,List.take_of_length_le ag]
theorem aeY(h:bj eQ 5 w a es)(hl:es.length<=1000)(hm:1<=bX):
 Calls Tryz.prog 16 #[.slice a es.length c,.int .u64 (n:Int),.int .i64 bX] w λ e w'=>∃(a':Option Addr) (k:Nat),e= .returned (.slice a' (eS es n bX).length k)/\bj eQ 5 w' a' (eS es n bX)/\Below w w w':=by
 have H:=af h
 have HL:=af hl
 have HM:=af hm
 obtain⟨L,hL⟩:=aK es.length
 have Gv:=af hL
 have sk:(L:Int)<=1000:=ag
 rw[<-hL]
 clear h hl hL hm
 go_enter Tryz.func16,Tryz.ntmps16
 go_wp2_with fail
 go_loopw [7,8] (λ rv iv wr=>∃j:Nat,j<=L/\iv= .int .i64 (j:Int)/\∃q m k',rv= .slice q m k'/\Hid (m=(aec es n j).length/\(m:Int)<=bX/\wr.ownsRow w 56 5 (.slice q m k') m ((aec es n j).flatMap eQ))/\Hid (Below w w wr)) (λ _ iv _=>L - (intOf iv).toNat)
 case atStart=>exact⟨0,Nat.zero_le _,rfl,none,0,0,rfl,af ⟨by simp[aec],by have:=HM.O;simp;omega,by simp[aec],.inl ⟨rfl,rfl⟩⟩,af (dp)⟩
 case round=>
  obtain⟨j,hj,rfl,q,m,k',rfl,ax,hB⟩:=hrel
  have hml:(m:Int)<=1000:=zI (aeX es n j) ax.O.1 HL.O
  by_cases bg:j<L
  ·have gy:(j:Int)<(L:Int):=ag
   by_cases CJ:(m:Int)<bX
   ·have hmd:decide ((m:Int)<bX)=true:=decide_eq_true CJ
    obtain⟨y,hy⟩:∃y,es[j]? =some y:=⟨_,List.getElem?_eq_getElem (aM Gv.O)⟩
    obtain⟨B,o,hA⟩:=H.O.some_ (aM Gv.O)
    have Dj:w.rangeAt B (o+j*5) (eQ y):=by
     have h1:=H.O
     rw[hA]at h1;exact h1.get hy
    have Lu:=fQ Dj hB.O
    obtain⟨c0,c1,c2,c3,c4⟩:=uP Lu
    subst hA
    by_cases hns:n<y.s
    ·have dD:(n:Int)<(y.s:Int):=ag
     obtain⟨g',k2,w5,bt,cz,ni⟩:=eF (P:=Tryz.prog) 44 56 (.agg MG) 5 40 aO tE rfl bd (W:=wr) (n₀:=w.heap.size) (eQ y) (iG y) (FL y) ax.O.2.2 ag ag hB.O.size
     have oG:=af (show Hid (m+1=(aec es n (j+1)).length/\((m+1:Nat):Int)<=bX/\w5.ownsRow w 56 5 (.slice (zp g') (m+1) k2) (m+1) ((aec es n (j+1)).flatMap eQ))from af (by rw[aeW hy hns];exact⟨by simp;exact ax.O.1,ag,by rw[List.flatMap_append];simpa using cz⟩))
     have eN:=af (hB.O.T ni.below)
     clear hy Dj c1 c2 c3 c4 cz ni hns CJ bg
     unfold eQ at bt Lu
     go_wp2_with first
      |(refine bh 56 ?_)
      |fail
     exact⟨⟨j+1,ag,by simp,_,_,_,rfl,oG.O,af eN.O⟩,by simp[intOf];omega⟩
    ·have dD:¬ (n:Int)<(y.s:Int):=ag
     have fu:decide ((n:Int)<(y.s:Int))=false:=decide_eq_false dD
     have oG:=af (show Hid (m=(aec es n (j+1)).length/\(m:Int)<=bX/\wr.ownsRow w 56 5 (.slice q m k') m ((aec es n (j+1)).flatMap eQ))from af (by rw[aeH hy hns];exact ax.O))
     clear hy Dj Lu c1 c2 c3 c4 hns CJ bg
     go_wp2_with fail
     exact⟨⟨j+1,ag,by simp,_,_,_,rfl,oG.O,hB⟩,by simp[intOf];omega⟩
   ·have hmd:decide ((m:Int)<bX)=false:=decide_eq_false CJ
    have HE:=af (show m=(eS es n bX).length/\bj eQ 5 wr q (eS es n bX)from by
     rw[<-aer (j:=j) (.inr (cG ax.O.1 ax.O.2.1)) (cG ax.O.1 ax.O.2.1)]
     exact⟨ax.O.1,bj.gX ax.O.2.2 iG bd⟩)
    clear bg
    go_wp2_with fail
    go_ret
    first|refine⟨q,k',?_,HE.O.2,hB.O⟩|refine⟨q,⟨k',?_⟩,HE.O.2,hB.O⟩
    rw[<-HE.O.1]
    rfl
  ·obtain rfl:j=L:=ag
   have HE:=af (show m=(eS es n bX).length/\bj eQ 5 wr q (eS es n bX)from by
    rw[<-aer (j:=j) (.inl Gv.O) (cG ax.O.1 ax.O.2.1)]
    exact⟨ax.O.1,bj.gX ax.O.2.2 iG bd⟩)
   go_wp2_with fail
   go_ret
   first|refine⟨q,k',?_,HE.O.2,hB.O⟩|refine⟨q,⟨k',?_⟩,HE.O.2,hB.O⟩
   rw[<-HE.O.1]
   rfl
theorem PA(s g m:Int)(id:ByteArray)(del:Bool)(W:World):(Op.equalIn 10000 56 (.agg #[.int .u64 s,.string id,.int .u32 g,.int .u32 m,.bool del]) (.agg #[.int .u64 s,.string id,.int .u32 g,.int .u32 m,.bool del])).run Tryz.prog W= .ok true W:=by
 go_simp
theorem SY(s g m:Int)(id:ByteArray)(del:Bool)(W:World):(binOp BinOp.neq 56 (.agg #[.int .u64 s,.string id,.int .u32 g,.int .u32 m,.bool del]) (.agg #[.int .u64 s,.string id,.int .u32 g,.int .u32 m,.bool del])).run Tryz.prog W= .ok (.bool false) W:=by
 rw[run_neq_struct,PA];rfl
theorem aeI{a2:Option Addr}{l:List aG}(h:bj eQ 5 w a l)(h2:bj eQ 5 w a2 l)(hl:l.length<=1000):
 Calls Tryz.prog 17 (jF a l.length c a2 l.length c2) w λ e w'=>e= .returned (.bool true)/\Below w w w':=by
 have H:=af h
 have H2:=af h2
 obtain⟨L,hL⟩:=aK l.length
 have Gv:=af hL
 have sk:(L:Int)<=1000:=ag
 rw[<-hL]
 clear h h2 hl hL
 go_enter Tryz.func17,Tryz.ntmps17
 go_wp2_with fail
 go_loopw [5] (λ iv wr=>∃j:Nat,j<=L/\iv= .int .i64 (j:Int)/\Hid (Below w w wr)) (λ iv _=>L - (intOf iv).toNat)
 case atStart=>exact⟨0,Nat.zero_le _,rfl,af (dp)⟩
 case round=>
  obtain⟨j,hj,rfl,hB⟩:=hrel
  by_cases bg:j<L
  ·have gy:(j:Int)<(L:Int):=ag
   obtain⟨y,hy⟩:∃y,l[j]? =some y:=⟨_,List.getElem?_eq_getElem (aM Gv.O)⟩
   obtain⟨B,o,hA⟩:=H.O.some_ (aM Gv.O)
   obtain⟨B2,o2,hA2⟩:=H2.O.some_ (aM Gv.O)
   have Dj:w.rangeAt B (o+j*5) (eQ y):=by
    have h1:=H.O
    rw[hA]at h1;exact h1.get hy
   have abz:w.rangeAt B2 (o2+j*5) (eQ y):=by
    have h1:=H2.O
    rw[hA2]at h1;exact h1.get hy
   have Lu:=fQ Dj hB.O
   have afJ:=fQ abz hB.O
   subst hA hA2
   have Mh:= λ W=>SY (y.s:Int) (y.g:Int) (y.m:Int) (aU y.id) y.del W
   have C9:Hid (Below w w wr.drew):=af hB.O.drew
   obtain⟨c0,c1,c2,c3,c4⟩:=uP Lu
   obtain⟨k0,k1,k2,k3,k4⟩:=uP afJ
   clear hy Dj abz bg Lu afJ
   go_wp2_with fail
   refine bP 9 ?_
   refine tP [0,1,2,3,4,5,6,7,8] ?_
   iterate 9 refine tO ?_
   refine ah 0 rfl ?_
   refine dP ?_
   go_simp
   go_wp2_with fail
   exact⟨⟨j+1,ag,by simp,C9⟩,by simp[intOf];omega⟩
  ·obtain rfl:j=L:=ag
   go_wp2_with fail
   go_ret
   exact⟨rfl,hB.O⟩
structure lG where
 b:Option Addr
 cf:Nat
 ps:List Piece
 a1:Nat
 d1:Nat
 c1:Nat
 a2:Nat
 d2:Nat
 c2:Nat
 q:Nat
 es:List aG
def lG.file(s:lG):Value:=aE s.b s.ps.length s.cf
def lG.L2(s:lG):Value:=cU s.a1 s.d1 s.c1 s.a2 s.d2 s.c2 s.q
structure lG.At(s:lG)(W:World):Prop where
 file:au W s.b s.cf s.ps
 marks:Marks (al s.ps)
 oI:cB (al s.ps) s.a1 s.d1 s.c1 s.a2 s.d2 s.c2 s.q s.es
 SZ:∀x∈s.es,∀y∈x.id,y<256
theorem lG.At.below{s:lG}{W V:World}(h:s.At W)(hb:Below W W V):s.At V:=⟨h.file.below hb,h.marks,h.oI,h.SZ⟩
def rg(o:Option aG):Nat:=if bZ o then(o.getD aV).g else 0
def rm(o:Option aG):Nat:=if bZ o then(o.getD aV).m else 0
def PB(es:List aG)(id:ByteArray)(gone:Bool)(o:Option aG)(g m:Nat):Prop:=
 oR id=0/\(g=rg o/\m=rm o)/\if gone=true then bZ o=true else(o.isSome=true\/es.length<32)
structure Out(s s':lG)(x:aG)(id:ByteArray)(gone:Bool)(o:Option aG)(g m:Nat)(z:Int):Prop where
 xid:x.id=dk id
 xs:x.s=s'.q
 Xp:x.del=gone
 room:(al s'.ps).length<=(al s.ps).length+8000
 res:(z=0/\PB s.es id gone o g m/\s'.q=s.q+1/\s'.es=ee s.es x)\/((z=290\/z=4\/z=300\/z=301)/\¬ PB s.es id gone o g m/\s'=s)
theorem FO(h:∀x∈es,∀y∈x.id,y<256)(hx:x.id=dk id):∀u∈ee es x,∀y∈u.id,y<256:=by
 intro z hz
 rcases List.mem_append.1 hz with h1|h1
 ·exact h z (List.mem_filter.1 h1).1
 ·rw[List.mem_singleton]at h1;rw[h1,hx];exact Ia id
theorem rU{id:List Nat}(ho:fT es id o)(hs:o.isSome=true)(hm:es.length<=32):(es.filter λ y=>decide (y.id≠id)).length+1<=32:=by
 cases o with
 |none=>cases hs
 |some x=>
  have h1:(es.filter λ y=>decide (y.id≠id)).length<es.length:=by
   refine Nat.lt_of_le_of_ne (List.length_filter_le _ _) λ e=>?_
   rw[List.length_filter_eq_length_iff]at e
   have:=e x ho.1
   simp[ho.2]at this
  omega
theorem ly{s:lG}(hz:z=290\/z=4\/z=300\/z=301)(h:¬ PB s.es id gone o g m):Out s s ⟨dk id,0,0,s.q,gone,0,0⟩ id gone o g m z:=
 ⟨rfl,rfl,rfl,Nat.le_add_right _ _,.inr ⟨hz,h,rfl⟩⟩
theorem rV(h:bZ o=true):o.isSome=true:=by cases o<;>first|cases h|rfl
theorem S3(s:lG)(h:s.At w)(hq:s.q<1000)(hr:(al s.ps).length+12000<=524288)(id:ByteArray)(j4:id.size<=4611686018427387904)(ho:fT s.es (dk id) o)(g m:Nat):
 Calls Tryz.prog 30 #[s.file,s.L2,.string id,.agg (cP g m)] w λ e w'=>∃(z:Int) (s':lG) (x:aG),Out s s' x id true o g m z/\e= .returned (.tuple #[s'.file,s'.L2,.agg (cP x.g x.m),.int .i64 z])/\s'.At w'/\Below w w w':=by
 by_cases hid:oR id=0
 ·cases nm:bZ o with
  |false=>
   refine(FI h.file h.marks h.oI hq id j4 g m hid ho nm).mono λ e w' ⟨he,hb⟩=>⟨4,s,_,ly (.inr (.inl rfl)) (λ hg=>?_),he,h.below hb,hb⟩
   have:=hg.2.2
   rw[if_pos rfl,nm]at this;cases this
  |true=>
   by_cases oM:g=(o.getD aV).g/\m=(o.getD aV).m
   ·refine(LY h.file h.marks h.oI hq id j4 g m hid ho nm oM hr (rU ho (rV nm) h.oI.many)).mono λ e w' ⟨m',at_,b',bL,bY,p1,e1,f1,p2,e2,f2,wU,he,hf,hg,hc,hb⟩=>
     ⟨0,⟨b',bL,bY,p1,e1,f1,p2,e2,f2,s.q+1,ee s.es ⟨dk id,(o.getD aV).g+1,m',s.q+1,true,at_,0⟩⟩,⟨dk id,(o.getD aV).g+1,m',s.q+1,true,at_,0⟩,⟨rfl,rfl,rfl,hg.len,.inl ⟨rfl,⟨hid,?_,by rw[if_pos rfl];exact nm⟩,rfl,rfl⟩⟩,he,⟨hf,hg.marks,hc,FO (id:=id) h.SZ rfl⟩,hb⟩
    unfold rg rm;rw[nm];exact oM
   ·refine(CX h.file h.marks h.oI hq id j4 g m hid ho nm oM).mono λ e w' ⟨he,hb⟩=>⟨300,s,_,ly (.inr (.inr (.inl rfl))) (λ hg=>oM ?_),he,h.below hb,hb⟩
    have:=hg.2.1
    unfold rg rm at this;rw[nm]at this;exact this
 ·exact(LX h.file h.marks h.oI hq id j4 g m hid).mono λ e w' ⟨he,hb⟩=>⟨290,s,_,ly (.inl rfl) (λ hg=>hid hg.1),he,h.below hb,hb⟩
theorem S4(s:lG)(h:s.At w)(hq:s.q<1000)(hr:(al s.ps).length+12000<=524288)(id:ByteArray)(j4:id.size<=4611686018427387904)(ho:fT s.es (dk id) o)(g m:Nat)(n:Int)(dD: -9223372036854775808<=n)(fu:n<9223372036854775808):
 Calls Tryz.prog 31 #[s.file,s.L2,.string id,.agg (cP g m),.agg (dy n)] w λ e w'=>∃(z:Int) (s':lG) (x:aG),Out s s' x id false o g m z/\e= .returned (.tuple #[s'.file,s'.L2,.agg (cP x.g x.m),.int .i64 z])/\s'.At w'/\Below w w w':=by
 by_cases hid:oR id=0
 ·by_cases oM:g=rg o/\m=rm o
  ·by_cases hk:o.isSome=true\/s.es.length<32
   ·have key:∀(CJ:(s.es.filter λ y=>decide (y.id≠dk id)).length+1<=32) (hT:Calls Tryz.prog 31 #[aE s.b s.ps.length s.cf,cU s.a1 s.d1 s.c1 s.a2 s.d2 s.c2 s.q,.string id,.agg (cP g m),.agg (dy n)] w λ e w'=>∃(m' at_:Nat) (b':Option Addr) (bL:Nat) (bY:List Piece) (p1 e1 f1 p2 e2 f2:Nat),m'<4294967296/\e= .returned (.tuple #[aE b' bY.length bL,cU p1 e1 f1 p2 e2 f2 (s.q+1),.agg (cP ((o.getD aV).g+1) m'),.int .i64 0])/\au w' b' bL bY/\iF s.ps bY 8000/\cB (al bY) p1 e1 f1 p2 e2 f2 (s.q+1) (ee s.es ⟨dk id,(o.getD aV).g+1,m',s.q+1,false,at_,n⟩)/\Below w w w'),
     Calls Tryz.prog 31 #[s.file,s.L2,.string id,.agg (cP g m),.agg (dy n)] w λ e w'=>∃(z:Int) (s':lG) (x:aG),Out s s' x id false o g m z/\e= .returned (.tuple #[s'.file,s'.L2,.agg (cP x.g x.m),.int .i64 z])/\s'.At w'/\Below w w w':= λ _ hT=>
     hT.mono λ e w' ⟨m',at_,b',bL,bY,p1,e1,f1,p2,e2,f2,wU,he,hf,hg,hc,hb⟩=>
      ⟨0,⟨b',bL,bY,p1,e1,f1,p2,e2,f2,s.q+1,ee s.es ⟨dk id,(o.getD aV).g+1,m',s.q+1,false,at_,n⟩⟩,⟨dk id,(o.getD aV).g+1,m',s.q+1,false,at_,n⟩,⟨rfl,rfl,rfl,hg.len,.inl ⟨rfl,⟨hid,oM,by rw[if_neg aR];exact hk⟩,rfl,rfl⟩⟩,he,⟨hf,hg.marks,hc,FO (id:=id) h.SZ rfl⟩,hb⟩
    cases nm:bZ o with
    |true=>
     have CJ:=rU ho (rV nm) h.oI.many
     unfold rg rm at oM;rw[nm]at oM
     exact key CJ (uO h.file h.marks h.oI hq id j4 g m n dD fu hid ho nm (rV nm) oM.1 oM.2 hr CJ)
    |false=>
     have L3:=oM
     unfold rg rm at L3;rw[nm]at L3
     cases zy:o.isSome with
     |true=>
      have CJ:=rU ho zy h.oI.many
      exact key CJ (tD h.file h.marks h.oI hq id j4 g m n dD fu hid ho nm zy L3.1 L3.2 hr CJ)
     |false=>
      have hl:s.es.length<32:=by rw[zy]at hk;simpa using hk
      have CJ:(s.es.filter λ y=>decide (y.id≠dk id)).length+1<=32:=by
       have:=List.length_filter_le (λ y:aG=>decide (y.id≠dk id)) s.es
       omega
      exact key CJ (rT h.file h.marks h.oI hq id j4 g m n dD fu hid ho nm zy L3.1 L3.2 hl hr CJ)
   ·have zy:o.isSome=false:=by cases hc:o.isSome<;>simp_all
    have nm:bZ o=false:=by cases o<;>simp_all [bZ]
    unfold rg rm at oM;rw[nm]at oM
    refine(Py h.file h.marks h.oI hq id j4 g m n dD fu hid ho nm zy oM.1 oM.2 ag).mono λ e w' ⟨he,hb⟩=>⟨301,s,_,ly (.inr (.inr (.inr rfl))) (λ hg=>hk ?_),he,h.below hb,hb⟩
    have:=hg.2.2
    rwa [if_neg aR]at this
  ·cases nm:bZ o with
   |true=>
    have h2:=oM
    unfold rg rm at h2;rw[nm]at h2
    exact(zd h.file h.marks h.oI hq id j4 g m n dD fu hid ho nm h2).mono λ e w' ⟨he,hb⟩=>⟨300,s,_,ly (.inr (.inr (.inl rfl))) (λ hg=>oM hg.2.1),he,h.below hb,hb⟩
   |false=>
    have h2:=oM
    unfold rg rm at h2;rw[nm]at h2
    exact(wF h.file h.marks h.oI hq id j4 g m n dD fu hid ho nm h2).mono λ e w' ⟨he,hb⟩=>⟨300,s,_,ly (.inr (.inr (.inl rfl))) (λ hg=>oM hg.2.1),he,h.below hb,hb⟩
 ·exact(Xm h.file h.marks h.oI hq id j4 g m n dD fu hid).mono λ e w' ⟨he,hb⟩=>⟨290,s,_,ly (.inl rfl) (λ hg=>hid hg.1),he,h.below hb,hb⟩
abbrev uR(b:Option Addr)(k cf a1 d1 c1 a2 d2 c2 q:Nat)(la:Option Addr)(L lc:Nat):Array Value:=(iI b k cf a1 d1 c1 a2 d2 c2 q la L lc)
def lG.sto(s:lG)(la:Option Addr)(lc:Nat):Array Value:=uR s.b s.ps.length s.cf s.a1 s.d1 s.c1 s.a2 s.d2 s.c2 s.q la s.es.length lc
abbrev ze:Array Value:=Av
abbrev aao(id:ByteArray)(gone right:Bool)(n:Int):Array Value:=(oh id gone right n)
structure tG(w W:World)(st dd:Array Value)(r m:Int):Prop where
 b0:W.heap[w.heap.size]? =some (.cells st 46)
 b1:W.heap[w.heap.size+1]? =some (.cells dd 64)
 b2:W.heap[w.heap.size+1+1]? =some (.cells ze 46)
 b3:W.heap[w.heap.size+1+1+1]? =some (.cells (Dk r m) 54)
 oJ:Below w w W
 sz:w.heap.size+1+1+1+1<=W.heap.size
theorem tG.below{st:Array Value}{m:Int}(h:tG w W st dd r m)(hb:Below W W V):tG w V st dd r m:=by
 have hs:=h.sz
 exact⟨(hb.block _ ag).T h.b0,(hb.block _ ag).T h.b1,(hb.block _ ag).T h.b2,(hb.block _ ag).T h.b3,h.oJ.T (hb.mono h.oJ.size),Nat.le_trans hs hb.size⟩
def As(id:ByteArray)(l:List aG):Nat×Nat:=l.foldl (λ r y=>if y.id=dk id/\y.del=false then(y.g,y.m)else r) (0,0)
theorem L4(hy:es[j]? =some y):As id (es.take (j+1))=if y.id=dk id/\y.del=false then(y.g,y.m)else As id (es.take j):=by
 unfold As;rw[List.take_add_one,hy,Option.toList_some,List.foldl_append];rfl
theorem wY{id:ByteArray}:∀(l:List aG) (r:Nat×Nat),(∀y∈l,¬ (y.id=dk id/\y.del=false))->l.foldl (λ r y=>if y.id=dk id/\y.del=false then(y.g,y.m)else r) r=r
 |[],_,_=>rfl
 |y::l,r,h=>by rw[List.foldl_cons,if_neg (h y List.mem_cons_self)];exact wY l r λ z hz=>h z (List.mem_cons_of_mem _ hz)
theorem FP{id:ByteArray}{v:Nat×Nat}:∀(l:List aG) (r:Nat×Nat),(∀y∈l,(y.id=dk id/\y.del=false)->(y.g,y.m)=v)->(∃y∈l,y.id=dk id/\y.del=false)->l.foldl (λ r y=>if y.id=dk id/\y.del=false then(y.g,y.m)else r) r=v
 |[],_,_,⟨y,h,_⟩=>by cases h
 |y::l,r,h,hx=>by
  rw[List.foldl_cons]
  by_cases hl:∃y∈l,y.id=dk id/\y.del=false
  ·exact FP l _ (λ z hz=>h z (List.mem_cons_of_mem _ hz)) hl
  ·rw[wY l _ λ z hz hp=>hl ⟨z,hz,hp⟩]
   obtain⟨z,hz,hp⟩:=hx
   rcases List.mem_cons.1 hz with rfl|hz
   ·rw[if_pos hp];exact h z List.mem_cons_self hp
   ·exact absurd ⟨z,hz,hp⟩ hl
theorem IG(ha:es.Pairwise λ x y=>x.id≠y.id)(ho:fT es (dk id) o):As id es=(rg o,rm o):=by
 unfold As rg rm
 cases o with
 |none=>exact wY es _ λ y hy hp=>ho y hy hp.1
 |some x=>
  have key:∀y∈es,y.id=dk id->y=x:= λ y hy e=>yG (f:=aG.id) ha hy ho.1 (e.T ho.2.symm)
  cases hd:x.del with
  |true=>
   rw[wY es _ λ y hy hp=>by have:=key y hy hp.1;subst this;rw[hp.2]at hd;cases hd]
   simp[bZ,hd]
  |false=>
   rw[FP (v:=(x.g,x.m)) es _ (λ y hy hp=>by rw[key y hy hp.1]) ⟨x,ho.1,ho.2,hd⟩]
   simp[bZ,hd]
def Good(es:List aG)(id:ByteArray)(gone right:Bool):Prop:=
 oR id=0/\right=true/\∃o,fT es (dk id) o/\if gone=true then bZ o=true else(o.isSome=true\/es.length<32)
def Step(s s':lG)(id:ByteArray)(gone right:Bool):Prop:=
 (al s'.ps).length<=(al s.ps).length+8000/\((Good s.es id gone right/\s'.q=s.q+1/\∃x:aG,x.id=dk id/\x.s=s'.q/\x.del=gone/\s'.es=ee s.es x)\/(¬ Good s.es id gone right/\s'=s))
def vQ(right:Bool)(m:Nat):Nat:=if right=true then m else(m+1)%4294967296
theorem PC:vQ false m≠m:=by unfold vQ;simp;omega
theorem JQ{s s':lG}(hA:s.At W)(ho:fT s.es (dk id) o)(h:Out s s' x id gone o (rg o) (vQ right (rm o)) z):Step s s' id gone right:=by
 refine⟨h.room,?_⟩
 rcases h.res with⟨_,hg,hq,he⟩|⟨_,hg,hs⟩
 ·refine .inl ⟨⟨hg.1,?_,o,ho,hg.2.2⟩,hq,x,h.xid,h.xs,h.Xp,he⟩
  cases right with
  |true=>rfl
  |false=>exact absurd hg.2.1.2 PC
 ·refine .inr ⟨λ ⟨h1,h2,o',ho',h3⟩=>hg ?_,hs⟩
  have:=BA hA.oI ho' ho
  subst this
  exact⟨h1,⟨rfl,by rw[h2];rfl⟩,h3⟩
theorem db.gen(h:au W b c ps){cs:Array Value}{t:TypeId}(hg:W.heap[g]? =some (.cells cs t))(h8:∀(j x:Nat),cs[j]? ≠some (.int .u8 (x:Int)))(hs:∀(j:Nat) (a:Option Addr) (n k:Nat),cs[j]? =some (.slice a n k)->n=0\/∀B o (x:Nat),a=some ⟨B,o,none⟩->W.cell? ⟨B,o,none⟩≠some (.int .u8 (x:Int))):db g b ps:=by
 constructor
 ·rcases h.pieces.1 with h1|⟨B,o,e,hc⟩
  ·exact .inl h1
  ·cases ps with
   |nil=>exact .inl rfl
   |cons p0 pr=>
    refine .inr λ G o2 e2=>?_
    rw[e]at e2;cases e2
    rintro rfl
    have h2:=hc 0 p0 rfl
    rw[aa hg]at h2
    have h3:=h.pieces.2 p0 List.mem_cons_self
    rcases hs _ _ _ _ h2 with h4|h4
    ·exact h3.1 (List.length_eq_zero_iff.1 h4)
    ·rcases h3.2.2.2 with h9|⟨C,o3,e3,uK⟩
     ·exact h3.1 h9
     ·cases tK:p0.2.1 with
      |nil=>exact h3.1 tK
      |cons x l=>exact h4 C o3 x e3 (uK 0 x (by rw[tK];rfl))
 ·intro p hp G o e
  obtain⟨h1,_,h2⟩:=h.pieces.2 p hp
  rcases h2.2 with h0|⟨C,o2,e2,hc⟩
  ·exact absurd h0 h1
  ·rw[e]at e2;cases e2
   cases tK:p.2.1 with
   |nil=>exact absurd tK h1
   |cons x l=>
    rintro rfl
    have:=hc 0 x (by rw[tK];rfl)
    rw[aa hg]at this
    exact h8 _ _ this
theorem L5{G:Nat->Prop}(hk:∀j,j<W.heap.size->¬ G j->W'.heap[j]? =W.heap[j]?){xs:List Nat}(h:ai W a xs)(ha:∀g,G g->∀B o,a=some ⟨B,o,none⟩->B≠g):ai W' a xs:=by
 refine⟨h.1,?_⟩
 rcases h.2 with h0|⟨C,o,e,hc⟩
 ·exact .inl h0
 ·exact .inr ⟨C,o,e, λ j x hx=>(World.cell?_of_block (w:=W) (hk C (World.block_lt_of_cell? W _ (hc j x hx)) λ hg=>ha C hg C o e rfl)).T (hc j x hx)⟩
theorem PD{G:Nat->Prop}(hk:∀j,j<W.heap.size->¬ G j->W'.heap[j]? =W.heap[j]?)(h:au W b c ps)(ha:∀g,G g->db g b ps):au W' b c ps:=by
 refine⟨⟨?_, λ p hp=>⟨(h.pieces.2 p hp).1,(h.pieces.2 p hp).2.1,L5 hk (h.pieces.2 p hp).2.2 λ g hg=>(ha g hg).2 p hp⟩⟩,h.small,h.room⟩
 rcases h.pieces.1 with h0|⟨B,o,e,hc⟩
 ·exact .inl h0
 ·cases ps with
  |nil=>exact .inl rfl
  |cons p0 E7=>
   refine .inr ⟨B,o,e, λ j p hp=>(World.cell?_of_block (w:=W) (hk B (World.block_lt_of_cell? W _ (hc j p hp)) λ hg=>?_)).T (hc j p hp)⟩
   rcases(ha B hg).1 with h1|h1
   ·cases h1
   ·exact h1 B o e rfl
theorem JR{b' la:Option Addr}{cf bL a1 d1 c1 a2 d2 q lc:Nat}{bY:List Piece}{m:Int}(hF:au w b cf ps)(hl:bj eQ 5 w la es)(h:tG w W (uR b ps.length cf a1 d1 c1 a2 d2 c2 q la es.length lc) dd r m){n:Int}(hd:dd=aao id gone right n)(Xq:au W b' bL bY)(hk:∀j,j<W.heap.size->¬ (w.heap.size<=j/\j<=w.heap.size+1+1+1)->V.heap[j]? =W.heap[j]?):au V b' bL bY:=by
 have iL:∀B o (x:Nat),ps≠[]->b=some ⟨B,o,none⟩->W.cell? ⟨B,o,none⟩≠some (.int .u8 (x:Int)):= λ B o x hp e=>by
  rcases(hF.below h.oJ).pieces.1 with h0|⟨B',o',e',hc⟩
  ·exact absurd h0 hp
  ·rw[e]at e';cases e'
   cases ps with
   |nil=>exact absurd rfl hp
   |cons p0 pr=>rw[show(⟨B,o,none⟩:Addr)=⟨B,o+0,none⟩from rfl,hc 0 p0 rfl];simp
 have RD:∀B o (x:Nat),es≠[]->la=some ⟨B,o,none⟩->W.cell? ⟨B,o,none⟩≠some (.int .u8 (x:Int)):= λ B o x hp e=>by
  rcases hl.below h.oJ with h0|⟨B',o',e',hc⟩
  ·exact absurd h0 hp
  ·rw[e]at e';cases e'
   cases es with
   |nil=>exact absurd rfl hp
   |cons p0 pr=>
    have:=hc 0 p0 rfl 0 _ rfl
    rw[show(⟨B,o+0*5+0,none⟩:Addr)=⟨B,o,none⟩by simp]at this
    rw[this];simp
 refine PD hk Xq λ g hg=>?_
 rcases(show g=w.heap.size\/g=w.heap.size+1\/g=w.heap.size+1+1\/g=w.heap.size+1+1+1 by omega)with rfl|rfl|rfl|rfl
 ·refine db.gen Xq h.b0 (λ j x=>?_) (λ j a n k e=>?_)
  ·intro e;have:=Array.mem_of_getElem? e;simp at this
  ·have:=Array.mem_of_getElem? e;simp at this
   rcases this with⟨-,h1, -⟩|⟨rfl,h1, -⟩|⟨rfl,h1, -⟩
   ·exact .inl h1
   ·by_cases hp:ps=[]
    ·left;rw[h1,hp];rfl
    ·exact .inr λ B o x e=>iL B o x hp e
   ·by_cases hp:es=[]
    ·left;rw[h1,hp];rfl
    ·exact .inr λ B o x e=>RD B o x hp e
 ·subst hd
  exact db.Fw Xq h.b1 (λ j x=>by rcases j with _|_|_|_|j<;>simp) (λ j a n k e=>by rcases j with _|_|_|_|j<;>simp at e)
 ·refine db.Fw Xq h.b2 (λ j x=>?_) (λ j a n k e=>?_)
  ·intro e;have:=Array.mem_of_getElem? e;simp at this
  ·have:=Array.mem_of_getElem? e;simp at this;omega
 ·exact db.Fw Xq h.b3 (λ j x=>by rcases j with _|_|j<;>simp) (λ j a n k e=>by rcases j with _|_|j<;>simp at e)
end
end Go.Proofs.YtkgapncajjafoaaGreatDoor

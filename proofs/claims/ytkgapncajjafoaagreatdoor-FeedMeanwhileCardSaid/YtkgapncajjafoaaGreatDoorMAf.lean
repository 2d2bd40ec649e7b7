/- The store, part 6. -/
import Derived.Test.YtkgapncajjafoaaGreatDoorMAa
import Derived.Test.YtkgapncajjafoaaGreatDoorMAe
import Derived.Test.YtkgapncajjafoaaGreatDoorMAb
set_option linter.unusedSimpArgs false
set_option linter.unusedVariables false
set_option maxRecDepth 100000
set_option maxHeartbeats 16000000
namespace Go.Proofs.YtkgapncajjafoaaGreatDoor
open Go.RowKit Go.Shelf
variable{w W W' V w0:World}{a b la:Option Addr}{key all last:List Nat}{Bw kb cb ln lc c k n₀ B D N ez h:Nat}{tu told:Bool}{Jd:Int}{xs:List aw}{ps:List Piece}{pre ys:List an}
section
attribute [-go_sem] Builtin.append_
structure jH where
 fa:Option Addr
 from_:List Nat
 fc:Nat
 en:Bool
 ta:Option Addr
 to:List Nat
 tc:Nat
def jH.cells(l:jH):List Value:=(MB l.fa l.from_.length l.fc l.en l.ta l.to.length l.tc)
def jH.v(l:jH):Value:=.agg (MB l.fa l.from_.length l.fc l.en l.ta l.to.length l.tc)
def o9(W:World)(l:jH):Prop:=ai W l.fa l.from_/\ai W l.ta l.to
theorem o9.below{W W':World}{l:jH}(h:o9 W l)(hb:Below W W W'):o9 W' l:=⟨h.1.below hb,h.2.below hb⟩
def jH.ends(l:jH)(key:List Nat):Bool:=l.en&&decide (0<=cmpL key l.to)
def jH.holds(l:jH)(key:List Nat):Bool:=decide (0<=cmpL key l.from_)&& !l.ends key
theorem Ei{l:jH}(c:Nat)(hl:o9 w l)(hk:ai w a key):
 Calls Tryz.prog 100 #[l.v,.slice a key.length c] w λ e w'=>e= .returned (.bool (l.ends key))/\Below w w w':=by
 have HC:=af λ (w2:World) (hb:Below w w w2)=>gL (c:=c) (d:=l.tc) (hk.below hb) (hl.2.below hb) rfl rfl
 have ei:Hid (Below w w (w.alloc (.cells (MB l.fa l.from_.length l.fc l.en l.ta l.to.length l.tc) 137))):=af (by go_grown)
 obtain⟨en,XN⟩:=aK l.en
 unfold jH.v
 rw[<-XN]at ei⊢
 have Kz:=af XN
 clear hl hk XN
 cases en with
 |false=>
  go_enter Tryz.func100,Tryz.ntmps100
  go_wp2_with fail
  go_ret
  exact⟨by unfold jH.ends;rw[<-Kz.O];rfl,ei.O⟩
 |true=>
  go_enter Tryz.func100,Tryz.ntmps100
  go_wp2_with first
   |((with_reducible refine(HC.O _ ei.O).mono ?_);rintro e w2 ⟨rfl,rfl⟩)
   |fail
  go_ret
  exact⟨by unfold jH.ends;rw[<-Kz.O];rfl,ei.O⟩
theorem KA{l:jH}(c:Nat)(hl:o9 w l)(hk:ai w a key):
 Calls Tryz.prog 99 #[l.v,.slice a key.length c] w λ e w'=>e= .returned (.bool (l.holds key))/\Below w w w':=by
 have HC:=af λ (w2:World) (hb:Below w w w2)=>gL (c:=c) (d:=l.fc) (hk.below hb) (hl.1.below hb) rfl rfl
 have HE:=af λ (w2:World) (hb:Below w w w2)=>Ei c (hl.below hb) (hk.below hb)
 have ei:Hid (Below w w (w.alloc (.cells (MB l.fa l.from_.length l.fc l.en l.ta l.to.length l.tc) 137))):=af (by go_grown)
 clear hl hk
 unfold jH.v at*
 by_cases hc:0<=cmpL key l.from_
 ·have h1:decide (0<=cmpL key l.from_)=true:=decide_eq_true hc
  have HH:Hid (l.holds key= !l.ends key):=af (by unfold jH.holds;rw[h1];rfl)
  go_enter Tryz.func99,Tryz.ntmps99
  go_wp2_with first
   |((with_reducible refine(HC.O _ ei.O).mono ?_);rintro e w2 ⟨rfl,rfl⟩)
   |((with_reducible refine(HE.O _ ei.O).mono ?_);rintro e w2 ⟨rfl,aC⟩)
   |fail
  go_ret
  exact⟨by rw[HH.O];rfl,ei.O.T (aC.mono ei.O.size)⟩
 ·have h1:decide (0<=cmpL key l.from_)=false:=decide_eq_false hc
  have HH:Hid (l.holds key=false):=af (by unfold jH.holds;rw[h1];rfl)
  go_enter Tryz.func99,Tryz.ntmps99
  go_wp2_with first
   |((with_reducible refine(HC.O _ ei.O).mono ?_);rintro e w2 ⟨rfl,rfl⟩)
   |fail
  go_ret
  exact⟨by rw[HH.O];rfl,ei.O⟩
def bn(l:jH)(b:Option Addr)(kb cb:Nat)(tu:Bool)(la:Option Addr)(ln lc:Nat)(told:Bool)(Jd:Int):Array Value:=
 #[.slice l.fa l.from_.length l.fc,.bool l.en,.slice l.ta l.to.length l.tc,.slice none 0 0,.slice b kb cb,.int .i64 (-1),.int .i64 (-1),.bool false,.bool tu,.slice la ln lc,.bool told,.int .i64 Jd]
def F9(l:jH)(ks:List (List Nat))(i:Nat):Bool:=
 !(decide (0<i)&&l.ends (ks.getD i []))&&(decide (i+1=ks.length)||decide (0<cmpL (ks.getD (i+1) []) l.from_))
theorem VH{l:jH}(hw:w.heap[Bw]? =some (.cells (bn l b kb cb tu la ln lc told Jd) 139))(hl:o9 w l)(hx:gT w a xs)(hxl:xs.length<=100)(i:Nat)(hi:i<xs.length)(v1:Option Addr)(n1 c1:Nat):
 Calls Tryz.prog 71 (QV (zp Bw) (.agg (qU v1 n1 c1 a xs.length c)) i) w λ e w'=>e= .returned (.bool (F9 l (xs.map aw.key) i))/\Below w w w':=by
 obtain⟨x,vm⟩:∃x,xs[i]? =some x:=⟨xs[i],by simp[hi]⟩
 obtain⟨C,o,rfl,hc⟩:∃C o,a=some ⟨C,o,none⟩/\∀(j:Nat) (x:aw),xs[j]? =some x->w.cell? ⟨C,o+j*8,none⟩=some (.slice x.ka x.key.length x.kc):=by
  rcases hx.1 with h|⟨C,o,e,h⟩
  ·rw[h]at hi;simp at hi
  ·exact⟨C,o,e, λ j x hj=>h j x hj 0 _ rfl⟩
 have MW:(xs.map aw.key).getD i []=x.key:=by simp[List.getD,vm]
 have HE:=af λ (w2:World) (hb:Below w w w2)=>Ei x.kc (hl.below hb) ((hx.below hb).2 x (List.mem_of_getElem? vm))
 have NI:=af λ (y:aw) (hy:xs[i+1]? =some y) (w2:World) (hb:Below w w w2)=>gL (c:=y.kc) (d:=l.fc) ((hx.below hb).2 y (List.mem_of_getElem? hy)) (hl.below hb).1 rfl rfl
 have ei:Hid (Below w w (w.alloc (.cells (qU v1 n1 c1 (some ⟨C,o,none⟩) xs.length c) 169)).drew):=af (by
  have:Below w w (w.alloc (.cells (qU v1 n1 c1 (some ⟨C,o,none⟩) xs.length c) 169)):=by go_grown
  exact this.drew)
 have HF:Hid (∀w2,Below w w w2->w2.cell? (za Bw 0)=some (.slice l.fa l.from_.length l.fc)/\w2.cell? (za Bw 1)=some (.bool l.en)/\w2.cell? (za Bw 2)=some (.slice l.ta l.to.length l.tc)/\w2.cell? ⟨C,o+i*8,none⟩=some (.slice x.ka x.key.length x.kc)):=af λ w2 hb=>
  ⟨carry hb ((aa hw 0).T rfl),carry hb ((aa hw 1).T rfl),carry hb ((aa hw 2).T rfl),carry hb (hc i x vm)⟩
 have HC:=af hc
 have HKI:=af MW
 have Ze:(i:Int)<(xs.length:Int):=ag
 have acV:(i:Int)<=100:=ag
 have hwi:IntKind.i64.wrap ((i:Int)+1)=(i:Int)+1:=by rw[IntKind.wrap_i64];omega
 have hti:((i:Int)+1).toNat=i+1:=ag
 have adj:(0:Int)<=(i:Int)+1:=ag
 unfold jH.v at HE
 clear hw hx hl hc vm MW
 obtain⟨f0,f1,f2,f3⟩:=HF.O _ ei.O
 have f4:((w.alloc (.cells (qU v1 n1 c1 (some ⟨C,o,none⟩) xs.length c) 169)).drew).cell? (za w 2)=some (.slice (some ⟨C,o,none⟩) xs.length c):=by
  show(w.alloc (.cells (qU v1 n1 c1 (some ⟨C,o,none⟩) xs.length c) 169)).cell? _=_
  rw[World.cell?_alloc_new];rfl
 by_cases h0:i=0
 ·have h0i:decide ((0:Int)<(i:Int))=false:=bV
  have hd:decide (0<i)=false:=bV
  clear h0
  go_enter Tryz.func71,Tryz.ntmps71
  go_wp2_with fail
  refine eL 99 (λ w'=>w'.cell? (za Bw 0)=some (.slice l.fa l.from_.length l.fc)/\w'.cell? (za Bw 1)=some (.bool l.en)/\w'.cell? (za Bw 2)=some (.slice l.ta l.to.length l.tc)/\w'.cell? ⟨C,o+i*8,none⟩=some (.slice x.ka x.key.length x.kc)/\w'.cell? (za w 2)=some (.slice (some ⟨C,o,none⟩) xs.length c)) aO ⟨f0,f1,f2,f3,f4⟩ (λ hS=>?_)
  refine tT 0 hS ?_
  refine tT 1 hS ?_
  refine tT 2 hS ?_
  refine tU 3 hS ?_
  refine tU 4 hS ?_
  refine tU 5 hS ?_
  refine tU 6 hS ?_
  refine tU 7 hS ?_
  refine tU 8 hS ?_
  refine tU 9 hS ?_
  refine tU 10 hS ?_
  refine tU 11 hS ?_
  refine tU 12 hS ?_
  refine sT 13 λ K hK=>?_
  go_simp
  refine bF hK hS (λ hS=>?_)
  clear hK K
  refine sT 14 λ K hK=>?_
  go_simp
  refine bF hK hS (λ hS=>?_)
  clear hK K
  refine fC aO ?_ _
  go_wp2_with fail
  by_cases h1:i+1=xs.length
  ·have h1i:((i:Int)+1==(xs.length:Int))=true:=bV
   have h1p:((i:Int)+1=(xs.length:Int))=True:=bV
   have HH:Hid (F9 l (xs.map aw.key) i=true):=af (by unfold F9;rw[hd];simp[h1])
   clear h1
   refine eL 99 (λ w'=>w'.cell? (za w 2)=some (.slice (some ⟨C,o,none⟩) xs.length c)) aO (by exact f4) (λ hS=>?_)
   refine tT 0 hS ?_
   refine tT 1 hS ?_
   refine tT 2 hS ?_
   refine tT 3 hS ?_
   refine tT 4 hS ?_
   refine tT 5 hS ?_
   refine tT 6 hS ?_
   refine tU 7 hS ?_
   refine tU 8 hS ?_
   refine tU 9 hS ?_
   refine tU 10 hS ?_
   refine tU 11 hS ?_
   refine tU 12 hS ?_
   refine tU 13 hS ?_
   refine tU 14 hS ?_
   refine tU 15 hS ?_
   refine tU 16 hS ?_
   refine tU 17 hS ?_
   refine tU 18 hS ?_
   refine sT 19 λ K hK=>?_
   go_simp
   refine bF hK hS (λ hS=>?_)
   clear hK K
   refine tU 20 hS ?_
   refine tT 21 hS ?_
   refine sT 22 λ K hK=>?_
   go_simp
   refine bF hK hS (λ hS=>?_)
   clear hK K
   refine fC aO ?_ _
   go_wp2_with fail
   go_ret
   exact⟨by rw[HH.O]<;>rfl,ei.O.drew⟩
  ·obtain⟨y,hy⟩:∃y,xs[i+1]? =some y:=⟨xs[i+1]'ag,by simp<;>omega⟩
   have h1i:((i:Int)+1==(xs.length:Int))=false:=bV
   have h1p:((i:Int)+1=(xs.length:Int))=False:=bV
   have h1j:(i:Int)+1<(xs.length:Int):=ag
   have VI:(xs.map aw.key).getD (i+1) []=y.key:=by simp[List.getD,hy]
   have HH:Hid (F9 l (xs.map aw.key) i=decide (0<cmpL y.key l.from_)):=af (by unfold F9;rw[hd,VI];simp[h1])
   have f5:=carry ei.O (HC.O _ y hy)
   have HY:=af (NI.O y hy)
   clear hy VI
   clear h1
   refine eL 99 (λ w'=>w'.cell? (za Bw 0)=some (.slice l.fa l.from_.length l.fc)/\w'.cell? ⟨C,o+(i+1)*8,none⟩=some (.slice y.ka y.key.length y.kc)/\w'.cell? (za w 2)=some (.slice (some ⟨C,o,none⟩) xs.length c)) aO ⟨f0,f5,f4⟩ (λ hS=>?_)
   refine tT 0 hS ?_
   refine tT 1 hS ?_
   refine tT 2 hS ?_
   refine tT 3 hS ?_
   refine tT 4 hS ?_
   refine tT 5 hS ?_
   refine tT 6 hS ?_
   refine tT 7 hS ?_
   refine tT 8 hS ?_
   refine tT 9 hS ?_
   refine tT 10 hS ?_
   refine tT 11 hS ?_
   refine tT 12 hS ?_
   refine tT 13 hS ?_
   refine tT 14 hS ?_
   refine tT 15 hS ?_
   refine tT 16 hS ?_
   refine tT 17 hS ?_
   refine tT 18 hS ?_
   refine sT 19 λ K hK=>?_
   go_simp
   (with_reducible refine(HY.O _ ei.O.drew).mono ?_);rintro e w2 ⟨rfl,rfl⟩
   refine bF hK ?_ (λ hS=>?_)
   ·exact hS
   clear hK K
   refine tT 20 hS ?_
   refine tT 21 hS ?_
   refine sT 22 λ K hK=>?_
   go_simp
   refine bF hK hS (λ hS=>?_)
   clear hK K
   refine fC aO ?_ _
   go_wp2_with fail
   go_ret
   exact⟨by rw[HH.O]<;>rfl,ei.O.drew⟩
 ·have h0i:decide ((0:Int)<(i:Int))=true:=bV
  have hd:decide (0<i)=true:=bV
  clear h0
  go_enter Tryz.func71,Tryz.ntmps71
  go_wp2_with fail
  refine eL 99 (λ w'=>w'.cell? (za Bw 0)=some (.slice l.fa l.from_.length l.fc)/\w'.cell? (za Bw 1)=some (.bool l.en)/\w'.cell? (za Bw 2)=some (.slice l.ta l.to.length l.tc)/\w'.cell? ⟨C,o+i*8,none⟩=some (.slice x.ka x.key.length x.kc)/\w'.cell? (za w 2)=some (.slice (some ⟨C,o,none⟩) xs.length c)) aO ⟨f0,f1,f2,f3,f4⟩ (λ hS=>?_)
  refine tT 0 hS ?_
  refine tT 1 hS ?_
  refine tT 2 hS ?_
  refine tT 3 hS ?_
  refine tT 4 hS ?_
  refine tT 5 hS ?_
  refine tT 6 hS ?_
  refine tT 7 hS ?_
  refine tT 8 hS ?_
  refine tT 9 hS ?_
  refine tT 10 hS ?_
  refine tT 11 hS ?_
  refine tT 12 hS ?_
  refine sT 13 λ K hK=>?_
  go_simp
  (with_reducible refine(HE.O _ ei.O).mono ?_);rintro e w3 ⟨rfl,aL⟩;have bA:=af (ei.O.T (aL.mono ei.O.size));have g4:=carry aL f4;clear f0 f1 f2 f3 f4;have f4:=g4;obtain⟨f0,f1,f2,f3⟩:=HF.O _ bA.O;clear aL
  refine bF hK ?_ (λ hS=>?_)
  ·exact⟨f0,f1,f2,f3,f4⟩
  clear hK K
  refine sT 14 λ K hK=>?_
  go_simp
  refine bF hK hS (λ hS=>?_)
  clear hK K
  refine fC aO ?_ _
  by_cases hle:l.ends x.key=true
  ·have HH:Hid (F9 l (xs.map aw.key) i=false):=af (by unfold F9;rw[HKI.O,hd,hle];rfl)
   go_wp2_with fail
   ·go_ret
    exact⟨by rw[HH.O]<;>rfl,bA.O⟩
   ·exact absurd (hle.symm.T UB) bd
  ·have hle:l.ends x.key=false:=by simpa using hle
   rw[<-HKI.O]at hle
   have hlx:=hle
   rw[HKI.O]at hlx
   have VJ:=af hle
   clear hle
   go_wp2_with fail
   by_cases h1:i+1=xs.length
   ·have h1i:((i:Int)+1==(xs.length:Int))=true:=bV
    have h1p:((i:Int)+1=(xs.length:Int))=True:=bV
    have HH:Hid (F9 l (xs.map aw.key) i=true):=af (by unfold F9;rw[hd,VJ.O];simp[h1])
    clear h1
    refine eL 99 (λ w'=>w'.cell? (za w 2)=some (.slice (some ⟨C,o,none⟩) xs.length c)) aO (by exact f4) (λ hS=>?_)
    refine tT 0 hS ?_
    refine tT 1 hS ?_
    refine tT 2 hS ?_
    refine tT 3 hS ?_
    refine tT 4 hS ?_
    refine tT 5 hS ?_
    refine tT 6 hS ?_
    refine tU 7 hS ?_
    refine tU 8 hS ?_
    refine tU 9 hS ?_
    refine tU 10 hS ?_
    refine tU 11 hS ?_
    refine tU 12 hS ?_
    refine tU 13 hS ?_
    refine tU 14 hS ?_
    refine tU 15 hS ?_
    refine tU 16 hS ?_
    refine tU 17 hS ?_
    refine tU 18 hS ?_
    refine sT 19 λ K hK=>?_
    go_simp
    refine bF hK hS (λ hS=>?_)
    clear hK K
    refine tU 20 hS ?_
    refine tT 21 hS ?_
    refine sT 22 λ K hK=>?_
    go_simp
    refine bF hK hS (λ hS=>?_)
    clear hK K
    refine fC aO ?_ _
    go_wp2_with fail
    go_ret
    exact⟨by rw[HH.O]<;>rfl,bA.O.drew⟩
   ·obtain⟨y,hy⟩:∃y,xs[i+1]? =some y:=⟨xs[i+1]'ag,by simp<;>omega⟩
    have h1i:((i:Int)+1==(xs.length:Int))=false:=bV
    have h1p:((i:Int)+1=(xs.length:Int))=False:=bV
    have h1j:(i:Int)+1<(xs.length:Int):=ag
    have VI:(xs.map aw.key).getD (i+1) []=y.key:=by simp[List.getD,hy]
    have HH:Hid (F9 l (xs.map aw.key) i=decide (0<cmpL y.key l.from_)):=af (by unfold F9;rw[hd,VI,VJ.O];simp[h1])
    have f5:=carry bA.O (HC.O _ y hy)
    have HY:=af (NI.O y hy)
    clear hy VI
    clear h1
    refine eL 99 (λ w'=>w'.cell? (za Bw 0)=some (.slice l.fa l.from_.length l.fc)/\w'.cell? ⟨C,o+(i+1)*8,none⟩=some (.slice y.ka y.key.length y.kc)/\w'.cell? (za w 2)=some (.slice (some ⟨C,o,none⟩) xs.length c)) aO ⟨f0,f5,f4⟩ (λ hS=>?_)
    refine tT 0 hS ?_
    refine tT 1 hS ?_
    refine tT 2 hS ?_
    refine tT 3 hS ?_
    refine tT 4 hS ?_
    refine tT 5 hS ?_
    refine tT 6 hS ?_
    refine tT 7 hS ?_
    refine tT 8 hS ?_
    refine tT 9 hS ?_
    refine tT 10 hS ?_
    refine tT 11 hS ?_
    refine tT 12 hS ?_
    refine tT 13 hS ?_
    refine tT 14 hS ?_
    refine tT 15 hS ?_
    refine tT 16 hS ?_
    refine tT 17 hS ?_
    refine tT 18 hS ?_
    refine sT 19 λ K hK=>?_
    go_simp
    (with_reducible refine(HY.O _ bA.O.drew).mono ?_);rintro e w2 ⟨rfl,rfl⟩
    refine bF hK ?_ (λ hS=>?_)
    ·exact hS
    clear hK K
    refine tT 20 hS ?_
    refine tT 21 hS ?_
    refine sT 22 λ K hK=>?_
    go_simp
    refine bF hK hS (λ hS=>?_)
    clear hK K
    refine fC aO ?_ _
    go_wp2_with fail
    go_ret
    exact⟨by rw[HH.O]<;>rfl,bA.O.drew⟩
inductive Nd where
 |leaf (xs:List an)
 |inner (xs:List aw)
def Nd.enc:Nd->List Nat| .leaf xs=>bG xs| .inner xs=>bf xs
def Nd.Ok:Nd->Prop| .leaf xs=>jb xs/\∀x∈xs,1<=x.val.length| .inner xs=>dt xs
def Nd.is:Nd->Bool| .leaf _=>true| .inner _=>false
def Nd.red:Nd->Nat| .leaf xs=>xs.length| .inner xs=>(xs.map aw.count).sum
def Nd.keys:Nd->List (List Nat)| .leaf xs=>xs.map an.key| .inner xs=>xs.map aw.key
def Nd.pd:Nd->Nd->Prop
 | .leaf ys,.leaf xs=>ys.map an.key=xs.map an.key/\ys.map an.val=xs.map an.val
 | .inner ys,.inner xs=>ys.map aw.key=xs.map aw.key/\ys.map aw.at_=xs.map aw.at_/\ys.map aw.count=xs.map aw.count
 |_,_=>False
def Nd.a1(a:Option Addr):Nd->Option Addr| .leaf _=>a| .inner _=>none
def Nd.n1:Nd->Nat| .leaf xs=>xs.length| .inner _=>0
def Nd.k1(k:Nat):Nd->Nat| .leaf _=>k| .inner _=>0
def Nd.a2(a:Option Addr):Nd->Option Addr| .leaf _=>none| .inner _=>a
def Nd.n2:Nd->Nat| .leaf _=>0| .inner xs=>xs.length
def Nd.k2(k:Nat):Nd->Nat| .leaf _=>0| .inner _=>k
def Nd.tL(n:Nd):Nat:=n.n1+n.n2
def Nd.v(n:Nd)(a:Option Addr)(k:Nat):Value:=.agg (tN n.is (n.a1 a) n.n1 (n.k1 k) (n.a2 a) n.n2 (n.k2 k))
def Nd.R(W:World)(n₀:Nat)(a:Option Addr)(k:Nat):Nd->Prop| .leaf xs=>dU W n₀ a k xs| .inner xs=>fm W n₀ a k xs
def Nd.At(W:World)(a:Option Addr):Nd->Prop| .leaf xs=>dQ W a xs| .inner xs=>gT W a xs
theorem Nd.R.at{W:World}{n₀ k:Nat}{a:Option Addr}{n:Nd}(h:n.R W n₀ a k):n.At W a:=by
 cases n
 ·exact dU.at h
 ·exact fm.at h
theorem Nd.R.below{W W':World}{n₀ k:Nat}{a:Option Addr}{n:Nd}(h:n.R W n₀ a k)(hb:Below W W W'):n.R W' n₀ a k:=by
 cases n
 ·exact dU.below h hb
 ·exact fm.below h hb
theorem Nd.R.rn{W:World}{n₀ ez k:Nat}{a:Option Addr}{n:Nd}(h:n.R W n₀ a k)(hn:ez<=n₀):n.R W ez a k:=by
 cases n
 ·exact dU.rn h hn
 ·exact fm.rn h hn
theorem Nd.R.AR{W W':World}{R:Nat}(hk:∀j,j≠R->W'.heap[j]? =W.heap[j]?){cs:Array Value}{t:TypeId}{fz:Nat×Nat}(hR:W.heap[R]? =some (.cells cs t fz))(h1:t≠114)(h2:t≠175)(h8:∀(j x:Nat),cs[j]? ≠some (.int .u8 (x:Int))){n₀ k:Nat}{a:Option Addr}{n:Nd}(h:n.R W n₀ a k):n.R W' n₀ a k:=by
 cases n
 ·exact dU.AR hk hR h1 h8 h
 ·exact fm.AR hk hR h2 h8 h
theorem Nd.pd.ok{m n:Nd}(h:m.pd n)(ho:n.Ok):m.Ok:=by
 cases m<;>cases n<;>simp only[Nd.pd]at h
 ·obtain⟨h1,h2,_⟩:=ho.1.same ho.2 h;exact⟨h1,h2⟩
 ·exact(dt.same ho h).1
theorem Nd.pd.enc{m n:Nd}(h:m.pd n)(ho:n.Ok):m.enc=n.enc:=by
 cases m<;>cases n<;>simp only[Nd.pd]at h
 ·exact(ho.1.same ho.2 h).2.2
 ·exact(dt.same ho h).2
theorem Nd.pd.keys{m n:Nd}(h:m.pd n):m.keys=n.keys:=by
 cases m<;>cases n<;>simp only[Nd.pd]at h
 ·exact h.1
 ·exact h.1
theorem Nd.pd.red{m n:Nd}(h:m.pd n):m.red=n.red:=by
 cases m<;>cases n<;>simp only[Nd.pd]at h
 ·have:=congrArg List.length h.1;simpa[Nd.red]using this
 ·simp only[Nd.red,h.2.2]
theorem Nd.pd.is{m n:Nd}(h:m.pd n):m.is=n.is:=by cases m<;>cases n<;>simp only[Nd.pd]at h<;>rfl
theorem Nd.pd.tL{m n:Nd}(h:m.pd n):m.tL=n.tL:=by
 have:=congrArg List.length h.keys
 cases m<;>cases n<;>simp only[Nd.pd]at h<;>simpa[Nd.keys,Nd.tL,Nd.n1,Nd.n2]using this
theorem Nd.Ok.red{n:Nd}(ho:n.Ok):n.red<=1073741824:=by
 cases n with
 |leaf xs=>have:=ho.1.kT;simp only[Nd.red];omega
 |inner xs=>
  have h:=Ca xs λ x hx=>(ho.key x hx).2.2.2.2.2
  have:=ho.kT
  simp only[sq]at h
  simp only[Nd.red];omega
theorem Cn(hF:au w b c ps)(hm:Marks (al ps))(at_ d:Nat){n:Nd}(hd:n.is=decide (d=0))(hr:dO (al ps) at_ n.enc)(ho:n.Ok):
 Calls Tryz.prog 101 #[aE b ps.length c,.int .i64 (at_:Int),.int .i64 (d:Int)] w λ e w'=>∃(m:Nd) (a:Option Addr) (k:Nat),m.pd n/\e= .returned (.tuple #[m.v a k,.int .i64 0])/\m.R w' w.heap.size a k/\Below w w w':=by
 cases n with
 |leaf xs=>
  have:d=0:=by simpa[Nd.is]using hd.symm
  subst this
  refine(Ky hF hm at_ hr ho.1 ho.2).mono ?_
  rintro e w' ⟨ys,a,k,h1,rfl,h2,h3⟩
  exact⟨.leaf ys,a,k,h1,rfl,h2,h3⟩
 |inner xs=>
  have:1<=d:=by have:¬ d=0:=by simpa[Nd.is]using hd.symm
                omega
  refine(GM hF hm at_ d this hr ho).mono ?_
  rintro e w' ⟨ys,a,k,h1,rfl,h2,h3⟩
  exact⟨.inner ys,a,k,h1,rfl,h2,h3⟩
def Nd.XY:Nd->Option Addr| .leaf (x::_)=>x.ka| .inner (x::_)=>x.ka|_=>none
theorem AW{n:Nd}(h:n.At w a)(ho:n.Ok)(key:List Nat)(hk:n.keys[0]? =some key):
 Calls Tryz.prog 102 #[n.v a k] w λ e w'=>∃c,e= .returned (.tuple (BH n.XY key.length c))/\ai w' n.XY key/\Below w w w':=by
 cases n with
 |leaf xs=>
  cases xs with
  |nil=>simp[Nd.keys]at hk
  |cons x xs=>
   obtain rfl:x.key=key:=by simpa[Nd.keys]using hk
   refine(GG k h ho.1 none 0 x rfl).mono ?_
   rintro e w' ⟨rfl,hb⟩
   exact⟨_,rfl,(h.2 x List.mem_cons_self).1.below hb,hb⟩
 |inner xs=>
  cases xs with
  |nil=>simp[Nd.keys]at hk
  |cons x xs=>
   obtain rfl:x.key=key:=by simpa[Nd.keys]using hk
   refine(DX k h ho none 0 x rfl).mono ?_
   rintro e w' ⟨rfl,hb⟩
   exact⟨_,rfl,(h.2 x List.mem_cons_self).below hb,hb⟩
theorem NJ{n:Nd}(h:n.At w a)(ho:n.Ok)(key:List Nat)(hk:n.keys[0]? =some key):
 Calls Tryz.prog 102 #[n.v a k] w λ e w'=>∃b c,e= .returned (.tuple (BH b key.length c))/\ai w' b key/\Below w w w':=
 (AW h ho key hk).mono λ _ _ ⟨c,h1,h2,h3⟩=>⟨_,c,h1,h2,h3⟩
theorem NK{n:Nd}(h:n.R w n₀ a k)(ho:n.Ok)(key:List Nat)(hk:n.keys[0]? =some key):
 Calls Tryz.prog 102 #[n.v a k] w λ e w'=>∃b c,e= .returned (.tuple (BH b key.length c))/\ai w' b key/\Below w w w':=NJ h.at ho key hk
theorem NL{n:Nd}(h:n.At w a)(ho:n.Ok):
 Calls Tryz.prog 103 #[n.v a k] w λ e w'=>e= .returned (.tuple #[fX (n.red:Nat),.int .i64 0])/\Below w w w':=by
 have hr:=ho.red
 cases n with
 |leaf xs=>
  have e:=AP xs
  have:=Kw k h ho.1 none 0 (by rw[e];exact hr)
  rw[e]at this
  exact this
 |inner xs=>exact GH k h ho none 0 hr
theorem NM{n:Nd}(h:n.R w n₀ a k)(ho:n.Ok):
 Calls Tryz.prog 103 #[n.v a k] w λ e w'=>e= .returned (.tuple #[fX (n.red:Nat),.int .i64 0])/\Below w w w':=NL h.at ho
abbrev KV:=List Nat×List Nat
def eC(x:an):KV:=(x.key,x.val)
def er(all:List Nat):Nat->Nd->Nat->List KV->Prop
 |0,.leaf xs,at_,items=>dO all at_ (bG xs)/\(Nd.leaf xs).Ok/\items=xs.map eC
 |d+1,.inner xs,at_,items=>dO all at_ (bf xs)/\(Nd.inner xs).Ok/\∃cq:List (List KV),cq.length=xs.length/\items=cq.flatten/\
   ∀(j:Nat) (x:aw) (s:List KV),xs[j]? =some x->cq[j]? =some s->x.at_<at_/\∃n:Nd,3<=n.tL/\x.count=n.red/\n.keys[0]? =some x.key/\er all d n x.at_ s
 |_,_,_,_=>False
theorem er.more{all:List Nat}(m:List Nat):∀{d at_:Nat} {n:Nd} {items:List KV},er all d n at_ items->er (all++m) d n at_ items
 |0,_,.leaf _,_,⟨h1,h2,h3⟩=>⟨h1.more m,h2,h3⟩
 |d+1,_,.inner _,_,⟨h1,h2,cq,h3,h4,h5⟩=>⟨h1.more m,h2,cq,h3,h4, λ j x s hx hs=>by
   obtain⟨a1,n,a2,a3,a4,a5⟩:=h5 j x s hx hs
   exact⟨a1,n,a2,a3,a4,a5.more m⟩⟩
 |0,_,.inner _,_,h=>h.elim
 |_+1,_,.leaf _,_,h=>h.elim
theorem er.node:∀{d at_:Nat} {n:Nd} {items:List KV},er all d n at_ items->dO all at_ n.enc/\n.Ok/\n.is=decide (d=0)
 |0,_,.leaf _,_,⟨h1,h2,_⟩=>⟨h1,h2,rfl⟩
 |_+1,_,.inner _,_,⟨h1,h2,_⟩=>⟨h1,h2,rfl⟩
 |0,_,.inner _,_,h=>h.elim
 |_+1,_,.leaf _,_,h=>h.elim
theorem vo:∀(xs:List aw) (cq:List (List KV)),cq.length=xs.length->(∀(j:Nat) (x:aw) (s:List KV),xs[j]? =some x->cq[j]? =some s->x.count=s.length)->(xs.map aw.count).sum=cq.flatten.length
 |[],[],_,_=>rfl
 |[],_::_,h,_=>by simp at h
 |_::_,[],h,_=>by simp at h
 |x::xs,s::cq,h,hj=>by
  rw[List.map_cons,List.sum_cons,List.flatten_cons,List.length_append,hj 0 x s rfl rfl,vo xs cq (by simpa using h) λ j x s hx hs=>hj (j+1) x s hx hs]
theorem er.count{all:List Nat}:∀{d at_:Nat} {n:Nd} {items:List KV},er all d n at_ items->n.red=items.length
 |0,_,.leaf _,_,⟨_,_,h3⟩=>by subst h3;simp[Nd.red]
 |d+1,_,.inner xs,_,⟨_,_,cq,h3,h4,h5⟩=>by
  subst h4
  exact vo xs cq h3 λ j x s hx hs=>by
   obtain⟨_,n,_,a3,_,a5⟩:=h5 j x s hx hs
   rw[a3,a5.count]
 |0,_,.inner _,_,h=>h.elim
 |_+1,_,.leaf _,_,h=>h.elim
theorem er.first{all:List Nat}:∀{d at_:Nat} {n:Nd} {items:List KV},er all d n at_ items->∃kv r,items=kv::r/\n.keys[0]? =some kv.1
 |0,_,.leaf xs,_,⟨_,h2,h3⟩=>by
  have:=h2.1.DQ
  cases xs with
  |nil=>simp at this
  |cons x xs=>exact⟨eC x,xs.map eC,h3,rfl⟩
 |d+1,_,.inner xs,_,⟨_,h2,cq,h3,h4,h5⟩=>by
  have:=dt.DR h2
  match xs,cq,h3,h4,h5 with
  |x::xs,s::cq,h3,h4,h5=>
   obtain⟨_,n,_,_,a4,a5⟩:=h5 0 x s rfl rfl
   obtain⟨kv,r,e1,e2⟩:=a5.first
   refine⟨kv,r++cq.flatten,by rw[h4,e1];rfl,?_⟩
   rw[e2]at a4
   simpa[Nd.keys]using a4.symm
  |[],_,_,_,_=>simp at this
  |_::_,[],h3,_,_=>simp at h3
 |0,_,.inner _,_,h=>h.elim
 |_+1,_,.leaf _,_,h=>h.elim
structure dh(all:List Nat)(at_ d c:Nat)(items:List KV):Prop where
 none_:items=[]->at_=0/\d=0
 some_:items≠[]->1<=at_/\d<=8/\∃n,er all d n at_ items
 count:c=items.length
 oW:bb (items.map Prod.fst)
theorem dh.more{all:List Nat}{at_ d n:Nat}{items:List KV}(h:dh all at_ d n items)(m:List Nat):dh (all++m) at_ d n items:=
 ⟨h.none_, λ e=>by obtain⟨a,b,f,s⟩:=h.some_ e;exact⟨a,b,f,s.more m⟩,h.count,h.oW⟩
theorem ga{u v x:Value}{t:TypeId}{fz:Nat×Nat}(h:W.heap[B]? =some (.cells #[u,v,x] t fz)):W.cell? (za B 0)=some u/\W.cell? (za B 1)=some v/\W.cell? (za B 2)=some x:=⟨(aa h 0).T rfl,(aa h 1).T rfl,(aa h 2).T rfl⟩
theorem Nd.Ok.C3{n:Nd}(ho:n.Ok):n.n1<=6/\n.n2<=6:=by
 cases n with
 |leaf xs=>exact⟨ho.1.kT,Nat.zero_le _⟩
 |inner xs=>exact⟨Nat.zero_le _,dt.kT ho⟩
theorem RA{l:jH}(hw:w.heap[Bw]? =some (.cells (bn l b ps.length cb tu la ln lc told Jd) 139))(hF:au w b cb ps)(hm:Marks (al ps))
 (x:aw)(hx:ai w x.ka x.key)(Je d:Nat){n:Nd}(hd:n.is=decide (d=0))(hr:dO (al ps) x.at_ n.enc)(ho:n.Ok)(hab:x.at_<Je)(ZH:3<=n.tL)(NN:x.count=n.red)(NO:n.keys[0]? =some x.key):
 Calls Tryz.prog 72 #[.pointer (zp Bw),x.v,.int .i64 (d:Int),.int .i64 (Je:Int)] w λ e w'=>∃(m:Nd) (a:Option Addr) (k:Nat),m.pd n/\e= .returned (.tuple #[m.v a k,.bool true])/\m.R w' w.heap.size a k/\Below w w w':=by
 have RB:=af λ (w2:World) (hb:Below w w w2)=>Cn (hF.below hb) hm x.at_ d hd hr ho
 have HFI:=af λ (w2:World) (m:Nd) (a:Option Addr) (k n₀:Nat) (hs:m.pd n) (h:m.R w2 n₀ a k)=>NK h (hs.ok ho) x.key (by rw[hs.keys];exact NO)
 have XZ:=af λ (w2:World) (m:Nd) (a:Option Addr) (k n₀:Nat) (hs:m.pd n) (h:m.R w2 n₀ a k)=>NM h (hs.ok ho)
 have ZG:=af λ (w2:World) (hb:Below w w w2) (b:Option Addr) (c d:Nat) (hk:ai w2 b x.key)=>ug (c:=c) (d:=d) hk (hx.below hb) rfl rfl
 have RC:=af λ (m:Nd) (hs:m.pd n)=>(⟨hs.tL▸ZH,(hs.ok ho).C3⟩:3<=m.tL/\m.n1<=6/\m.n2<=6)
 have VK:=af λ (m:Nd) (hs:m.pd n)=>(hs.red▸NN:x.count=m.red)
 unfold aE at RB
 obtain⟨w1,aH⟩:=aK ((w.alloc (.cells (gv x.ka x.key.length x.kc x.at_ x.count) 175)).alloc (.cells eD 169))
 have cZ:Hid (Below w w w1):=af (by rw[aH];go_grown)
 have HF:Hid (∀w2,Below w1 w1 w2->(w2.cell? (za Bw 3)=some (.slice none 0 0)/\w2.cell? (za Bw 4)=some (.slice b ps.length cb)/\w2.cell? (za Bw 5)=some (.int .i64 (-1))/\w2.cell? (za Bw 6)=some (.int .i64 (-1))/\w2.cell? (za Bw 7)=some (.bool false))/\
  (w2.cell? (za w 0)=some (.slice x.ka x.key.length x.kc)/\w2.cell? (za w 1)=some (.int .i64 (x.at_:Int))/\w2.cell? (za w 2)=some (.int .i64 (x.count:Int))/\w2.cell? (za w 3)=some (.int .i64 0)/\w2.cell? (za w 4)=some (.int .i64 0)/\w2.cell? (za w 5)=some (.int .u64 0)/\w2.cell? (za w 6)=some (.int .i64 0)/\w2.cell? (za w 7)=some (.int .i64 0))/\
  w2.heap[w.heap.size+1]? =some (.cells eD 169)):=af λ w2 hb=>by
  have aC:=cZ.O.T (hb.mono cZ.O.size)
  have hc:∀j,w2.cell? ⟨Bw,j,none⟩=(bn l b ps.length cb tu la ln lc told Jd)[j]? := λ j=>aa ((aC.block Bw (aX hw).1).T hw) j
  rw[aH]at hb
  have bB:=aS hb
  exact⟨⟨(hc 3).T rfl,(hc 4).T rfl,(hc 5).T rfl,(hc 6).T rfl,(hc 7).T rfl⟩,⟨(aa bB.1 0).T rfl,(aa bB.1 1).T rfl,(aa bB.1 2).T rfl,(aa bB.1 3).T rfl,(aa bB.1 4).T rfl,(aa bB.1 5).T rfl,(aa bB.1 6).T rfl,(aa bB.1 7).T rfl⟩,bB.2⟩
 have F6:decide ((Je:Int)<=(x.at_:Int))=false:=bV
 unfold aw.v Ks
 clear hw hF hm hr hx hd ho NO ZH NN hab
 have dm:w1.heap.size=w.heap.size+1+1:=by rw[aH];simp
 go_enter Tryz.func72,Tryz.ntmps72
 go_wp2_with fail
 rw[<-aH]
 have bR:=af (Below.refl w1 w1)
 clear aH
 obtain⟨⟨f3,f4,f5,f6,f7⟩,⟨x0,x1,x2,x3,x4,x5,x6,x7⟩, -⟩:=HF.O _ bR.O
 refine bP 14 ?_
 refine tP [0,1,2,3,4,5,6] ?_
 iterate 7 refine tO ?_
 refine ah 7 rfl ?_
 refine Gr 7 11 [0,1,2,3,4,5,6] [] (λ K hK=>?_) λ K hK=>?_
 go_simp
 (with_reducible refine(RB.O _ (cZ.O.T (bR.O.mono cZ.O.size)).drew).mono ?_);rintro e w3 ⟨m,a,k,cS,rfl,oP,aL⟩
 have bA:=af (bR.O.drew.T (aL.mono bR.O.size))
 have gD:=af oP
 have NP:=af aL
 have rr:=af cS
 unfold Nd.v
 clear oP aL cS
 clear f3 f4 f5 f6 f7 x0 x1 x2 x3 x4 x5 x6 x7
 obtain⟨⟨f3,f4,f5,f6,f7⟩,⟨x0,x1,x2,x3,x4,x5,x6,x7⟩, -⟩:=HF.O _ bA.O
 refine nP hK ?_
 clear hK K
 refine tP [8,9,10] ?_
 iterate 3 refine tO ?_
 refine ah 3 rfl ?_
 refine sP 11 [0,1,2,3,4,5,6] λ K hK=>?_
 go_simp
 have Ej:=af (bA.O.alloc bA.O.size (.cells eD 169))
 clear f3 f4 f5 f6 f7 x0 x1 x2 x3 x4 x5 x6 x7
 obtain⟨⟨f3,f4,f5,f6,f7⟩,⟨x0,x1,x2,x3,x4,x5,x6,x7⟩, -⟩:=HF.O _ Ej.O
 refine nP hK ?_
 clear hK K
 refine sP 12 [0,1,2,3,4,5,6,7,8,9,11] λ K hK=>?_
 go_simp
 refine nP hK ?_
 clear hK K
 refine tP [13] ?_
 refine tO ?_
 refine ah 0 rfl ?_
 refine dP ?_
 go_simp
 obtain⟨W,hW⟩:=aK (w3.alloc (.cells (tN m.is (m.a1 a) m.n1 (m.k1 k) (m.a2 a) m.n2 (m.k2 k)) 169))
 obtain⟨A,hA⟩:=aK w3.heap.size
 have HA:Hid (W.heap[A]? =some (.cells (tN m.is (m.a1 a) m.n1 (m.k1 k) (m.a2 a) m.n2 (m.k2 k)) 169)):=af (by rw[hW,hA];exact World.alloc_heap_new w3 _)
 have lJ:Hid (Below w1 w1 W):=af (by rw[hW];exact bA.O.alloc bA.O.size _)
 have KB:Hid (m.R W w.heap.size a k):=af (by rw[hW];exact(gD.O.rn (by have:=cZ.O.size;simpa using this)).below ((Below.refl _ w3).alloc (aW) _))
 have HAN:Hid (w1.heap.size<=A):=af (by rw[hA];exact bA.O.size)
 rw[<-hW,<-hA]
 clear Ej hW hA gD NP bA
 rotate_left
 go_simp
 have nF:=af ((Below.refl w1 w1).alloc (aW) (.cells eD 169))
 clear f3 f4 f5 f6 f7 x0 x1 x2 x3 x4 x5 x6 x7
 obtain⟨⟨f3,f4,f5,f6,f7⟩,⟨x0,x1,x2,x3,x4,x5,x6,x7⟩, -⟩:=HF.O _ nF.O
 refine nP hK ?_
 clear hK K
 refine sP 7 [0,1,2,3,4,5,6] λ K hK=>?_
 go_simp
 (with_reducible refine(RB.O _ (cZ.O.T (nF.O.mono cZ.O.size)).drew).mono ?_);rintro e w3 ⟨m,a,k,cS,rfl,oP,aL⟩
 have bA:=af (nF.O.drew.T (aL.mono nF.O.size))
 have gD:=af oP
 have NP:=af aL
 have rr:=af cS
 unfold Nd.v
 have hn:=(aL.block (w.heap.size+1+1) (by simp[dm])).T (show((w1.alloc (.cells eD 169)).drew).heap[w.heap.size+1+1]? =_ from dm▸World.alloc_heap_new w1 (.cells eD 169))
 have n0:=(aa hn 0).T rfl
 have n1:=(aa hn 1).T rfl
 have n2:=(aa hn 2).T rfl
 have nf:=ak hn
 have HN:=af hn
 simp only[aD]at n0 n1 n2
 clear hn
 clear oP aL cS
 clear f3 f4 f5 f6 f7 x0 x1 x2 x3 x4 x5 x6 x7
 obtain⟨⟨f3,f4,f5,f6,f7⟩,⟨x0,x1,x2,x3,x4,x5,x6,x7⟩, -⟩:=HF.O _ bA.O
 refine nP hK ?_
 clear hK K
 refine tP [8,9,10] ?_
 iterate 3 refine tO ?_
 refine ah 2 rfl ?_
 refine sP 12 [0,1,2,3,4,5,6,7,8,9,11] λ K hK=>?_
 go_simp
 refine nP hK ?_
 clear hK K
 refine tP [13] ?_
 refine tO ?_
 refine ah 0 rfl ?_
 refine dP ?_
 go_simp
 obtain⟨V,hV⟩:=aK w3
 obtain⟨A,hA⟩:=aK (w.heap.size+1+1)
 have hVA:V.heap[A]? =some (.cells eD 169):=by rw[hV,hA];exact HN.O
 have eP:Below w1 w1 V:=by rw[hV];exact bA.O
 have Mn:m.R V w.heap.size a k:=by rw[hV];exact gD.O.rn (by have:=cZ.O.size;simp;omega)
 have NQ:w1.heap.size<=A:=by rw[hA];exact Nat.le_of_eq dm
 have HA:=af (rq (v0:=.bool m.is) (v1:=.slice (m.a1 a) m.n1 (m.k1 k)) (v2:=.slice (m.a2 a) m.n2 (m.k2 k)) hVA)
 have lJ:=af (eP.T (fN (v0:=.bool m.is) (v1:=.slice (m.a1 a) m.n1 (m.k1 k)) (v2:=.slice (m.a2 a) m.n2 (m.k2 k)) NQ))
 have KB:=af (Mn.AR (λ j hj=>gC (v0:=.bool m.is) (v1:=.slice (m.a1 a) m.n1 (m.k1 k)) (v2:=.slice (m.a2 a) m.n2 (m.k2 k)) j hj) hVA bd bd (by intro j x;rcases j with _|_|_|j<;>simp))
 rw[<-hV,<-hA]
 obtain⟨W,hW⟩:=aK (((V.setCell (za A 0) (.bool m.is)).setCell (za A 1) (.slice (m.a1 a) m.n1 (m.k1 k))).setCell (za A 2) (.slice (m.a2 a) m.n2 (m.k2 k)))
 rw[<-hW]at HA lJ KB
 rw[<-hW]
 have HAN:=af NQ
 clear nF HN n0 n1 n2 nf
 clear hV hA hVA eP Mn NQ hW gD NP bA
 rotate_left
 all_goals
  obtain⟨f0,f1,f2⟩:=ga HA.O
  clear f3 f4 f5 f6 f7 x0 x1 x2 x3 x4 x5 x6 x7
  obtain⟨⟨f3,f4,f5,f6,f7⟩,⟨x0,x1,x2,x3,x4,x5,x6,x7⟩, -⟩:=HF.O _ lJ.O
  have ZI:=lJ
  have ZJ:=HA
  have HIc:=KB
  have Mo:=RC.O m rr.O
  unfold Nd.tL at Mo
  have dD:(m.n1:Int)<=6:=ag
  have fu:(m.n2:Int)<=6:=ag
  have h3:decide ((m.n1:Int)+(m.n2:Int)<3)=false:=bV
  have adk:decide (Je<=x.at_)=false:=by simpa using F6
  have C6:((m.red:Int)==(x.count:Int))=true:=by rw[VK.O m rr.O];simp
  have ZK:=af (HFI.O W m a k _ rr.O KB.O)
  unfold Nd.v at ZK
  clear Mo
  go_wp2_with first
   |((with_reducible refine ZK.O.mono ?_);rintro e w4 ⟨b4,c4,rfl,KC,bH⟩
     have abU:=af KC
     clear KC
     have iJ:=af (ZI.O.T (bH.mono ZI.O.size))
     have HA4:=af ((bH.block _ (aX ZJ.O).1).T ZJ.O)
     have HI4:=af (HIc.O.below bH)
     clear f0 f1 f2 f3 f4 f5 f6 f7 x0 x1 x2 x3 x4 x5 x6 x7 bH
     obtain⟨f0,f1,f2⟩:=ga HA4.O
     obtain⟨⟨f3,f4,f5,f6,f7⟩,⟨x0,x1,x2,x3,x4,x5,x6,x7⟩, -⟩:=HF.O _ iJ.O
     have NR:=af (XZ.O w4 m a k _ rr.O HI4.O)
     unfold Nd.v at NR)
   |((with_reducible refine NR.O.mono ?_);rintro e w5 ⟨rfl,bJ⟩
     have abV:=af (abU.O.below bJ)
     have eN:=af (iJ.O.T (bJ.mono iJ.O.size))
     have VL:=af ((bJ.block _ (aX HA4.O).1).T HA4.O)
     have HI5:=af (HI4.O.below bJ)
     clear f0 f1 f2 f3 f4 f5 f6 f7 x0 x1 x2 x3 x4 x5 x6 x7 bJ
     obtain⟨f0,f1,f2⟩:=ga VL.O
     obtain⟨⟨f3,f4,f5,f6,f7⟩,⟨x0,x1,x2,x3,x4,x5,x6,x7⟩, -⟩:=HF.O _ eN.O
     have fD:=(Below.refl w5 w5).alloc (aW) (.cells (qT m.red) 39)
     have abW:=af (abV.O.below fD)
     have jY:=af (eN.O.T (fD.mono eN.O.size))
     have HA6:=af ((fD.block _ (aX VL.O).1).T VL.O)
     have HI6:=af (HI5.O.below fD)
     clear f0 f1 f2 f3 f4 f5 f6 f7 x0 x1 x2 x3 x4 x5 x6 x7 fD
     obtain⟨f0,f1,f2⟩:=ga HA6.O
     obtain⟨⟨f3,f4,f5,f6,f7⟩,⟨x0,x1,x2,x3,x4,x5,x6,x7⟩, -⟩:=HF.O _ jY.O
     have abX:=af (ZG.O _ (cZ.O.T (jY.O.mono cZ.O.size)) b4 c4 x.kc abW.O)
     have abY:∀W,(binOp BinOp.neq 39 (.agg (qT m.red)) (.agg (qT x.count))).run Tryz.prog W= .ok (.bool false) W:= λ W=>by
      have:=I6 (m.red:Int) (x.count:Int) W
      rw[C6]at this
      exact this
     have xr:=(HF.O _ jY.O).2.2
     obtain⟨y0,y1,y2⟩:=ga xr
     have yf:=ak xr
     have Qv:=af xr
     clear xr
     unfold fX)
   |((with_reducible refine abX.O.mono ?_);rintro e w7 ⟨rfl,rfl⟩)
   |fail
 all_goals
  refine bodyPost_ret (v:=.tuple #[m.v a k,.bool true]) ?_ (by rfl) ⟨m,a,k,rr.O,rfl,HI6.O.AR (λ j hj=>gC j hj) Qv.O bd bd (by intro j x;rcases j with _|_|_|j<;>simp),(cZ.O.T (jY.O.mono cZ.O.size)).T (fN (Nat.le_succ _))⟩
  obtain⟨s0,s1,s2⟩:=ga (rq (v0:=.bool m.is) (v1:=.slice (m.a1 a) m.n1 (m.k1 k)) (v2:=.slice (m.a2 a) m.n2 (m.k2 k)) Qv.O)
  rw[results_cell_tmp rfl]
  unfold Nd.v
  go_simp
def cM(at_ d n:Nat):Value:=.agg (ju at_ d n)
theorem NT(at_ d n:Nat)(h:at_≠0)(W:World):(binOp BinOp.eql 41 (cM at_ d n) (.agg sd)).run Tryz.prog W= .ok (.bool false) W:=by
 obtain⟨f0,f1,f2,hf,h0⟩:∃f0 f1 f2:Field,(Tryz.prog.fieldsOf 41).toList=[f0,f1,f2]/\(f0.type=3/\f0.offset=0/\(f0.name== "_")=false):=⟨_,_,_,rfl,⟨rfl,rfl,rfl⟩⟩
 have e:((at_:Int)==0)=false:=bV
 unfold cM
 rw[run_eql_struct]
 rw[AK (r:=false) aO hf aO ?_]
 ·rfl
 ·rw[kR (a:=.int .i64 (at_:Int)) (b:=.int .i64 0) (r:=false) h0.2.2 (by rw[h0.1,h0.2.1];kernel_rfl) (by rw[h0.1,h0.2.1];kernel_rfl) (by rw[h0.1,<-e];exact run_equalIn_int W 9998 _ .i64 .i64 _ _ aO)]
  rfl
theorem KD{l:jH}(hw:w.heap[Bw]? =some (.cells (bn l b ps.length cb tu la ln lc told Jd) 139))(hF:au w b cb ps):
 Calls Tryz.prog 73 #[.pointer (zp Bw),cM 0 0 0] w λ e w'=>e= .returned (.tuple (Gj (.agg eD)))/\Below w w w':=by
 have C5:=af λ (w2:World) (hb:Below w w w2)=>gg (hF.below hb)
 unfold aE at C5
 obtain⟨w1,aH⟩:=aK ((w.alloc (.cells sd 41)).alloc (.cells eD 169))
 have cZ:Hid (Below w w w1):=af (by rw[aH];go_grown)
 have HF:Hid (∀w2,Below w1 w1 w2->(w2.cell? (za Bw 3)=some (.slice none 0 0)/\w2.cell? (za Bw 4)=some (.slice b ps.length cb)/\w2.cell? (za Bw 5)=some (.int .i64 (-1))/\w2.cell? (za Bw 6)=some (.int .i64 (-1))/\w2.cell? (za Bw 7)=some (.bool false))/\
  (w2.cell? (za w 0)=some (.int .i64 0)/\w2.cell? (za w 1)=some (.int .i64 0)/\w2.cell? (za w 2)=some (.int .i64 0)/\w2.cell? (za w 3)=some (.int .i64 0)/\w2.cell? (za w 4)=some (.int .i64 0)/\w2.cell? (za w 5)=some (.int .u64 0)/\w2.cell? (za w 6)=some (.int .i64 0)/\w2.cell? (za w 7)=some (.int .i64 0))/\
  w2.heap[w.heap.size+1]? =some (.cells eD 169)):=af λ w2 hb=>by
  have aC:=cZ.O.T (hb.mono cZ.O.size)
  have hc:∀j,w2.cell? ⟨Bw,j,none⟩=(bn l b ps.length cb tu la ln lc told Jd)[j]? := λ j=>aa ((aC.block Bw (aX hw).1).T hw) j
  rw[aH]at hb
  have bB:=aS hb
  exact⟨⟨(hc 3).T rfl,(hc 4).T rfl,(hc 5).T rfl,(hc 6).T rfl,(hc 7).T rfl⟩,⟨(aa bB.1 0).T rfl,(aa bB.1 1).T rfl,(aa bB.1 2).T rfl,(aa bB.1 3).T rfl,(aa bB.1 4).T rfl,(aa bB.1 5).T rfl,(aa bB.1 6).T rfl,(aa bB.1 7).T rfl⟩,bB.2⟩
 have heq:∀W:World,(binOp BinOp.eql 41 (.agg sd) (.agg sd)).run Tryz.prog W= .ok (.bool true) W:= λ W=>aO
 unfold cM
 clear hw hF
 simp only[Int.natCast_zero]
 have VM:=af (Below.refl w1 w1)
 obtain⟨⟨f3,f4,f5,f6,f7⟩,⟨x0,x1,x2,x3,x4,x5,x6,x7⟩, -⟩:=HF.O _ VM.O
 subst aH
 go_enter Tryz.func73,Tryz.ntmps73
 go_wp2_with first
  |((with_reducible refine(C5.O _ cZ.O).mono ?_);rintro e w2 ⟨rfl,aC⟩
    have bR:=af aC
    clear f3 f4 f5 f6 f7 x0 x1 x2 x3 x4 x5 x6 x7
    obtain⟨⟨f3,f4,f5,f6,f7⟩,⟨x0,x1,x2,x3,x4,x5,x6,x7⟩, -⟩:=HF.O _ bR.O
    have xr:=(HF.O _ aC).2.2
    obtain⟨y0,y1,y2⟩:=ga xr
    have yf:=ak xr
    have Qv:=af xr
    clear xr aC)
  |fail
 refine bodyPost_ret (v:=.tuple (Gj (.agg eD))) ?_ (by rfl) ⟨rfl,(cZ.O.T (bR.O.mono cZ.O.size)).T (fN (Nat.le_succ _))⟩
 obtain⟨s0,s1,s2⟩:=ga (rq (v0:=.bool false) (v1:=.slice none 0 0) (v2:=.slice none 0 0) Qv.O)
 rw[results_cell_tmp rfl]
 go_simp
theorem NU{l:jH}(hw:w.heap[Bw]? =some (.cells (bn l b ps.length cb tu la ln lc told Jd) 139))(hF:au w b cb ps)(hm:Marks (al ps))(at_ d:Nat){n:Nd}(h1:1<=at_)(h8:d<=8)(hd:n.is=decide (d=0))(hr:dO (al ps) at_ n.enc)(ho:n.Ok):
 Calls Tryz.prog 73 #[.pointer (zp Bw),cM at_ d n.red] w λ e w'=>∃(m:Nd) (a:Option Addr) (k:Nat),m.pd n/\e= .returned (.tuple #[m.v a k,.bool true])/\m.R w' w.heap.size a k/\Below w w w':=by
 have C5:=af λ (w2:World) (hb:Below w w w2)=>gg (hF.below hb)
 unfold aE at C5
 obtain⟨w1,aH⟩:=aK ((w.alloc (.cells (ju at_ d n.red) 41)).alloc (.cells eD 169))
 have cZ:Hid (Below w w w1):=af (by rw[aH];go_grown)
 have HF:Hid (∀w2,Below w1 w1 w2->(w2.cell? (za Bw 3)=some (.slice none 0 0)/\w2.cell? (za Bw 4)=some (.slice b ps.length cb)/\w2.cell? (za Bw 5)=some (.int .i64 (-1))/\w2.cell? (za Bw 6)=some (.int .i64 (-1))/\w2.cell? (za Bw 7)=some (.bool false))/\
  (w2.cell? (za w 0)=some (.int .i64 (at_:Int))/\w2.cell? (za w 1)=some (.int .i64 (d:Int))/\w2.cell? (za w 2)=some (.int .i64 (n.red:Int))/\w2.cell? (za w 3)=some (.int .i64 0)/\w2.cell? (za w 4)=some (.int .i64 0)/\w2.cell? (za w 5)=some (.int .u64 0)/\w2.cell? (za w 6)=some (.int .i64 0)/\w2.cell? (za w 7)=some (.int .i64 0))/\
  w2.heap[w.heap.size+1]? =some (.cells eD 169)):=af λ w2 hb=>by
  have aC:=cZ.O.T (hb.mono cZ.O.size)
  have hc:∀j,w2.cell? ⟨Bw,j,none⟩=(bn l b ps.length cb tu la ln lc told Jd)[j]? := λ j=>aa ((aC.block Bw (aX hw).1).T hw) j
  rw[aH]at hb
  have bB:=aS hb
  exact⟨⟨(hc 3).T rfl,(hc 4).T rfl,(hc 5).T rfl,(hc 6).T rfl,(hc 7).T rfl⟩,⟨(aa bB.1 0).T rfl,(aa bB.1 1).T rfl,(aa bB.1 2).T rfl,(aa bB.1 3).T rfl,(aa bB.1 4).T rfl,(aa bB.1 5).T rfl,(aa bB.1 6).T rfl,(aa bB.1 7).T rfl⟩,bB.2⟩
 have RB:=af λ (w2:World) (hb:Below w w w2)=>Cn (hF.below hb) hm at_ d hd hr ho
 have XZ:=af λ (w2:World) (m:Nd) (a:Option Addr) (k n₀:Nat) (hs:m.pd n) (h:m.R w2 n₀ a k)=>NM h (hs.ok ho)
 have VK:=af λ (m:Nd) (hs:m.pd n)=>hs.red
 unfold aE at RB
 have heq:=NT at_ d n.red ag
 have h1e:((at_:Int)==0)=false:=bV
 have h8e:decide ((8:Int)<(d:Int))=false:=bV
 unfold cM at heq⊢
 clear hw hF hr ho hd h1 h8 hm
 have VM:=af (Below.refl w1 w1)
 obtain⟨⟨f3,f4,f5,f6,f7⟩,⟨x0,x1,x2,x3,x4,x5,x6,x7⟩, -⟩:=HF.O _ VM.O
 subst aH
 go_enter Tryz.func73,Tryz.ntmps73
 go_wp2_with first
  |((with_reducible refine(C5.O _ cZ.O).mono ?_);rintro e w2 ⟨rfl,aC⟩
    have bR:=af aC
    clear f3 f4 f5 f6 f7 x0 x1 x2 x3 x4 x5 x6 x7
    obtain⟨⟨f3,f4,f5,f6,f7⟩,⟨x0,x1,x2,x3,x4,x5,x6,x7⟩, -⟩:=HF.O _ bR.O)
  |fail
 refine bP 15 ?_
 refine tP [0,1,2,3,4,5,6,7] ?_
 iterate 8 refine tO ?_
 refine ah 7 rfl ?_
 refine Gr 8 12 [0,1,2,3,4,5,6,7] [] (λ K hK=>?_) λ K hK=>?_
 go_simp
 (with_reducible refine(RB.O _ (cZ.O.T (bR.O.mono cZ.O.size)).drew).mono ?_);rintro e w3 ⟨m,a,k,cS,rfl,oP,aL⟩
 have bA:=af (bR.O.drew.T (aL.mono bR.O.size))
 have gD:=af (oP.rn (ez:=w.heap.size) (cZ.O.T (bR.O.mono cZ.O.size)).size)
 have NP:=af aL
 have rr:=af cS
 unfold Nd.v
 clear oP aL cS
 clear f3 f4 f5 f6 f7 x0 x1 x2 x3 x4 x5 x6 x7
 obtain⟨⟨f3,f4,f5,f6,f7⟩,⟨x0,x1,x2,x3,x4,x5,x6,x7⟩, -⟩:=HF.O _ bA.O
 refine nP hK ?_
 clear hK K
 refine tP [9,10,11] ?_
 iterate 3 refine tO ?_
 refine ah 3 rfl ?_
 refine sP 12 [0,1,2,3,4,5,6,7] λ K hK=>?_
 go_simp
 have Ej:=af (bA.O.alloc bA.O.size (.cells eD 169))
 clear f3 f4 f5 f6 f7 x0 x1 x2 x3 x4 x5 x6 x7
 obtain⟨⟨f3,f4,f5,f6,f7⟩,⟨x0,x1,x2,x3,x4,x5,x6,x7⟩, -⟩:=HF.O _ Ej.O
 refine nP hK ?_
 clear hK K
 refine sP 13 [0,1,2,3,4,5,6,7,8,9,10,12] λ K hK=>?_
 go_simp
 refine nP hK ?_
 clear hK K
 refine tP [14] ?_
 refine tO ?_
 refine ah 0 rfl ?_
 refine dP ?_
 go_simp
 obtain⟨W,hW⟩:=aK (w3.alloc (.cells (tN m.is (m.a1 a) m.n1 (m.k1 k) (m.a2 a) m.n2 (m.k2 k)) 169))
 obtain⟨A,hA⟩:=aK w3.heap.size
 have HA:Hid (W.heap[A]? =some (.cells (tN m.is (m.a1 a) m.n1 (m.k1 k) (m.a2 a) m.n2 (m.k2 k)) 169)):=af (by rw[hW,hA];exact World.alloc_heap_new w3 _)
 have lJ:Hid (Below _ _ W):=af (by rw[hW];exact bA.O.alloc bA.O.size _)
 have KB:Hid (m.R W w.heap.size a k):=af (by rw[hW];exact gD.O.below ((Below.refl _ w3).alloc (aW) _))
 rw[<-hW,<-hA]
 clear Ej hW hA gD NP bA
 rotate_left
 go_simp
 have nF:=af (bR.O.alloc bR.O.size (.cells eD 169))
 clear f3 f4 f5 f6 f7 x0 x1 x2 x3 x4 x5 x6 x7
 obtain⟨⟨f3,f4,f5,f6,f7⟩,⟨x0,x1,x2,x3,x4,x5,x6,x7⟩, -⟩:=HF.O _ nF.O
 refine nP hK ?_
 clear hK K
 refine sP 8 [0,1,2,3,4,5,6,7] λ K hK=>?_
 go_simp
 (with_reducible refine(RB.O _ (cZ.O.T (nF.O.mono cZ.O.size)).drew).mono ?_);rintro e w3 ⟨m,a,k,cS,rfl,oP,aL⟩
 have bA:=af (nF.O.drew.T (aL.mono nF.O.size))
 have gD:=af (oP.rn (ez:=w.heap.size) (cZ.O.T (nF.O.mono cZ.O.size)).size)
 have NP:=af aL
 have rr:=af cS
 unfold Nd.v
 have hn:=(aL.block w2 aR).T (World.alloc_heap_new w2 (.cells eD 169))
 have n0:=(aa hn 0).T rfl
 have n1:=(aa hn 1).T rfl
 have n2:=(aa hn 2).T rfl
 have nf:=ak hn
 have HN:=af hn
 simp only[aD]at n0 n1 n2
 clear hn
 clear oP aL cS
 clear f3 f4 f5 f6 f7 x0 x1 x2 x3 x4 x5 x6 x7
 obtain⟨⟨f3,f4,f5,f6,f7⟩,⟨x0,x1,x2,x3,x4,x5,x6,x7⟩, -⟩:=HF.O _ bA.O
 refine nP hK ?_
 clear hK K
 refine tP [9,10,11] ?_
 iterate 3 refine tO ?_
 refine ah 2 rfl ?_
 refine sP 13 [0,1,2,3,4,5,6,7,8,9,10,12] λ K hK=>?_
 go_simp
 refine nP hK ?_
 clear hK K
 refine tP [14] ?_
 refine tO ?_
 refine ah 0 rfl ?_
 refine dP ?_
 go_simp
 obtain⟨A,hA⟩:=aK w2.heap.size
 rw[<-hA]at HN
 have NQ:=bR.O.size
 rw[<-hA]at NQ
 have HA:=af (rq (v0:=.bool m.is) (v1:=.slice (m.a1 a) m.n1 (m.k1 k)) (v2:=.slice (m.a2 a) m.n2 (m.k2 k)) HN.O)
 have lJ:=af (bA.O.T (fN (v0:=.bool m.is) (v1:=.slice (m.a1 a) m.n1 (m.k1 k)) (v2:=.slice (m.a2 a) m.n2 (m.k2 k)) NQ))
 have KB:=af (gD.O.AR (λ j hj=>gC (v0:=.bool m.is) (v1:=.slice (m.a1 a) m.n1 (m.k1 k)) (v2:=.slice (m.a2 a) m.n2 (m.k2 k)) j hj) HN.O bd bd (by intro j x;rcases j with _|_|_|j<;>simp))
 rw[<-hA]
 obtain⟨W,hW⟩:=aK (((w3.setCell (za A 0) (.bool m.is)).setCell (za A 1) (.slice (m.a1 a) m.n1 (m.k1 k))).setCell (za A 2) (.slice (m.a2 a) m.n2 (m.k2 k)))
 rw[<-hW]at HA lJ KB
 rw[<-hW]
 clear nF HN n0 n1 n2 nf hA NQ hW gD NP bA
 rotate_left
 all_goals
  obtain⟨f0,f1,f2⟩:=ga HA.O
  clear f3 f4 f5 f6 f7 x0 x1 x2 x3 x4 x5 x6 x7
  obtain⟨⟨f3,f4,f5,f6,f7⟩,⟨x0,x1,x2,x3,x4,x5,x6,x7⟩, -⟩:=HF.O _ lJ.O
  have ZI:=lJ
  have ZJ:=HA
  have HIc:=KB
  have NR:=af (XZ.O W m a k _ rr.O KB.O)
  have C6:((m.red:Int)==(n.red:Int))=true:=by rw[VK.O m rr.O];simp
  have abY:∀W,(binOp BinOp.neq 39 (.agg (qT m.red)) (.agg (qT n.red))).run Tryz.prog W= .ok (.bool false) W:= λ W=>by
   have:=I6 (m.red:Int) (n.red:Int) W
   rw[C6]at this
   exact this
  unfold Nd.v at NR
  go_wp2_with first
   |((with_reducible refine NR.O.mono ?_);rintro e w5 ⟨rfl,bJ⟩
     have eN:=af (ZI.O.T (bJ.mono ZI.O.size))
     have VL:=af ((bJ.block _ (aX ZJ.O).1).T ZJ.O)
     have HI5:=af (HIc.O.below bJ)
     clear f0 f1 f2 f3 f4 f5 f6 f7 x0 x1 x2 x3 x4 x5 x6 x7 bJ
     obtain⟨f0,f1,f2⟩:=ga VL.O
     obtain⟨⟨f3,f4,f5,f6,f7⟩,⟨x0,x1,x2,x3,x4,x5,x6,x7⟩, -⟩:=HF.O _ eN.O
     have fD:=(Below.refl w5 w5).alloc (aW) (.cells (qT m.red) 39)
     have jY:=af (eN.O.T (fD.mono eN.O.size))
     have HA6:=af ((fD.block _ (aX VL.O).1).T VL.O)
     have HI6:=af (HI5.O.below fD)
     clear f0 f1 f2 f3 f4 f5 f6 f7 x0 x1 x2 x3 x4 x5 x6 x7 fD
     obtain⟨f0,f1,f2⟩:=ga HA6.O
     obtain⟨⟨f3,f4,f5,f6,f7⟩,⟨x0,x1,x2,x3,x4,x5,x6,x7⟩, -⟩:=HF.O _ jY.O
     have xr:=(HF.O _ jY.O).2.2
     obtain⟨y0,y1,y2⟩:=ga xr
     have yf:=ak xr
     have Qv:=af xr
     clear xr
     unfold fX)
   |fail
 all_goals
  refine bodyPost_ret (v:=.tuple #[m.v a k,.bool true]) ?_ (by rfl) ⟨m,a,k,rr.O,rfl,HI6.O.AR (λ j hj=>gC j hj) Qv.O bd bd (by intro j x;rcases j with _|_|_|j<;>simp),(cZ.O.T (jY.O.mono cZ.O.size)).T (fN (Nat.le_succ _))⟩
  obtain⟨s0,s1,s2⟩:=ga (rq (v0:=.bool m.is) (v1:=.slice (m.a1 a) m.n1 (m.k1 k)) (v2:=.slice (m.a2 a) m.n2 (m.k2 k)) Qv.O)
  rw[results_cell_tmp rfl]
  unfold Nd.v
  go_simp
end
section
attribute [local go_sem] Oper.semAt_some
attribute [-go_sem] Builtin.append_
theorem Lets.more{X Y:Nat->Prop}(h:Lets n₀ X B W W')(hY:∀k,X k->Y k):Lets n₀ Y B W W':=⟨h.below, λ k cs t fz h1 h2 h3 h4=>h.bT k cs t fz h1 (λ e=>h2 (hY k e)) h3 h4,h.row,h.lt⟩
theorem NV{l:jH}(ka:Option Addr)(kn kc:Nat)(h:V.heap[Bw]? =some (.cells (bn l b kb cb false la ln lc told 0) 139)):
 ((V.setCell (za Bw 9) (.slice ka kn kc)).setCell (za Bw 10) (.bool true)).heap[Bw]? =some (.cells (bn l b kb cb false ka kn kc true 0) 139):=by
 simpa[bn]using aq (j:=10) (.bool true) (aq (j:=9) (.slice ka kn kc) h)
theorem GN{ka:Option Addr}{kn kc:Nat}(j:Nat)(hj:j≠Bw):((V.setCell (za Bw 9) (.slice ka kn kc)).setCell (za Bw 10) (.bool true)).heap[j]? =V.heap[j]? :=
 (Below.heap_setCell _ ⟨Bw,10,none⟩ _ j hj).T (Below.heap_setCell V ⟨Bw,9,none⟩ _ j hj)
theorem wO{l:jH}(j x:Nat):(bn l b kb cb tu la ln lc told Jd)[j]? ≠some (.int .u8 (x:Int)):=by
 unfold bn
 rcases j with _|_|_|_|_|_|_|_|_|_|_|_|j<;>simp
def Co(Bw:Nat)(l:jH)(b:Option Addr)(kb cb:Nat)(W:World):Prop:=∃la ln lc told,W.heap[Bw]? =some (.cells (bn l b kb cb false la ln lc told 0) 139)
theorem KE{ll:Nat}{X:Nat->Prop}{l:jH}{J J' VN:World->Prop}(x:an)
 (hw:W.heap[Bw]? =some (.cells (bn l b kb cb false la last.length lc told 0) 139))(hk:ai W x.ka x.key)(hv:ai W x.va x.val)(RD:ai W la last)(bg:told=true->fV last x.key)(hl:o9 W l)
 (hJ:∀A C,J A->dz D (·=Bw) A C->J C)(h0:J W)
 (hY:l.holds x.key=true->∀W1,J W1->Lets n₀ (λ k=>X k\/k=Bw) B W W1->Co Bw l b kb cb W1->ai W1 x.ka x.key->ai W1 x.va x.val->YieldAt Fence.wide (N - 1) Tryz.prog ll #[x.v] W1 λ e W'=>(e= .returned (.bool true)/\J' W'/\Lets n₀ X B W1 W')\/(e= .returned (.bool false)/\VN W'/\Lets n₀ X B W1 W'))
 (hS:Safe X B W Bw)(hB:B<W.heap.size)(Cj:n₀<=Bw)(hr:∀k,rowOf B W=some k->k<W.heap.size):
 Calls Tryz.prog 70 #[.pointer (zp Bw),x.v,.func (.yield ll) #[] #[]] W λ e W'=>
  Lets n₀ (λ k=>X k\/k=Bw) B W W'/\W'.heap[Bw]? =some (.cells (bn l b kb cb false x.ka x.key.length x.kc true 0) 139)/\
  ((e= .returned (.bool true)/\((l.holds x.key=true/\J' W')\/(l.holds x.key=false/\J W')))\/(l.holds x.key=true/\e= .returned (.bool false)/\VN W')):=by
 refine(callsIn_wide (n:=N)).1 ?_
 have qv:=(aX hw).1
 obtain⟨w1,aH⟩:=aK ((W.alloc (.cells (dv x.ka x.key.length x.kc x.va x.val.length x.vc) 114)).drew)
 have aQ:Below W W w1:=by rw[aH];exact((Below.refl _ W).alloc (aW) _).drew
 have bB:w1.heap[W.heap.size]? =some (.cells (dv x.ka x.key.length x.kc x.va x.val.length x.vc) 114):=by rw[aH];exact World.alloc_heap_new W _
 have ru:=(aQ.block Bw qv).T hw
 have NI:=af (gL (c:=x.kc) (d:=lc) (hk.below aQ) (RD.below aQ) rfl rfl)
 obtain⟨w2,da⟩:=aK ((w1.setCell (za Bw 9) (.slice x.ka x.key.length x.kc)).setCell (za Bw 10) (.bool true))
 have ZL:w2.heap[Bw]? =some (.cells (bn l b kb cb false x.ka x.key.length x.kc true 0) 139):=by rw[da];exact NV _ _ _ ru
 have vY:∀j,j≠Bw->w2.heap[j]? =w1.heap[j]? := λ j hj=>by rw[da];exact GN j hj
 have oN:ai w2 x.ka x.key:=dR vY ru wO (hk.below aQ)
 have hv2:ai w2 x.va x.val:=dR vY ru wO (hv.below aQ)
 have oD:o9 w2 l:=⟨dR vY ru wO (hl.1.below aQ),dR vY ru wO (hl.2.below aQ)⟩
 have ek:=(vY W.heap.size ag).T bB
 have qL:Hid (Lets n₀ (λ k=>X k\/k=Bw) B W w2):=af (by
  have h1:Lets n₀ (λ k=>X k\/k=Bw) B W w1:=Lets.aA aQ hB ag
  rw[da]
  exact(h1.T (Lets.setCell w1 ⟨Bw,9,none⟩ _ (.inr rfl) (Ne.symm hS.2.1) Cj)).T (Lets.setCell _ ⟨Bw,10,none⟩ _ (.inr rfl) (Ne.symm hS.2.1) Cj))
 have Tz:Hid (J w2):=af (by
  rw[da]
  exact hJ _ _ (hJ _ _ (hJ _ _ h0 (dz.aA aQ)) (dz.setCell w1 ⟨Bw,9,none⟩ _ rfl)) (dz.setCell _ ⟨Bw,10,none⟩ _ rfl))
 have ZM:rowOf B w1=rowOf B W:=dT (aQ.block B hB)
 have ZN:rowOf B w2=rowOf B W:=(dT (vY B (Ne.symm hS.2.1))).T ZM
 have C4:Hid (Safe X B w2 Bw):=af ⟨hS.1,hS.2.1,by rw[ZN];exact hS.2.2⟩
 have HH:=af (KA x.kc oD oN)
 have KF:=af oN
 have vp:=af hv2
 have NW:=af ZL
 have Qm:=af ek
 have HJ:=af hJ
 have HY:=af hY
 have NX:Hid (B<w2.heap.size/\n₀<=w2.heap.size):=af (by
  have:=qL.O.size
  omega)
 obtain⟨c,hc⟩:=aK (cmpL x.key last)
 have ng:told=true->c=1:= λ e=>by rw[hc,mP,bg e];rfl
 rw[<-hc]at NI
 have e2:w1.cell? (za Bw 8)=some (.bool false):=(aa ru 8).T rfl
 have e3:w1.cell? (za Bw 9)=some (.slice la last.length lc):=(aa ru 9).T rfl
 have e4:w1.cell? (za Bw 10)=some (.bool told):=(aa ru 10).T rfl
 have ef:=ak ru
 have k0:w1.cell? (za Bw 0)=some (.slice l.fa l.from_.length l.fc):=(aa ru 0).T rfl
 have k1:w1.cell? (za Bw 1)=some (.bool l.en):=(aa ru 1).T rfl
 have k2:w1.cell? (za Bw 2)=some (.slice l.ta l.to.length l.tc):=(aa ru 2).T rfl
 have x0:w1.cell? (za W 0)=some (.slice x.ka x.key.length x.kc):=(aa bB 0).T rfl
 have y0:w2.cell? (za W 0)=some (.slice x.ka x.key.length x.kc):=(aa ek 0).T rfl
 have XJ:(w1.setCell (za Bw 9) (.slice x.ka x.key.length x.kc)).frozen? ⟨Bw,10,none⟩=false:=ak (aq (j:=9) (.slice x.ka x.key.length x.kc) ru) 10
 have Jf:(w1.setCell (za Bw 9) (.slice x.ka x.key.length x.kc)).cell? (za Bw 10)=some (.bool told):=by rw[aa (aq (j:=9) (.slice x.ka x.key.length x.kc) ru) 10];simp[bn]
 have ZO:=af da
 unfold an.v qH at*
 unfold jH.v at HH
 clear hw hk hv RD bg hl hJ h0 hY hS hB Cj hr aQ bB ru vY oN hv2 oD ek ZM ZN ZL qv hc da
 refine callsIn_of_wp Tryz.func70 rfl trivial ?_ rfl
 simp only[Tryz.ntmps70,zEn,Nat.reduceAdd,Nat.reduceSub]
 gi_wp2_with fail
 refine wpIn_wide.2 ?_
 refine bP 8 ?_
 rw[<-aH]
 clear aH
 refine tP [0,1,2,3,4,5] ?_
 iterate 6 refine tO ?_
 refine ah 2 rfl ?_
 refine sP 6 [0,1,2,3,4,5] λ K hK=>?_
 go_simp
 (with_reducible refine NI.O.mono ?_);rintro e w3 ⟨rfl,X0⟩;rw[X0];clear X0 w3
 refine nP hK ?_
 clear hK K
 refine tP [7] ?_
 refine tO ?_
 refine ah 0 rfl ?_
 refine dP ?_
 go_simp
 have hle:told=true->decide (c<=0)=false:= λ e=>by rw[ng e];rfl
 clear NI ng
 have Ga:=ZO
 clear ZO
 cases hh:l.holds x.key with
 |false=>
  cases told
  all_goals
   gi_wp2_with first
    |((refine⟨True.intro, λ e=>by(cases e),?_⟩);rw[<-Ga.O];(with_reducible refine(callsIn_wide.2 HH.O).mono ?_);rintro e w5 ⟨rfl,bJ⟩;rw[hh];have eN:=af bJ;replace y0:=carry bJ y0;clear bJ e2 e3 e4 ef k0 k1 k2 x0 XJ Jf)
    |fail
   refine⟨λ _ h=>by(cases h),?_⟩
   gi_wp2_with fail
   go_ret
   exact⟨qL.O.T (Lets.aA eN.O NX.O.1 NX.O.2),(eN.O.block _ (aX NW.O).1).T NW.O,.inl ⟨rfl,.inr ⟨hh,HJ.O _ _ Tz.O (dz.aA eN.O)⟩⟩⟩
 |true=>
  cases told
  all_goals
   gi_wp2_with first
    |((refine⟨True.intro, λ e=>by(cases e),?_⟩);rw[<-Ga.O];(with_reducible refine(callsIn_wide.2 HH.O).mono ?_);rintro e w5 ⟨rfl,bJ⟩;rw[hh];have eN:=af bJ;have I0:=(bJ.block _ (aX Qm.O).1).T Qm.O;have z0:=(aa I0 0).T rfl;have z1:=(aa I0 1).T rfl;have z2:=(aa I0 2).T rfl;have z3:=(aa I0 3).T rfl;simp only[aD]at z0 z1 z2 z3;clear bJ e2 e3 e4 ef k0 k1 k2 x0 XJ Jf I0 y0;obtain⟨f1,t1,a1,b1,lA,J8⟩:=HY.O hh w5 (HJ.O _ _ Tz.O (dz.aA eN.O)) (qL.O.T (Lets.aA eN.O NX.O.1 NX.O.2)) ⟨_,_,_,_,(eN.O.block _ (aX NW.O).1).T NW.O⟩ (KF.O.below eN.O) (vp.O.below eN.O))
    |fail
   refine⟨λ e=>by(cases e),J8.mono ?_⟩
   have Ek:=qL.O.T (Lets.aA (X:= λ k=>X k\/k=Bw) eN.O NX.O.1 NX.O.2)
   have ZP:=(eN.O.block _ (aX NW.O).1).T NW.O
   have nb:Safe X B w5 Bw:=⟨C4.O.1,C4.O.2.1,by rw[dT (eN.O.block B NX.O.1)];exact C4.O.2.2⟩
   have HL5:=af Ek
   have abZ:=af ZP
   have RE:=af nb
   clear Ek ZP nb
   rintro e w6 (⟨rfl,rj,TC⟩|⟨rfl,rj,TC⟩)
   all_goals
    gi_wp2_with fail
    go_ret
    refine⟨HL5.O.T (TC.more λ k h=>.inl h),TC.ft RE.O abZ.O,?_⟩
    first
     |exact .inl ⟨rfl,.inl ⟨hh,rj⟩⟩
     |exact .inr ⟨hh,rfl,rj⟩
def vq(B1 B2 B3:Nat):Value:=.func (.func 69) #[] (xa (zp B1) (zp B2) (zp B3))
structure vZ where
 Bw:Nat
 B1:Nat
 B2:Nat
 B3:Nat
 B:Nat
 ll:Nat
 X:Nat->Prop
 l:jH
 b:Option Addr
 cb:Nat
 ps:List Piece
def vZ.Y(t:vZ)(k:Nat):Prop:=t.X k\/k=t.Bw
structure Tw(t:vZ)(w0 W:World)(la:Option Addr)(last:List Nat)(lc:Nat)(told:Bool):Prop where
 base:Below w0 w0 W
 walk:W.heap[t.Bw]? =some (.cells (bn t.l t.b t.ps.length t.cb false la last.length lc told 0) 139)
 b1:W.heap[t.B1]? =some (.cells (dW (zp t.Bw)) 136)
 b2:W.heap[t.B2]? =some (.cells #[.func (.yield t.ll) #[] #[]] 165)
 b3:W.heap[t.B3]? =some (.cells #[vq t.B1 t.B2 t.B3] 166)
 sw:Safe t.X t.B W t.Bw
 s1:Safe t.Y t.B W t.B1
 s2:Safe t.Y t.B W t.B2
 s3:Safe t.Y t.B W t.B3
 hB:t.B<W.heap.size
 nw:w0.heap.size<=t.Bw
 hX:∀k,t.Y k->k<W.heap.size
 hr:∀k,rowOf t.B W=some k->k<W.heap.size
 xH:ai W la last
 NY:last≠[]->∀p,la=some p->Safe t.Y t.B W p.block
theorem Lets.ZQ{X Y:Nat->Prop}(h:Lets n₀ Y B W W')(hs:Safe X B W k)(hk:k<W.heap.size):Safe X B W' k:=
 ⟨hs.1,hs.2.1, λ e=>(h.row k e).elim hs.2.2 (λ h=>ag)⟩
theorem gl{xs:List Nat}(h:ai W a xs)(hx:xs≠[]):∀p,a=some p->p.block<W.heap.size:= λ p e=>by
 rcases h.2 with h0|⟨C,o,ha,hc⟩
 ·exact absurd h0 hx
 ·cases xs with
  |nil=>exact absurd rfl hx
  |cons x xs=>
   rw[ha]at e;cases e
   exact World.block_lt_of_cell? W ⟨C,o+0,none⟩ (hc 0 x rfl)
theorem xI{X:Nat->Prop}(h:Lets n₀ X B W W'){xs:List Nat}(hb:ai W a xs)(hs:xs≠[]->∀p,a=some p->Safe X B W p.block):ai W' a xs:=by
 by_cases hx:xs=[]
 ·subst hx;exact ai.nil _ _
 ·exact hb.safe h (hs hx)
def ku(X:Nat->Prop)(B ez:Nat)(W:World):Prop:=∀k,ez<=k->k<W.heap.size->Safe X B W k
theorem pf{X:Nat->Prop}(h:Lets n₀ X B W W')(hf:ku X B ez W){xs:List Nat}(hb:ai W a xs)(ha:cx ez a):ai W' a xs:=
 xI h hb λ hx p e=>hf _ (ha p e) (gl hb hx p e)
theorem AX{e sz:Nat}{xs:List Value}{X:Nat->Prop}(h:Lets n₀ X B W W')(hf:ku X B ez W)(hr:W.ownsRow ez e sz (.slice a k c) k xs):W'.ownsRow ez e sz (.slice a k c) k xs:=dx hr λ g hg=>by
 rcases ay hr with⟨h1,_⟩|⟨g2,cur,h1,hb,eU⟩
 ·rw[hg]at h1;cases h1
 ·rw[hg]at h1;cases h1
  exact(h.ft (hf g hb (aX eU).1) eU).T eU.symm
theorem Nd.R.lets{X:Nat->Prop}(h:Lets n₀ X B W W')(hf:ku X B ez W){n:Nd}(hr:n.R W ez a k):n.R W' ez a k:=by
 cases n with
 |leaf xs=>exact⟨AX h hf hr.1, λ y hy=>⟨⟨pf h hf (hr.2 y hy).1.1 (hr.2 y hy).2.1,pf h hf (hr.2 y hy).1.2 (hr.2 y hy).2.2.1⟩,(hr.2 y hy).2⟩⟩
 |inner xs=>exact⟨AX h hf hr.1, λ y hy=>⟨pf h hf (hr.2 y hy).1 (hr.2 y hy).2,(hr.2 y hy).2⟩⟩
theorem Tw.fresh{t:vZ}(h:Tw t w0 W la last lc told)(hb:Below W W W'):ku t.Y t.B W.heap.size W':= λ k hk _=>
 Dw hb (λ e=>aM (h.hX k e)) h.hB h.hr hk
theorem Tw.step{t:vZ}{qM:Option Addr}{fO:List Nat}{tM:Nat}{gm:Bool}(h:Tw t w0 W la last lc told)(hl:Lets w0 t.Y t.B W W')
 (hw:W'.heap[t.Bw]? =some (.cells (bn t.l t.b t.ps.length t.cb false qM fO.length tM gm 0) 139))(hb:ai W' qM fO)(hs:fO≠[]->∀p,qM=some p->Safe t.Y t.B W' p.block):Tw t w0 W' qM fO tM gm where
 base:=h.base.T hl.below
 walk:=hw
 b1:=hl.ft h.s1 h.b1
 b2:=hl.ft h.s2 h.b2
 b3:=hl.ft h.s3 h.b3
 sw:=hl.ZQ h.sw (aX h.walk).1
 s1:=hl.safe h.s1 (aX h.b1).1
 s2:=hl.safe h.s2 (aX h.b2).1
 s3:=hl.safe h.s3 (aX h.b3).1
 hB:=Nat.lt_of_lt_of_le h.hB hl.size
 nw:=h.nw
 hX:= λ k hk=>Nat.lt_of_lt_of_le (h.hX k hk) hl.size
 hr:=hl.lt h.hr
 xH:=hb
 NY:=hs
theorem Tw.below{t:vZ}{w0 W W':World}{la:Option Addr}{last:List Nat}{lc:Nat}{told:Bool}(h:Tw t w0 W la last lc told)(hb:Below W W W'):Tw t w0 W' la last lc told/\Lets w0 t.Y t.B W W':=by
 have hl:Lets w0 t.Y t.B W W':=Lets.aA hb h.hB h.base.size
 exact⟨h.step hl ((hb.block _ (aX h.walk).1).T h.walk) (h.xH.below hb) (λ hx p e=>hl.safe (h.NY hx p e) (gl h.xH hx p e)),hl⟩
end
section
attribute [-go_sem] Builtin.append_
def ml(X:Nat->Prop)(B:Nat)(W:World)(a:Option Addr)(xs:List Nat):Prop:=ai W a xs/\(xs≠[]->∀p,a=some p->Safe X B W p.block)
structure Cp(t:vZ)(w0:World)(D N:Nat)(J Jx:List an->World->Prop)(full:List KV):Prop where
 hF:au w0 t.b t.cb t.ps
 hm:Marks (al t.ps)
 hl:o9 w0 t.l
 hJ:∀s A C,J s A->dz D (·=t.Bw) A C->J s C
 hY:∀pre x W1,J pre W1->(pre++[x]).map eC<+:full->Co t.Bw t.l t.b t.ps.length t.cb W1->t.B<W1.heap.size->ml t.Y t.B W1 x.ka x.key->ml t.Y t.B W1 x.va x.val->x.vc=x.val.length->YieldAt Fence.wide (N - 1) Tryz.prog t.ll #[x.v] W1 λ e W'=>
  (e= .returned (.bool true)/\J (pre++[x]) W'/\Lets w0 t.X t.B W1 W')\/(e= .returned (.bool false)/\Jx (pre++[x]) W'/\Lets w0 t.X t.B W1 W')
def vZ.bT(t:vZ)(items:List KV):List KV:=items.filter λ kv=>t.l.holds kv.1
theorem vZ.jz(t:vZ)(a b:List KV):t.bT (a++b)=t.bT a++t.bT b:=List.filter_append ..
def Told(t:vZ)(w0 V:World)(J:List an->World->Prop)(pre:List an)(last:List Nat)(told:Bool)(items:List KV)(W:World):Prop:=
 Lets w0 t.Y t.B V W/\∃qM fO tM gm,Tw t w0 W qM fO tM gm/\(∃q9,q9.map eC=t.bT items/\J (pre++q9) W)/\∀key,(told=true->fV last key)->(∀kv∈items,fV kv.1 key)->gm=true->fV fO key
def Cut(t:vZ)(w0 V:World)(Jx:List an->World->Prop)(full:List KV)(W:World):Prop:=
 Lets w0 t.Y t.B V W/\(∃qM fO tM gm,Tw t w0 W qM fO tM gm)/\∃zW,zW.map eC<+:full/\Jx zW W
def El(t:vZ)(w0:World)(J Jx:List an->World->Prop)(full:List KV)(d:Nat):Prop:=
 ∀(at_:Nat) (n m:Nd) (items:List KV) (V:World) (ez k:Nat) (a:Option Addr) (la:Option Addr) (last:List Nat) (lc:Nat) (told:Bool) (pre:List an),
  er (al t.ps) d n at_ items->m.pd n->m.R V ez a k->ku t.Y t.B ez V->Tw t w0 V la last lc told->J pre V->pre.map eC++t.bT items<+:full->(told=true->∀kv∈items,fV last kv.1)->bb (items.map Prod.fst)->
  Calls Tryz.prog 69 #[m.v a k,.int .i64 (at_:Int),.int .i64 (d:Int),.pointer (zp t.B1),.pointer (zp t.B2),.pointer (zp t.B3)] V λ e W'=>
   ∃r,e= .returned (.bool r)/\(r=true->Told t w0 V J pre last told items W')/\(r=false->Cut t w0 V Jx full W')
theorem Told.below{t:vZ}{w0 V:World}{D:Nat}{J:List an->World->Prop}{pre:List an}{last:List Nat}{told:Bool}{items:List KV}{W W':World}(hJ:∀s A C,J s A->dz D (·=t.Bw) A C->J s C)(h:Told t w0 V J pre last told items W)(hb:Below W W W'):Told t w0 V J pre last told items W':=by
 obtain⟨hl,qM,fO,tM,gm,fo,⟨q9,wa,hj⟩,eK⟩:=h
 obtain⟨h1,h2⟩:=fo.below hb
 exact⟨hl.T h2,qM,fO,tM,gm,h1,⟨q9,wa,hJ _ _ _ hj (dz.aA hb)⟩,eK⟩
theorem bb.lt:∀{ks:List (List Nat)} (_:bb ks) {i j:Nat} {a b:List Nat},i<j->ks[i]? =some a->ks[j]? =some b->fV a b:=by
 intro ks h i j a b hij ha hb
 induction j generalizing b with
 |zero=>omega
 |succ j ih=>
  by_cases h':i=j
  ·subst h';exact h i a b ha hb
  ·obtain⟨c,hc⟩:∃c,ks[j]? =some c:=⟨ks[j]'(by have:=(List.getElem?_eq_some_iff.1 hb).1;omega),by simp⟩
   exact gK _ _ _ (ih ag hc) (h j c b hc hb)
theorem NZ{m:Nd}{xs:List an}(h:m.pd (.leaf xs)):∃ys,m= .leaf ys/\ys.map eC=xs.map eC:=by
 cases m with
 |inner ys=>exact h.elim
 |leaf ys=>
  refine⟨ys,rfl,?_⟩
  simp only[Nd.pd]at h
  have e:∀l:List an,l.map eC=(l.map an.key).zip (l.map an.val):= λ l=>by induction l with
   |nil=>rfl
   |cons x l ih=>simp[eC,ih]
  rw[e,e,h.1,h.2]
theorem KG{t:vZ}{J Jx:List an->World->Prop}{full:List KV}(qN:Cp t w0 D N J Jx full):El t w0 J Jx full 0:=by
 intro at_ n m items V ez k a la last lc told pre fP cS hR kK VO Ns vr mM gM
 cases n with
 |inner xs=>exact fP.elim
 |leaf xs=>
 obtain⟨-,gW,oP⟩:=fP
 obtain⟨ys,rfl,xF⟩:=NZ cS
 have Jg:ys.length<=6:=(cS.ok gW).1.kT
 rw[<-xF]at oP
 obtain⟨V1,lO⟩:=aK (V.alloc (.cells (nr a ys.length k) 169))
 have aQ:Below V V V1:=by rw[lO];go_grown
 have Ah:V1.heap[V.heap.size]? =some (.cells (nr a ys.length k) 169):=jJ lO
 obtain⟨N0,sj⟩:=VO.below aQ
 have N1:Safe t.Y t.B V1 V.heap.size:=VO.fresh aQ _ (aW) (aX Ah).1
 have mQ:Hid (∀W,Lets w0 t.Y t.B V1 W->W.heap[V.heap.size]? =some (.cells (nr a ys.length k) 169)):=af λ W h=>h.ft N1 Ah
 have HR:Hid (∀W,Lets w0 t.Y t.B V1 W->dU W ez a k ys):=af λ W h=>Nd.R.lets (sj.T h) kK (n:=.leaf ys) hR
 have RF:Hid (Told t w0 V1 J pre last told [] V1):=af ⟨Lets.refl _ _ _ _,la,last,lc,told,N0,⟨[],rfl,by rw[List.append_nil];exact qN.hJ _ _ _ Ns (dz.aA aQ)⟩, λ key h _=>h⟩
 have HT:Hid (∀(i:Nat) (x:an) (W:World),ys[i]? =some x->Told t w0 V1 J pre last told (items.take i) W->Calls Tryz.prog 70 #[.pointer (zp t.Bw),x.v,.func (.yield t.ll) #[] #[]] W λ e W'=>∃r,e= .returned (.bool r)/\Hid ((r=true->Told t w0 V1 J pre last told (items.take (i+1)) W')/\(r=false->Cut t w0 V1 Jx full W'))):=af (by
  rintro i x W hx ⟨hl,qM,fO,tM,gm,fo,⟨q9,wa,hj⟩,eK⟩
  have hR':=HR.O W hl
  have Cq:=hR'.2 x (List.mem_of_getElem? hx)
  have TF:items[i]? =some (eC x):=by rw[oP,List.getElem?_map,hx];rfl
  have AY:items.take (i+1)=items.take i++[eC x]:=by rw[List.take_add_one,TF];rfl
  have bg:gm=true->fV fO x.key:=eK _ (λ e=>mM e _ (List.mem_of_getElem? TF)) λ kv Ai=>by
   obtain⟨j,hj⟩:=List.mem_iff_getElem?.1 Ai
   have gy:j<i:=by have:=(List.getElem?_eq_some_iff.1 hj).1;rw[List.length_take]at this;omega
   rw[List.getElem?_take,if_pos gy]at hj
   exact gM.lt gy (by rw[List.getElem?_map,hj];rfl) (by rw[List.getElem?_map,TF];rfl)
  have hpf:t.l.holds x.key=true->(pre++q9++[x]).map eC<+:full:= λ hh=>by
   refine List.IsPrefix.T ?_ vr
   have e:t.bT items=t.bT (items.take i)++[eC x]++t.bT (items.drop (i+1)):=by
    have h1:t.bT [eC x]=[eC x]:=by simp[vZ.bT,eC,hh]
    rw[<-h1,<-t.jz,<-AY,<-t.jz,List.take_append_drop]
   rw[e,List.map_append,List.map_append,wa,List.append_assoc]
   exact⟨t.bT (items.drop (i+1)),by simp⟩
  have hsk:x.key≠[]->∀p,x.ka=some p->Safe t.Y t.B W p.block:= λ Jh p e=>(sj.T hl).safe (kK _ (Cq.2.1 p e) (gl (hR.2 x (List.mem_of_getElem? hx)).1.1 Jh p e)) (gl (hR.2 x (List.mem_of_getElem? hx)).1.1 Jh p e)
  have hsv:x.val≠[]->∀p,x.va=some p->Safe t.Y t.B W p.block:= λ Jh p e=>(sj.T hl).safe (kK _ (Cq.2.2.1 p e) (gl (hR.2 x (List.mem_of_getElem? hx)).1.2 Jh p e)) (gl (hR.2 x (List.mem_of_getElem? hx)).1.2 Jh p e)
  refine(KE (n₀:=w0.heap.size) (D:=D) (N:=N) (B:=t.B) (X:=t.X) (J:=J (pre++q9)) (J':=J (pre++q9++[x])) (VN:=Jx (pre++q9++[x])) x fo.walk Cq.1.1 Cq.1.2 fo.xH bg ⟨qN.hl.1.below fo.base,qN.hl.2.below fo.base⟩ (qN.hJ _) hj (λ hh W1 h1 hL hw h2 h3=>qN.hY _ _ _ h1 (hpf hh) hw (Nat.lt_of_lt_of_le fo.hB hL.size) ⟨h2, λ Jh p e=>hL.safe (hsk Jh p e) (gl Cq.1.1 Jh p e)⟩ ⟨h3, λ Jh p e=>hL.safe (hsv Jh p e) (gl Cq.1.2 Jh p e)⟩ Cq.2.2.2) fo.sw fo.hB fo.nw fo.hr).mono ?_
  rintro e W' ⟨oD,da,jK⟩
  have jx:=hl.T oD
  have eZ:=(HR.O W' jx).2 x (List.mem_of_getElem? hx)
  have GO:Tw t w0 W' x.ka x.key x.kc true:=fo.step oD da eZ.1.1 λ Jh p e=>oD.safe (hsk Jh p e) (gl Cq.1.1 Jh p e)
  have Qc:∀key,(told=true->fV last key)->(∀kv∈items.take (i+1),fV kv.1 key)->true=true->fV x.key key:= λ key _ h2 _=>h2 (eC x) (by rw[AY];simp)
  rcases jK with⟨rfl,⟨hh,Vj⟩|⟨hh,Vj⟩⟩|⟨hh,rfl,Vj⟩
  ·exact⟨true,rfl,af ⟨λ _=>⟨jx,_,_,_,_,GO,⟨q9++[x],by rw[List.map_append,wa,AY,t.jz];simp[vZ.bT,eC,hh],by rw[<-List.append_assoc];exact Vj⟩,Qc⟩, λ e=>by cases e⟩⟩
  ·exact⟨true,rfl,af ⟨λ _=>⟨jx,_,_,_,_,GO,⟨q9,by rw[wa,AY,t.jz];simp[vZ.bT,eC,hh],Vj⟩,Qc⟩, λ e=>by cases e⟩⟩
  ·exact⟨false,rfl,af ⟨λ e=>(by cases e), λ _=>⟨jx,⟨_,_,_,_,GO⟩,_,hpf hh,Vj⟩⟩⟩)
 have eJ:Hid (∀W,Told t w0 V1 J pre last told items W->Told t w0 V J pre last told items W):=af λ W h=>⟨sj.T h.1,h.2⟩
 have ry:Hid (∀W,Cut t w0 V1 Jx full W->Cut t w0 V Jx full W):=af λ W h=>⟨sj.T h.1,h.2⟩
 have HDR:Hid (∀l W,Told t w0 V1 J pre last told l W->Told t w0 V1 J pre last told l W.drew):=af λ l W h=>h.below qN.hJ (Below.refl _ W).drew
 have hlen:items.length=ys.length:=by rw[oP];simp
 have mU:=af hlen
 unfold Nd.v Nd.is Nd.a1 Nd.n1 Nd.k1 Nd.a2 Nd.n2 Nd.k2
 dsimp only
 have Re:(ys.length:Int)<=6:=ag
 clear cS hR kK VO Ns vr mM gM gW xF oP N0 sj N1 aQ Ah qN hlen Jg
 subst lO
 go_enter Tryz.func69,Tryz.ntmps69
 go_wp2_with fail
 go_step3
 go_wp2_with fail
 go_step3
 go_wp2_with fail
 go_loopw [22] (λ iv wr=>∃i:Nat,i<=ys.length/\iv= .int .i64 (i:Int)/\Hid (Told t w0 (V.alloc (.cells (nr a ys.length k) 169)) J pre last told (items.take i) wr)) (λ iv _=>ys.length - (intOf iv).toNat)
 case atStart=>exact⟨0,Nat.zero_le _,rfl,RF⟩
 case round=>
  obtain⟨i,hi,rfl,iZ⟩:=hrel
  by_cases bg:i<ys.length
  ·obtain⟨x,hx⟩:∃x,ys[i]? =some x:=⟨ys[i],by simp[bg]⟩
   have DE:((i:Int)<(ys.length:Int)):=ag
   have hi6:(i:Int)<=6:=ag
   have HX:=af (HT.O i x wr.drew hx (HDR.O _ _ iZ.O))
   obtain⟨hl,qM,fO,tM,gm,fo, -⟩:=iZ.O
   have bx:=mQ.O wr hl
   obtain⟨n0,n1,n2⟩:=ga bx
   have p1:=aJ fo.b1
   have p2:=aJ fo.b2
   have tu:wr.cell? (za t.Bw 8)=some (.bool false):=(aa fo.walk 8).T rfl
   obtain⟨C,o,rfl,c0,c1,c2,c3⟩:∃C o,a=some ⟨C,o,none⟩/\wr.cell? ⟨C,o+i*4,none⟩=some (.slice x.ka x.key.length x.kc)/\wr.cell? ⟨C,o+i*4+1,none⟩=some (.slice x.va x.val.length x.vc)/\wr.cell? ⟨C,o+i*4+2,none⟩=some (.bool false)/\wr.cell? ⟨C,o+i*4+3,none⟩=some (.int .i64 0):=by
    rcases(HR.O wr hl).at.1 with h0|⟨C,o,e,hc⟩
    ·rw[h0]at bg;simp at bg
    ·exact⟨C,o,e,(hc i x hx).1,(hc i x hx).2.1,(hc i x hx).2.2.1,(hc i x hx).2.2.2⟩
   unfold an.v qH at HX
   clear hx hl fo bx
   go_wp2_with fail
   refine bP 9 ?_
   refine tP [0,1,2,3,4,5,6] ?_
   iterate 7 refine tO ?_
   refine ah 2 rfl ?_
   refine sP 7 [0,1,2,3,4,5,6] λ K hK=>?_
   go_simp
   (with_reducible refine HX.O.mono ?_);rintro e w3 ⟨r,rfl,jK⟩
   refine nP hK ?_
   clear hK K
   refine tP [8] ?_
   refine tO ?_
   refine ah 0 rfl ?_
   refine dP ?_
   go_simp
   cases r with
   |false=>
    go_wp2_with fail
    go_ret
    exact⟨false,rfl, λ e=>(by cases e), λ _=>ry.O _ (jK.O.2 (by first|trivial|rfl))⟩
   |true=>
    go_wp2_with fail
    go_roundw
    case rel=>exact⟨_,_,_,_,_,⟨i+1,ag,rfl,af (jK.O.1 (by first|trivial|rfl))⟩,rfl,rfl,rfl,rfl,by simp⟩
    case measure=>simp[intOf];omega
  ·obtain rfl:i=ys.length:=ag
   have F6:¬ ((ys.length:Int)<(ys.length:Int)):=ag
   go_wp2_with fail
   go_ret
   refine⟨true,rfl, λ _=>eJ.O _ ?_, λ e=>by cases e⟩
   have:=iZ.O
   rwa [List.take_of_length_le (Nat.le_of_eq mU.O)]at this
theorem bb.left{a b:List (List Nat)}(h:bb (a++b)):bb a:= λ j x y hx hy=>
 h j x y (by rw[List.getElem?_append_left (List.getElem?_eq_some_iff.1 hx).1];exact hx) (by rw[List.getElem?_append_left (List.getElem?_eq_some_iff.1 hy).1];exact hy)
theorem bb.right{a b:List (List Nat)}(h:bb (a++b)):bb b:= λ j x y hx hy=>
 h (a.length+j) x y (by rw[List.getElem?_append_right ag,Nat.add_sub_cancel_left];exact hx) (by rw[List.getElem?_append_right ag,show a.length+j+1 - a.length=j+1 by omega];exact hy)
theorem bb.app{a b:List (List Nat)}(h:bb (a++b)){x y:List Nat}(hx:x∈a)(hy:y∈b):fV x y:=by
 obtain⟨i,hi⟩:=List.mem_iff_getElem?.1 hx
 obtain⟨j,hj⟩:=List.mem_iff_getElem?.1 hy
 have hia:=(List.getElem?_eq_some_iff.1 hi).1
 exact h.lt (i:=i) (j:=a.length+j) ag (by rw[List.getElem?_append_left hia];exact hi) (by rw[List.getElem?_append_right ag,Nat.add_sub_cancel_left];exact hj)
theorem xJ{a b:List KV}(h:bb ((a++b).map Prod.fst)){x y:KV}(hx:x∈a)(hy:y∈b):fV x.1 y.1:=by
 rw[List.map_append]at h
 exact h.app (List.mem_map_of_mem hx) (List.mem_map_of_mem hy)
theorem xK{α:Type}(ss:List (List α))(i:Nat)(s:List α)(h:ss[i]? =some s):ss.flatten=(ss.take i).flatten++(s++(ss.drop (i+1)).flatten):=by
 obtain⟨h1,h2⟩:=List.getElem?_eq_some_iff.1 h
 conv=>lhs;rw[<-List.take_append_drop i ss,List.drop_eq_getElem_cons h1,h2]
 simp
theorem AZ{α:Type}(ss:List (List α))(i:Nat)(s:List α)(h:ss[i]? =some s):(ss.take (i+1)).flatten=(ss.take i).flatten++s:=by
 rw[List.take_add_one,h];simp
theorem Em{a b t:List Nat}(h:a=b\/fV a b)(ha:0<=cmpL a t):0<=cmpL b t:=by
 rcases h with rfl|h
 ·exact ha
 ·rcases mO b t with hb|hb|hb
  ·have:=gK a b t h hb
   unfold fV at this;omega
  ·omega
  ·omega
theorem KH{t:vZ}{ks:List (List Nat)}{cq:List (List KV)}{i:Nat}{s:List KV}(hs:cq[i]? =some s)(gM:bb (cq.flatten.map Prod.fst))(ZR:∀(j:Nat) (s:List KV),cq[j]? =some s->∃kv r,s=kv::r/\ks[j]? =some kv.1)(hlen:cq.length=ks.length)
 (h:F9 t.l ks i=false):t.bT s=[]:=by
 refine List.filter_eq_nil_iff.2 λ kv Ai=>?_
 rw[xK cq i s hs]at gM
 obtain⟨ZS,r,e0,zP⟩:=ZR i s hs
 have rh:bb (s.map Prod.fst):=by
  rw[List.map_append,List.map_append]at gM;exact gM.right.left
 have F6:ZS.1=kv.1\/fV ZS.1 kv.1:=by
  rw[e0]at Ai rh
  rcases List.mem_cons.1 Ai with rfl|h
  ·exact .inl rfl
  ·exact .inr (xJ (a:=[ZS]) (b:=r) rh aR h)
 have ou:ks.getD i []=ZS.1:=by simp[List.getD,zP]
 unfold F9 at h
 rw[ou]at h
 simp only[Bool.and_eq_false_iff,Bool.not_eq_false',Bool.and_eq_true,Bool.or_eq_false_iff,decide_eq_true_eq,decide_eq_false_iff_not]at h
 rcases h with⟨_,he⟩|⟨h1,h2⟩
 ·unfold jH.ends at he
  simp only[Bool.and_eq_true,decide_eq_true_eq]at he
  have:=Em F6 he.2
  simp[jH.holds,jH.ends,he.1,this]
 ·have tZ:i+1<cq.length:=by have:=(List.getElem?_eq_some_iff.1 hs).1;omega
  obtain⟨s1,dm⟩:∃s1,cq[i+1]? =some s1:=⟨_,List.getElem?_eq_getElem tZ⟩
  obtain⟨kv1,r1,e1,zq⟩:=ZR (i+1) s1 dm
  have bg:fV kv.1 kv1.1:=by
   rw[List.map_append]at gM
   have h2:=gM.right
   refine xJ h2 Ai ?_
   have:(cq.drop (i+1)).flatten=s1++(cq.drop (i+1+1)).flatten:=by
    rw[List.drop_eq_getElem_cons tZ,List.flatten_cons]
    rw[List.getElem?_eq_getElem tZ]at dm
    cases dm;rfl
   rw[this,e1];simp
  have hn:¬ 0<=cmpL kv.1 t.l.from_:= λ h0=>by
   have h3:=Em (.inr bg) h0
   have h4:cmpL kv1.1 t.l.from_=0:=by
    rw[show ks.getD (i+1) []=kv1.1 by simp[List.getD,zq]]at h2
    omega
   rw[cmpL_eq]at h4
   rw[<-h4,bg]at h0
   omega
  simp[jH.holds,hn]
theorem Told.skip{t:vZ}{J:List an->World->Prop}{A s:List KV}(h:Told t w0 V J pre last told A W)(hk:t.bT s=[]):Told t w0 V J pre last told (A++s) W:=by
 obtain⟨hl,qM,fO,tM,gm,fo,⟨q9,wa,hj⟩,eK⟩:=h
 exact⟨hl,qM,fO,tM,gm,fo,⟨q9,by rw[t.jz,hk,List.append_nil];exact wa,hj⟩, λ key h1 h2=>eK key h1 λ kv Ai=>h2 kv (List.mem_append_left _ Ai)⟩
theorem Told.next{t:vZ}{J Jx:List an->World->Prop}{full:List KV}(hJ:∀s A C,J s A->dz D (·=t.Bw) A C->J s C){d:Nat}(hd:El t w0 J Jx full d){A s C:List KV}{W3:World}(h:Told t w0 V J pre last told A W)(hb:Below W W W3)
 {at_:Nat}{n m:Nd}(fP:er (al t.ps) d n at_ s)(cS:m.pd n)(hR:m.R W3 W.heap.size a k)(gM:bb ((A++(s++C)).map Prod.fst))(vr:pre.map eC++t.bT (A++(s++C))<+:full)(mM:told=true->∀kv∈A++(s++C),fV last kv.1):
 Calls Tryz.prog 69 #[m.v a k,.int .i64 (at_:Int),.int .i64 (d:Int),.pointer (zp t.B1),.pointer (zp t.B2),.pointer (zp t.B3)] W3 λ e W'=>
  ∃r,e= .returned (.bool r)/\Hid ((r=true->Told t w0 V J pre last told (A++s) W')/\(r=false->Cut t w0 V Jx full W')):=by
 have kK:ku t.Y t.B W.heap.size W3:=by
  obtain⟨_,_,_,_,_,fo,_⟩:=h
  exact fo.fresh hb
 obtain⟨hl,qM,fO,tM,gm,fo,⟨q9,wa,hj⟩,eK⟩:=h.below hJ hb
 have qw:∀kv∈s,kv∈A++(s++C):= λ kv h=>by simp[h]
 have tS:bb (s.map Prod.fst):=by rw[List.map_append,List.map_append]at gM;exact gM.right.left
 refine(hd at_ n m s W3 W.heap.size k a qM fO tM gm (pre++q9) fP cS hR kK fo hj ?_ ?_ tS).mono ?_
 ·refine List.IsPrefix.T ?_ vr
  rw[List.map_append,wa,t.jz,t.jz,List.append_assoc]
  exact⟨t.bT C,by simp⟩
 ·exact λ e kv Ai=>eK _ (λ e2=>mM e2 kv (qw kv Ai)) (λ ZS h0=>xJ gM h0 (by simp[Ai])) e
 ·rintro e W' ⟨r,rfl,h1,h2⟩
  refine⟨r,rfl,af ⟨λ e=>?_, λ e=>?_⟩⟩
  ·obtain⟨oD,la2,ZT,lc2,ZU,GO,⟨ab0,ZV,KJ⟩,TI⟩:=h1 e
   exact⟨hl.T oD,la2,ZT,lc2,ZU,GO,⟨q9++ab0,by rw[List.map_append,wa,ZV,t.jz],by rw[<-List.append_assoc];exact KJ⟩,
    λ key k1 k2=>TI key (eK key k1 λ kv h=>k2 kv (List.mem_append_left _ h)) λ kv h=>k2 kv (List.mem_append_right _ h)⟩
  ·obtain⟨oD,GO,hp⟩:=h2 e
   exact⟨hl.T oD,GO,hp⟩
theorem KK{m:Nd}(h:m.pd (.inner xs)):∃ys,m= .inner ys/\ys.map aw.key=xs.map aw.key/\ys.map aw.at_=xs.map aw.at_/\ys.map aw.count=xs.map aw.count:=by
 cases m with
 |leaf ys=>exact h.elim
 |inner ys=>exact⟨ys,rfl,h⟩
structure aN where
 k:aw
 h:Nat
def N2(all:List Nat)(r:aN)(its:List KV):Prop:=∃n:Nd,er all r.h n r.k.at_ its/\r.k.count=n.red/\n.keys[0]? =some r.k.key
def cW(all:List Nat)(r:aN)(its:List KV):Prop:=∃n:Nd,er all r.h n r.k.at_ its/\r.k.count=n.red/\n.keys[0]? =some r.k.key/\3<=n.tL
def Aj(all:List Nat)(r:aN)(its:List KV):Prop:=∃n:Nd,er all r.h n r.k.at_ its/\r.k.count=n.red
theorem cW.root{r:aN}{its:List KV}(h:cW all r its):N2 all r its:=by
 obtain⟨n,h1,h2,h3,_⟩:=h;exact⟨n,h1,h2,h3⟩
theorem N2.top{r:aN}{its:List KV}(h:N2 all r its):Aj all r its:=by
 obtain⟨n,h1,h2,_⟩:=h;exact⟨n,h1,h2⟩
theorem cW.more{all:List Nat}{r:aN}{its:List KV}(h:cW all r its)(m:List Nat):cW (all++m) r its:=by
 obtain⟨n,h1,h2,h3,h4⟩:=h;exact⟨n,h1.more m,h2,h3,h4⟩
theorem Aj.more{all:List Nat}{r:aN}{its:List KV}(h:Aj all r its)(m:List Nat):Aj (all++m) r its:=by
 obtain⟨n,h1,h2⟩:=h;exact⟨n,h1.more m,h2⟩
theorem cW.count{all:List Nat}{r:aN}{its:List KV}(h:cW all r its):r.k.count=its.length:=by
 obtain⟨n,h1,h2,_⟩:=h;rw[h2,h1.count]
theorem cW.first{all:List Nat}{r:aN}{its:List KV}(h:cW all r its):∃kv l,its=kv::l/\r.k.key=kv.1:=by
 obtain⟨n,h1,_,h3,_⟩:=h
 obtain⟨kv,l,e,f⟩:=h1.first
 rw[f]at h3
 exact⟨kv,l,e,(Option.some.inj h3).symm⟩
def aT{β:Type}(S:β->List KV->Prop):List β->List KV->Prop
 |[],its=>its=[]
 |x::xs,its=>∃s r,S x s/\aT S xs r/\its=s++r
theorem aT.app{β:Type}{S:β->List KV->Prop}:∀{xs ys:List β} {its:List KV},aT S (xs++ys) its↔∃a b,aT S xs a/\aT S ys b/\its=a++b
 |[],ys,its=>⟨λ h=>⟨[],its,rfl,h,rfl⟩, λ ⟨a,b,h1,h2,h3⟩=>by cases h1;rw[h3];exact h2⟩
 |x::xs,ys,its=>⟨λ ⟨s,r,h1,h2,h3⟩=>by
   obtain⟨a,b,e1,e2,e3⟩:=aT.app.1 h2
   exact⟨s++a,b,⟨s,a,h1,e1,rfl⟩,e2,by rw[h3,e3,List.append_assoc]⟩, λ ⟨a,b,⟨s,r,h1,h2,h3⟩,h4,h5⟩=>
   ⟨s,r++b,h1,aT.app.2 ⟨r,b,h2,h4,rfl⟩,by rw[h5,h3,List.append_assoc]⟩⟩
theorem aT.mono{β:Type}{S T:β->List KV->Prop}:∀{xs:List β} {its:List KV},(∀x∈xs,∀s,S x s->T x s)->aT S xs its->aT T xs its
 |[],_,_,h=>h
 |x::_,_,hm,⟨s,r,h1,h2,h3⟩=>⟨s,r,hm x List.mem_cons_self s h1,aT.mono (λ y hy=>hm y (List.mem_cons_of_mem _ hy)) h2,h3⟩
theorem aT.one{β:Type}{S:β->List KV->Prop}{x:β}{its:List KV}:aT S [x] its↔S x its:=
 ⟨λ ⟨s,r,h1,h2,h3⟩=>by cases h2;rw[h3,List.append_nil];exact h1, λ h=>⟨its,[],h,rfl,(List.append_nil _).symm⟩⟩
theorem aT.get{β:Type}{S:β->List KV->Prop}{xs:List β}{its:List KV}(h:aT S xs its){j:Nat}{x:β}(hj:xs[j]? =some x):∃a s b,aT S (xs.take j) a/\S x s/\aT S (xs.drop (j+1)) b/\its=a++(s++b):=by
 have bg:=(List.getElem?_eq_some_iff.1 hj).1
 have e:xs=xs.take j++(x::xs.drop (j+1)):=by
  conv=>lhs;rw[<-List.take_append_drop j xs]
  rw[List.drop_eq_getElem_cons bg,(List.getElem?_eq_some_iff.1 hj).2]
 rw[e]at h
 obtain⟨a,b,h1,⟨s,r,h2,h3,h4⟩,h5⟩:=aT.app.1 h
 exact⟨a,s,r,h1,h2,h3,by rw[h5,h4]⟩
theorem aT.len{β:Type}{S:β->List KV->Prop}(m:Nat)(hS:∀x s,S x s->m<=s.length):∀{xs:List β} {its:List KV},aT S xs its->xs.length*m<=its.length
 |[],_,_=>by simp
 |x::xs,_,⟨s,r,h1,h2,h3⟩=>by
  have:=aT.len m hS h2
  have:=hS _ _ h1
  rw[h3,List.length_cons,List.length_append,Nat.succ_mul]
  omega
theorem aT.sum{β:Type}{S:β->List KV->Prop}(f:β->Nat)(hS:∀x s,S x s->f x=s.length):∀{xs:List β} {its:List KV},aT S xs its->(xs.map f).sum=its.length
 |[],_,h=>by cases h;rfl
 |x::xs,_,⟨s,r,h1,h2,h3⟩=>by rw[h3,List.map_cons,List.sum_cons,aT.sum f hS h2,hS _ _ h1,List.length_append]
inductive Pc(α:Type)where
 |kept (r:aN)
 |loose (a:Option Addr)(c:Nat)(ys:List α)
def zE(x:an)(its:List KV):Prop:=its=[eC x]
def qO(all:List Nat)(h:Nat)(x:aw)(its:List KV):Prop:=cW all ⟨x,h⟩ its
theorem aT.its:∀{xs:List an} {its:List KV},aT zE xs its↔its=xs.map eC
 |[],_=>Iff.rfl
 |x::xs,its=>⟨λ ⟨s,r,h1,h2,h3⟩=>by rw[aT.its]at h2;cases h1;rw[h3,h2];rfl, λ h=>⟨[eC x],xs.map eC,rfl,aT.its.2 rfl,h⟩⟩
def cQ(its:List KV):Prop:=∀kv∈its,1<=kv.1.length/\kv.1.length<=24/\1<=kv.2.length/\kv.2.length<=24
theorem cQ.app{a b:List KV}(h:cQ (a++b)):cQ a/\cQ b:=⟨λ kv hk=>h kv (List.mem_append_left _ hk), λ kv hk=>h kv (List.mem_append_right _ hk)⟩
theorem gn{a b:List KV}(h:bb ((a++b).map Prod.fst)):bb (a.map Prod.fst)/\bb (b.map Prod.fst):=by
 rw[List.map_append]at h;exact⟨h.left,h.right⟩
theorem xL{all:List Nat}:∀{d at_:Nat} {n:Nd} {its:List KV},er all d n at_ its->n.tL*3^d<=its.length
 |0,_,.leaf xs,_,⟨_,_,h3⟩=>by subst h3;simp[Nd.tL,Nd.n1,Nd.n2]
 |d+1,_,.inner xs,_,⟨_,_,cq,h3,h4,h5⟩=>by
  subst h4
  have key:∀(xs:List aw) (cq:List (List KV)),cq.length=xs.length->(∀(j:Nat) (x:aw) (s:List KV),xs[j]? =some x->cq[j]? =some s->3^(d+1)<=s.length)->xs.length*3^(d+1)<=cq.flatten.length:=by
   intro xs
   induction xs with
   |nil=>intro cq _ _;simp
   |cons x xs ih=>
    intro cq hl hj
    cases cq with
    |nil=>simp at hl
    |cons s cq=>
     have e1:=ih cq (by simpa using hl) (λ j x s hx hs=>hj (j+1) x s hx hs)
     have e2:=hj 0 x s rfl rfl
     rw[List.length_cons,Nat.succ_mul,List.flatten_cons,List.length_append]
     omega
  have:=key xs cq h3 λ j x s hx hs=>by
   obtain⟨_,n,a2,_,_,a5⟩:=h5 j x s hx hs
   have:=xL a5
   have:3*3^d<=n.tL*3^d:=Nat.mul_le_mul_right _ a2
   rw[Nat.pow_succ];omega
  simpa[Nd.tL,Nd.n1,Nd.n2]using this
 |0,_,.inner _,_,h=>h.elim
 |_+1,_,.leaf _,_,h=>h.elim
theorem cW.many{r:aN}{its:List KV}(h:cW all r its):3^(r.h+1)<=its.length:=by
 obtain⟨n,h1,_,_,h4⟩:=h
 have:=xL h1
 have:3*3^r.h<=n.tL*3^r.h:=Nat.mul_le_mul_right _ h4
 rw[Nat.pow_succ];omega
theorem RG{a b:Nat}(h:a<=b):3^a<=3^b:=Nat.pow_le_pow_right bd h
theorem pX:∀(xs:List Nat) (n:Nat),63*(dq n xs).length<=64*xs.length+(n+63)%64
 |[],n=>by simp[dq]
 |x::xs,n=>by
  rw[iY,kM,List.length_append,List.length_cons]
  split
  ·have:=pX xs (n+[0,x].length)
   simp only[List.length_cons,List.length_nil]at this⊢
   omega
  ·have:=pX xs (n+[x].length)
   simp only[List.length_cons,List.length_nil]at this⊢
   omega
theorem En(p:List Nat)(n k:Nat)(hk:1<=k)(hp:p.length<=2+69*k):(dq n (eV p)).length<=80*k:=by
 have h:=pX (eV p) n
 rw[mE]at h
 omega
theorem Eo(ys:List an)(h:cQ (ys.map eC)):(bG ys).length<=2+59*ys.length:=by
 unfold bG
 have:=kU fi 59 ys λ x hx=>by
  have:=h (eC x) (List.mem_map.2 ⟨x,hx,rfl⟩)
  simp only[eC]at this
  rw[xC];omega
 simp only[List.length_cons];omega
theorem A0(xs:List aw)(h:∀x∈xs,x.key.length<=24):(bf xs).length<=2+69*xs.length:=by
 unfold bf
 have:=kU fw 69 xs λ x hx=>by
  have:=h x hx
  rw[xD];omega
 simp only[List.length_cons];omega
theorem Ji(h1:1<=ys.length)(h6:ys.length<=6)(hs:cQ (ys.map eC))(hr:bb ((ys.map eC).map Prod.fst)):jb ys/\∀x∈ys,1<=x.val.length:=by
 have hb:∀x∈ys,1<=x.key.length/\x.key.length<=24/\1<=x.val.length/\x.val.length<=24:= λ x hx=>hs (eC x) (List.mem_map.2 ⟨x,hx,rfl⟩)
 refine⟨⟨h1,h6, λ x hx=>aM (hb x hx),?_⟩, λ x hx=>(hb x hx).2.2.1⟩
 rw[List.map_map]at hr
 exact hr
theorem N3(all:List Nat)(h1:1<=ys.length)(h6:ys.length<=6)(hs:cQ (ys.map eC))(hr:bb ((ys.map eC).map Prod.fst))(hb:∀x∈bG ys,x<256):
 er (all++dq all.length (eV (bG ys))) 0 (.leaf ys) (br all.length) (ys.map eC):=by
 have ho:=Ji h1 h6 hs hr
 have hl:=Eo ys hs
 exact⟨dO.new all _ (by unfold bG;simp) ag hb,ho,rfl⟩
theorem A1{all:List Nat}{h:Nat}:∀{xs:List aw} {its:List KV},aT (qO all h) xs its->bb (its.map Prod.fst)->bb (xs.map aw.key)
 |[],_,_,_=> λ j a b ha=>by simp at ha
 |[x],_,_,_=> λ j a b ha hb=>by cases j<;>simp at hb
 |x::y::xs,_,⟨s,r,h1,h2,h3⟩,hr=> λ j a b ha hb=>by
  rw[h3]at hr
  cases j with
  |zero=>
   obtain⟨s',r',g1,_,g3⟩:=h2
   obtain⟨kv,l,e1,e2⟩:=cW.first h1
   obtain⟨kv',l',e1',e2'⟩:=cW.first g1
   simp only[List.map_cons,List.getElem?_cons_zero,Option.some.injEq,Nat.zero_add,List.getElem?_cons_succ]at ha hb
   rw[<-ha,<-hb]
   dsimp only at e2 e2'
   rw[e2,e2']
   exact xJ hr (by rw[e1];simp) (by rw[g3,e1'];simp)
  |succ j=>exact A1 h2 (gn hr).2 j a b (by simpa using ha) (by simpa using hb)
theorem Cr{its:List KV}(h2:2<=xs.length)(h6:xs.length<=6)(hS:aT (qO all h) xs its)(hs:cQ its)(hr:bb (its.map Prod.fst))(hl:its.length<=1000)(ha:all.length<=524288):
 dt xs/\(∀x∈xs,x.key.length<=24)/\(xs.map aw.count).sum=its.length:=by
 have hk:∀x∈xs,1<=x.key.length/\x.key.length<=24/\1<=x.at_/\x.at_<524288/\1<=x.count/\x.count<=1000:= λ x hx=>by
  obtain⟨j,hj⟩:=List.getElem?_of_mem hx
  obtain⟨a,s,b,_,g,_,e⟩:=hS.get hj
  obtain⟨kv,l,e1,e2⟩:=cW.first g
  have hc:=cW.count g
  have hm:=hs kv (by rw[e,e1];simp)
  obtain⟨n,g1,_⟩:=g
  have ot:=g1.node.1
  have:=ot.lt
  have Kl:=ot.xq
  dsimp only at e2 hc this Kl
  have:s.length<=its.length:=by rw[e];simp only[List.length_append];omega
  have:1<=s.length:=by rw[e1];simp
  rw[e2]
  omega
 refine⟨⟨h2,h6, λ x hx=>aM (hk x hx),A1 hS hr⟩, λ x hx=>(hk x hx).2.1,hS.sum aw.count λ x s g=>cW.count g⟩
theorem KL{its:List KV}(h2:2<=xs.length)(h6:xs.length<=6)(hS:aT (qO all h) xs its)(hs:cQ its)(hr:bb (its.map Prod.fst))(hl:its.length<=1000)(ha:all.length<=524288)(hb:∀x∈bf xs,x<256):
 er (all++dq all.length (eV (bf xs))) (h+1) (.inner xs) (br all.length) its:=by
 obtain⟨ho,hk,_⟩:=Cr h2 h6 hS hs hr hl ha
 have hl:=A0 xs hk
 refine⟨dO.new all _ (by unfold bf;simp) ag hb,ho,?_⟩
 have key:∀(xs:List aw) (its:List KV),aT (qO all h) xs its->∃cq:List (List KV),cq.length=xs.length/\its=cq.flatten/\∀(j:Nat) (x:aw) (s:List KV),xs[j]? =some x->cq[j]? =some s->cW all ⟨x,h⟩ s:=by
  intro xs
  induction xs with
  |nil=>intro its hh;exact⟨[],rfl,hh, λ j x s hx=>by simp at hx⟩
  |cons x xs ih=>
   rintro its ⟨s,r,g1,g2,g3⟩
   obtain⟨cq,e1,e2,e3⟩:=ih r g2
   refine⟨s::cq,by simp[e1],by rw[g3,e2];rfl, λ j y t hy ht=>?_⟩
   cases j with
   |zero=>cases hy;cases ht;exact g1
   |succ j=>exact e3 j y t hy ht
 obtain⟨cq,e1,e2,e3⟩:=key xs its hS
 refine⟨cq,e1,e2, λ j x s hx hs'=>?_⟩
 obtain⟨n,g1,g2,g3,g4⟩:=e3 j x s hx hs'
 refine⟨?_,n,g4,g2,g3,g1.more _⟩
 have:=g1.node.1.lt
 dsimp only at this
 unfold br;split<;>omega
end
end Go.Proofs.YtkgapncajjafoaaGreatDoor

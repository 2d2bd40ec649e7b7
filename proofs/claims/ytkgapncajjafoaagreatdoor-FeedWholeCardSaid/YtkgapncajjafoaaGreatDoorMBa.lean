/- FeedWhole: for every row of deeds and every row of bytes the law returns true, and its arguments read behind the call as they read before; conditions: none but the statement's own. -/
import Derived.Test.YtkgapncajjafoaaGreatDoorMAa
import Derived.Test.YtkgapncajjafoaaGreatDoorMAt
import Derived.Test.YtkgapncajjafoaaGreatDoorMAw
import Derived.Test.YtkgapncajjafoaaGreatDoorMAv
import Derived.Test.YtkgapncajjafoaaGreatDoorMAs
import Derived.Carry
set_option linter.unusedSimpArgs false
set_option linter.unusedVariables false
set_option maxRecDepth 100000
set_option maxHeartbeats 16000000
namespace Go.Proofs.YtkgapncajjafoaaGreatDoor
open Go.RowKit Go.Shelf
section
attribute [local go_sem] Oper.semAt_some
attribute [-go_sem] Builtin.append_
theorem aeM{w:World}{a am:Option Addr}{c cm:Nat}{ds:List gr}{ms:List Nat}(h:bj BB 4 w a ds)(hc:ds.length<=c)(Da:c<140737488355328)(gW:∀d∈ds,IH d)(Yf:ai w am ms):
 Calls Tryz.prog 5 (jF a ds.length c am ms.length cm) w λ e w'=>e= .returned (.bool true)/\Below w w w':=by
 have Fq:=af (λ (V:World) (hV:Below w w V)=>BC (h.below hV) hc Da gW)
 have HMS:=af (λ (V:World) (hV:Below w w V)=>Yf.below hV)
 obtain⟨K,hK⟩:=aK ds.length
 obtain⟨lm,hlm⟩:=aK ms.length
 rw[<-hK]at Fq⊢
 rw[<-hlm]
 have HLM:=af hlm
 have IV:∀W:World,(Instr.makeMap 59 none).run Tryz.prog W= .ok (.map (some W.heap.size)) (W.alloc (.map #[] 0)):= λ W=>aO
 clear h hc Da gW hK hlm Yf
 go_enter Tryz.func5,Tryz.ntmps5
 go_wp2_with first
  |((with_reducible refine(Mg _).mono ?_);rintro e w1 ⟨rfl,aQ⟩;have HL1:=af (Fq.O w1 aQ);have cZ:=af aQ;clear aQ)
  |((with_reducible refine HL1.O.mono ?_);rintro e w2 ⟨b,la,cf,ps,a1,d1,c1,a2,d2,c2,q,lc,es,rfl,hL,hA,hr,aC⟩
    obtain⟨L,PJ⟩:=aK es.length
    rw[<-PJ]
    obtain⟨w3,cL⟩:=aK (w2.alloc (.cells (uR b ps.length cf a1 d1 c1 a2 d2 c2 q la L lc) 46))
    have aL:Below w2 w2 w3:=by rw[cL];go_grown
    have iU:w3.heap.size=w2.heap.size+1:=by rw[cL];simp
    have C1:w3.heap[w2.heap.size]? =some (.cells (uR b ps.length cf a1 d1 c1 a2 d2 c2 q la L lc) 46):=jJ cL
    have fG:=hL.small
    have ko:q<=1099511627776:=by have h1:q<=_:=fG.1;rw[List.length_take]at h1;omega
    have HA:=af (hA.below aL)
    have HR:=af (hr.below aL)
    have H3:=jo C1 (cZ.O.T ((aC.T (aL.mono aC.size)).mono cZ.O.size)) iU PJ
    have mL:=af cL
    have Gv:=cj hL ko
    clear C1 fG ko hL hA hr aC PJ cL aL iU)
  |(refine et 46 ?_)
  |fail
 have HES:Hid ((es.Pairwise λ x y=>x.s<y.s)/\(∀x∈es,1<=x.s)/\(es.Pairwise λ x y=>x.id≠y.id)/\(∀x∈es,∀y∈x.id,y<256)/\es.length<=32/\∀x∈es,x.s<=q):=
  af ⟨HA.O.oI.oW, λ x hx=>(HA.O.oI.ok x hx).s1,HA.O.oI.apart,HA.O.SZ,HA.O.oI.many, λ x hx=>(HA.O.oI.ok x hx).le⟩
 have afZ:L<=32:=cG HES.O.2.2.2.2.1 H3.O.2.2.2
 go_loopw [7,8,10] (λ tk ls rd wr=>∃j r:Nat,r<=j/\j<=L/\rd= .int .i64 (r:Int)/\tk= .string (cX (j5 0 (es.take j)))/\ls= .int .u64 ((j5 0 (es.take j):Nat):Int)/\Hid (l9 wr (w2.heap.size+1) ((es.take j).map kvW))/\Hid (Below w3 w3 wr)) (λ _ _ rd _=>100 - (intOf rd).toNat)
 case atStart=>
  refine⟨0,0,aW,Nat.zero_le _,rfl,?_,rfl,af ?_,af ?_⟩
  ·rw[show j5 0 (es.take 0)=0 from rfl,<-J1]
  ·rw[<-mL.O,<-H3.O.2.2.1];exact l9.new w3
  ·rw[<-mL.O];exact(dp).alloc (aW) _
 case round=>
  obtain⟨j,r,hrj,hjL,rfl,rfl,rfl,HM,HB⟩:=hrel
  obtain⟨hf,kL,x21,x22⟩:=ad6 ((HB.O.block _ (aX H3.O.1).1).T H3.O.1)
  obtain⟨k,hk⟩:=aK (j5 0 (es.take j))
  rw[<-hk]
  have hkq:k<=q:=by
   rw[hk]
   rcases og (es.take j)with h0|⟨p,x,h0⟩
   ·rw[h0];exact Nat.zero_le _
   ·rw[h0];simp only[j5,List.getLast?_append,List.getLast?_singleton]
    exact HES.O.2.2.2.2.2 x (List.mem_of_mem_take (by rw[h0];simp))
  have key:= λ (N:Int) (hN:1<=N)=>zn (HA.O.file.below HB.O) HA.O.marks HA.O.oI Gv.O.2 hkq hN
  unfold aE cU at key
  have af0:(r:Int)<=32:=ag
  have ways:∃N:Int,1<=N/\((∃x Bm om:Nat,r<lm/\am=some ⟨Bm,om,none⟩/\wr.cell? (za Bm (om+r))=some (.int .u8 (x:Int))/\N=1+(x:Int)%9)\/(¬ r<lm/\N=1)):=by
   by_cases bg:r<lm
   ·obtain⟨x,hx⟩:∃x,ms[r]? =some x:=⟨_,List.getElem?_eq_getElem (aM HLM.O)⟩
    have hb:=(HMS.O wr (H3.O.2.1.T (HB.O.mono H3.O.2.1.size))).2
    rcases hb with h0|⟨Bm,om,rfl,hb⟩
    ·rw[h0]at hx;cases hx
    ·exact⟨1+(x:Int)%9,ag,.inl ⟨x,Bm,om,bg,rfl,hb r x hx,rfl⟩⟩
   ·exact⟨1,Int.le_refl _,.inr ⟨bg,rfl⟩⟩
  obtain⟨N,hN1,afF⟩:=ways
  have HS:=af (key N hN1)
  have aeU:=afg HES.O.1 HES.O.2.1 j N
  rw[<-hk]at aeU
  obtain⟨F,hF⟩:=aK (eS es k N)
  rw[<-hF]at HS aeU
  have hFN:(F.length:Int)<=N:=by rw[aeU,List.length_take];omega
  have KJ:j<=es.length:=aM H3.O.2.2.2
  have ng:=afk aeU KJ
  have HK:=af hk
  clear hF key hkq hk
  rcases afF with⟨x,Bm,om,bg,rfl,bq,rfl⟩|⟨bg,rfl⟩
  all_goals
   rcases(show F=[]\/1<=F.length from by cases F<;>simp)with h0|h0
   ·subst h0
    have hjn:=afj hN1 aeU
    have afK:j=L:=aM H3.O.2.2.2
    have AY:es.take j=es:=List.take_of_length_le hjn
    have mM:L=0\/k=q:=by
     have h1:=aeK Gv.O.1
     rw[HK.O,AY]
     have h2:=H3.O.2.2.2
     rcases h1 with h1|h1
     ·exact .inl (h2.T h1)
     ·exact .inr h1
    have RF:=af (show Calls Tryz.prog _ _ _ _ from HS.O)
    simp only[List.length_nil,show j5 k []=k from rfl]at RF
    have HMW:=af (show l9 wr (w2.heap.size+1) (es.map kvW)by have:=HM.O;rwa [AY]at this)
    have HJ:=cj afK mM
    clear HS HM hjn afK AY mM aeU hFN ng KJ hN1
    go_wp2_with first
     |(refine bh 37 ?_)
     |(refine bh 43 ?_)
     |((with_reducible refine RF.O.mono ?_);rintro e w5 ⟨x5,k5,rfl, -,bJ⟩
       have eN:=af (HB.O.T (bJ.mono HB.O.size))
       have HM5:=af (HMW.O.below bJ)
       obtain⟨-, -,y21,y22⟩:=ad6 ((eN.O.block _ (aX H3.O.1).1).T H3.O.1)
       clear bJ hf kL x21 x22)
     |fail
    go_loopw [101] (λ iv wv=>∃i:Nat,i<=L/\iv= .int .i64 (i:Int)/\Hid (Below w5 w5 wv)) (λ iv _=>L - (intOf iv).toNat)
    case atStart=>exact⟨0,Nat.zero_le _,rfl,af (dp)⟩
    case round=>
     obtain⟨i,hi,rfl,hBi⟩:=hrel
     by_cases vV:i<L
     ·obtain⟨y,hy⟩:∃y,es[i]? =some y:=⟨_,List.getElem?_eq_getElem (aM H3.O.2.2.2)⟩
      have ax:=(HR.O.below eN.O).below hBi.O
      obtain⟨B1,o1,RD⟩:=ax.some_ (aM H3.O.2.2.2)
      rw[RD]at ax
      have Lu:=ax.get hy
      obtain⟨wx,oH⟩:=aK (wr.alloc (.cells (se y.s (aU y.id) y.g y.m y.del) 56))
      have ey:Below wr wr wx:=by rw[oH];go_grown
      have qz:wx.heap[wr.heap.size]? =some (.cells (se y.s (aU y.id) y.g y.m y.del) 56):=jJ oH
      obtain⟨-,k1, -, -, -⟩:=gF qz
      have hMx:=(HM5.O.below hBi.O).below ey
      have Ye:=Lw (P:=Tryz.prog) (T:=59) (K:=9) (E:=3) (key:=.string (aU y.id)) hMx aO (d:=.string) aO trivial aeq (v:=.int .i64 1) aeC (by
       have h9:=afc hy (j:=es.length) (List.getElem?_eq_some_iff.1 hy).1
       rwa [List.take_length]at h9) false
      have mQ:=af (hBi.O.T (ey.mono hBi.O.size))
      have hiL:(i:Int)<(L:Int):=ag
      simp only[Bool.false_eq_true,if_false]at Ye
      unfold eQ at Lu
      subst RD
      rw[oH]at k1 Ye mQ
      clear hy ax oH ey qz hMx hi
      go_wp2_with first
       |(refine bh 56 ?_)
       |(refine et 56 ?_)
       |fail
      exact⟨⟨i+1,ag,by simp,mQ⟩,by simp[intOf];omega⟩
     ·obtain rfl:L=i:=ag
      have z21:=carry hBi.O y21
      have z22:=carry hBi.O y22
      have hml:= λ ty=>afh (P:=Tryz.prog) (T:=59) (K:=9) (E:=3) (HM5.O.below hBi.O) aO ty
      rw[List.length_map,<-H3.O.2.2.2]at hml
      have HE:=af (H3.O.2.1.T ((eN.O.T (hBi.O.mono eN.O.size)).mono H3.O.2.1.size))
      have afC:L=0\/k=q:=HJ.O.2
      by_cases hL0:L=0
      ·have afP:((L:Int)==0)=true:=bV
       clear y21 y22 afC
       go_wp2_with fail
       go_ret
       exact⟨rfl,HE.O⟩
      ·have afP:((L:Int)==0)=false:=bV
       obtain rfl:=afC.resolve_left hL0
       clear y21 y22 afC
       go_wp2_with fail
       go_ret
       exact⟨rfl,HE.O⟩
   ·obtain⟨f,hf⟩:=aK F.length
    have Cg:∀i,i<f->F[i]? =es[j+i]? := λ i hi=>afi aeU ag
    have zy:j5 k F=j5 0 (es.take (j+f)):=by
     rw[HK.O,hf,<-ng.2,<-aeL,<-aeU]
    have hjf:j+f<=L:=cG H3.O.2.2.2 ng.1
    rw[<-hf]at hFN h0
    have Ty:=af (show Calls Tryz.prog _ _ _ _ from HS.O)
    rw[<-hf,zy]at Ty
    have HG:=af Cg
    have HMW:=af HM.O
    have HJ:=cV h0 hjf hf
    have hf0:((f:Int)==0)=false:=bV
    have afQ:(f:Int)<=32:=ag
    clear HS HM zy Cg aeU ng KJ hN1 hf
    go_wp2_with first
     |(refine bh 37 ?_)
     |(refine bh 43 ?_)
     |((with_reducible refine Ty.O.mono ?_);rintro e w5 ⟨x5,k5,rfl,Uy,bJ⟩
       have eN:=af (HB.O.T (bJ.mono HB.O.size))
       have HM5:=af (HMW.O.below bJ)
       have HR5:=af (bj.gX Uy iG bd)
       clear bJ Uy hf kL x21 x22)
     |fail
    go_loopw [8,74] (λ ls iv wv=>∃i:Nat,i<=f/\iv= .int .i64 (i:Int)/\ls= .int .u64 ((j5 0 (es.take (j+i)):Nat):Int)/\Hid (l9 wv (w2.heap.size+1) ((es.take (j+i)).map kvW))/\Hid (gd (λ z=>z=w2.heap.size+1) w5 wv)) (λ _ iv _=>f - (intOf iv).toNat)
    case atStart=>exact⟨0,Nat.zero_le _,rfl,by rw[Nat.add_zero,<-HK.O],af HM5.O,af (gd.refl _ _)⟩
    case round=>
     obtain⟨i,hi,rfl,rfl,HMi,HOi⟩:=hrel
     by_cases vV:i<f
     ·obtain⟨y,hy⟩:∃y,es[j+i]? =some y:=⟨_,List.getElem?_eq_getElem (aM H3.O.2.2.2)⟩
      have hyF:F[i]? =some y:=(HG.O i vV).T hy
      have JN:∃es c,w5.heap[w2.heap.size+1]? =some (.map es c):=by obtain⟨e1,c1,h1, -⟩:=HM5.O;exact⟨e1,c1,h1⟩
      have ax:=aeg HR5.O JN HOi.O
      obtain⟨B1,o1,RD⟩:=ax.some_ (by have:=(List.getElem?_eq_some_iff.1 hyF).1;omega)
      rw[RD]at ax
      have Lu:=ax.get hyF
      have afD:=aeZ HES.O.1 HES.O.2.1 hy
      have afL:=aed hy
      obtain⟨kk,Dy⟩:=aK (j5 0 (es.take (j+i)))
      rw[<-Dy]at afD⊢
      obtain⟨wx,oH⟩:=aK (wr.alloc (.cells (se y.s (aU y.id) y.g y.m y.del) 56))
      have ey:Below wr wr wx:=by rw[oH];go_grown
      have qz:wx.heap[wr.heap.size]? =some (.cells (se y.s (aU y.id) y.g y.m y.del) 56):=jJ oH
      have hMx:=HMi.O.below ey
      have km:=afw HES.O.2.2.1 HES.O.2.2.2.1 hy
      have Ye:=Lv (P:=Tryz.prog) (T:=59) (K:=9) (E:=3) (key:=.string (aU y.id)) hMx aO (d:=.string) aO trivial aeq (z:=.int .i64 0) aO km false
      obtain⟨o,hmu,zF,Tx, -⟩:=Sq (P:=Tryz.prog) (T:=59) (K:=9) (E:=3) (key:=.string (aU y.id)) hMx aO (d:=.string) aO trivial aeq (.int .i64 1) km
      obtain⟨wp,hwp⟩:=aK (wx.putObj (w2.heap.size+1) o)
      have afR:w2.heap.size+1<wr.heap.size:=by obtain⟨e1,c1,h1, -⟩:=HMi.O;exact(aX h1).1
      have R5:wp.heap[wr.heap.size]? =some (.cells (se y.s (aU y.id) y.g y.m y.del) 56):=by rw[hwp];exact(World.putObj_heap_other ag).T qz
      have hOp:gd (λ z=>z=w2.heap.size+1) w5 wp:=by rw[hwp];exact HOi.O.T ((gd.aA ey).T (aeD _ _ _))
      rw[<-hwp]at hmu zF
      have etk:(es.take (j+i)).map kvW++[kvW y]=(es.take (j+(i+1))).map kvW:=by
       obtain⟨afS,e9⟩:=List.getElem?_eq_some_iff.1 hy
       have e8:es.take (j+(i+1))=es.take (j+i)++[y]:=by rw[<-Nat.add_assoc,List.take_succ_eq_append_getElem afS,e9]
       rw[e8,List.map_append];rfl
      have acO:l9 wp (w2.heap.size+1) ((es.take (j+(i+1))).map kvW):=by rw[<-etk];exact zF
      have afT:=Lw (P:=Tryz.prog) (T:=59) (K:=9) (E:=3) (key:=.string (aU y.id)) acO aO (d:=.string) aO trivial aeq (v:=.int .i64 1) aeC (afc hy ag) false
      obtain⟨-,k1, -, -, -⟩:=gF qz
      obtain⟨p0,p1, -, -, -⟩:=gF R5
      have af1:¬ (y.s:Int)<=(kk:Int):=ag
      have af2:decide ((y.s:Int)<=(kk:Int))=false:=bV
      have Yr:(i:Int)<(f:Int):=ag
      have HP:=cV acO hOp afL
      simp only[Bool.false_eq_true,if_false]at Ye afT
      unfold eQ at Lu
      subst RD
      rw[oH]at k1 Ye hmu
      clear hy hyF JN ax afD afL Dy oH ey qz hMx km zF Tx hwp R5 hOp etk acO hi afR
      go_wp2_with first
       |(refine bh 56 ?_)
       |(refine et 56 ?_)
       |fail
      exact⟨⟨i+1,ag,by simp,by rw[<-Nat.add_assoc,HP.O.2.2],af HP.O.1,af HP.O.2.1⟩,by simp[intOf];omega⟩
     ·obtain rfl:f=i:=ag
      have HBo:Hid (Below w3 w3 wr):=af (eN.O.T (HOi.O.below (λ z hz=>by rw[hz,<-H3.O.2.2.1];exact aW) eN.O.size))
      have hni:¬ (f:Int)<(f:Int):=ag
      have HM9:=af HMi.O
      go_wp2_with fail
      exact⟨⟨j+f,r+1,by have:=HJ.O.1;omega,HJ.O.2.1,by simp,rfl,rfl,HM9,HBo⟩,by simp[intOf];omega⟩
end
section
open Go.RowKit Go.Shelf Go.ChangeShapes Go.WideShapes
section
variable {H : Type} {enc : TypeId × Value -> H} {W : World} {base : Nat} {spare : Nat -> Bool} {held : Bool}
theorem ae0{v:Value}{d:DataW H}{p:List MemPlace}{b0:Nat}(hv:Value.okWide Tryz.prog W .any b0 34 v)(h:DataW.Trod enc Tryz.prog W 0 (λ _=>true) true 34 v d p):
 ∃(a:Option Addr) (c:Nat) (xs:List Nat),v= .slice a xs.length c/\ai W a xs:=by
 have su:Tryz.prog.underlying 34=some (.slice 5):=aO
 obtain⟨fuel,hf⟩:=h
 have bq:∀u:Value,v.cells.toList=[u]->(∃a n k,u= .slice a n k)->v=u:= λ u hu hs=>by
  unfold Value.okWide at hv
  rw[su]at hv
  obtain⟨a,n,k,rfl⟩:=hs
  cases v<;>simp[Cell.okWide,Cell.ok,su,Value.cells]at hv hu<;>simp_all
 rcases Go.Deep.open_slice su hf with⟨h1,h2⟩|⟨a,len,cap,m,n,D,Pl,h1, -,hl,hm,CJ,hx,WA⟩
 ·exact⟨none,0,[],bq _ h1 ⟨_,_,_,rfl⟩,⟨by simp,.inl rfl⟩⟩
 ·have hmc:m=cap:=by rw[CJ];rfl
  subst hmc
  have each:∀i,i<m->∃x:Nat,W.cell? (a.add (i*1))=some (.int .u8 (x:Int))/\x<256:= λ i hi=>by
   obtain⟨cs,F5,Da⟩:=WA i hi
   rw[show Tryz.prog.cellsOf 5=1 by kernel_rfl]at F5
   obtain⟨ng,_,kL⟩:=World.cells?_some F5
   match cs,ng with
   |[u],_=>
    obtain⟨k,e3, -,hk⟩:=DataW.trod_int Tryz.underlying5 Da
    cases e3
    simp only[Lit.wf,Bool.and_eq_true,decide_eq_true_eq]at hk
    have m1:IntKind.u8.min=0:=by decide
    have m2:IntKind.u8.max=255:=by decide
    rw[m1,m2]at hk
    obtain⟨x,rfl⟩:=Int.eq_ofNat_of_zero_le hk.1
    have c0:=kL 0 bd
    rw[show(a.add (i*1)).add 0=a.add (i*1)by simp[Addr.add]]at c0
    exact⟨x,c0,ag⟩
  obtain⟨q,hq⟩:=Go.Deep.choose_lt each
  refine⟨some a,m,(List.range len).map q,by rw[List.length_map,List.length_range];exact bq _ h1 ⟨_,_,_,rfl⟩, λ x ek=>?_,?_⟩
  ·obtain⟨i,hi,rfl⟩:=List.mem_map.1 ek
   exact(hq i (aM (List.mem_range.1 hi))).2
  ·rcases Nat.eq_zero_or_pos len with h0|h0
   ·subst h0;exact .inl rfl
   ·have O8:a.spot=none:=by
     have c0:=(hq 0 ag).1
     rw[Nat.zero_mul,show a.add 0=a from by simp[Addr.add]]at c0
     unfold World.cell? at c0
     split at c0
     ·split at c0
      ·cases c0
      ·rename_i hh;simpa using hh
     ·cases c0
    obtain⟨B,o,sp⟩:=a
    simp only at O8
    subst O8
    refine .inr ⟨B,o,rfl, λ j x ek=>?_⟩
    have hj:j<len:=by have:=(List.getElem?_eq_some_iff.1 ek).1;simpa using this
    rw[List.getElem?_map,List.getElem?_range hj]at ek
    cases ek
    have hh:=(hq j ag).1
    rw[Nat.mul_one,Addr.add_mid]at hh
    exact hh
end
end
section
open Go.ChangeShapes Go.WideShapes Go.ChangeAt Go.RowKit
namespace fWho
theorem laidOut:laidOutB Tryz.prog=true:=aO
theorem params7:Tryz.f5.params.toList=[33,34]:=aO
theorem P6(H:Type)(enc:TypeId×Value->H)(W:World)(base:Nat)(args:Array Value)(ds gs:List (DataW H))(before:List MemPlace)
 (Am:∀(j:Nat) t v,Tryz.f5.params[j]? =some t->args[j]? =some v->Value.okWide Tryz.prog W .any base t v)
 (hW:DataW.Whole enc Tryz.prog Tryz.f5.params.toList Rows.feedWholeSpec.vars false W args.toList ds gs before)
 (jr:(DataW.weightsEach Tryz.prog (Tryz.f5.params.toList++(OpenSpec.ofChange Rows.feedWholeSpec).bare.plain.varTypes Tryz.prog) (ds++gs)).all (·<=reachBytes)=true):
 Calls Tryz.prog 5 args W λ e W'=>∃v,e= .returned v/\Rows.feedWholeSpec.post enc Tryz.prog Tryz.f5 false true false false W args v W':=by
 have hW':=hW
 have bg:= λ x hx=>hW.lt x hx
 obtain⟨p,q,hA0,hV,rfl,hfz,CV⟩:=hW
 have hA:DataW.TrodAll enc Tryz.prog W 0 (λ _=>true) true Tryz.f5.params.toList args.toList ds p:=hA0
 have acS:Tryz.f5.params=#[33,34]:=aO
 rw[params7]at hA jr
 rw[acS]at Am
 obtain⟨v0,vs0,d0,ds0,p0,q0,To,rfl,rfl,h0,r0⟩:=trodAll_cons hA
 obtain⟨v1,vs1,d1,ds1,p1,q1,abB,rfl,rfl,h1,r1⟩:=trodAll_cons r0
 obtain⟨rfl,rfl,rfl⟩:=trodAll_nil r1
 obtain rfl:args=#[v0,v1]:=by cases args;simp_all
 obtain⟨rfl,rfl⟩:=trodVars_none hV
 obtain⟨a0,c0,l0,rfl,Tq,hc0,hd0,afa⟩:=II (Am 0 _ v0 rfl rfl) h0 (λ n hn=>by
  have:=List.all_eq_true.1 jr n (by
   simp only[List.cons_append,DataW.weightsEach]
   exact List.mem_append_left _ hn)
  simpa using this)
 obtain⟨a1,c1,l1,rfl,rh⟩:=ae0 (Am 1 _ v1 rfl rfl) h1
 clear hA0
 refine(aeM Tq hc0 hd0 afa rh).mono λ e W' ⟨he,hb⟩=>?_
 subst he
 have hsh:DataW.TrodAll enc Tryz.prog W' 0 (λ b=>decide (b<W.heap.size)) true Tryz.f5.params.toList (jF a0 l0.length c0 a1 l1.length c1) [d0,d1] (p0++(p1++[])):=by
  rw[params7]
  exact trodAll_cons_mk (Below.trod laidOut aO (of_decide_eq_true aO) h0 hb (λ x hx=>bg x (by simp[hx]))) (trodAll_cons_mk (Below.trod laidOut aO (of_decide_eq_true aO) h1 hb (λ x hx=>bg x (by simp[hx]))) trodAll_mk0)
 refine⟨_,rfl,MQ hW' (λ _ _ _=>trodAll_cons_mk (shut_bool Tryz.underlying4 _) trodAll_mk0) ?_ rfl hb⟩
 rw[show p0++(p1++[])++[]=p0++(p1++[])from List.append_nil _]
 exact hsh
end fWho
namespace fWho
noncomputable def J2:Array Value:=#[.slice none 0 0,.slice none 0 0]
theorem P7(os:Os):laidMet Tryz.prog Rows.feedWholeRow.laid ((tR os).forCall (λ _ _=>0) ⟨#[],J2,[]⟩).memory:=
 laidMet_of_run' 8 aO aO
theorem reads(os:Os){H:Type}(enc:TypeId×Value->H):∃places,DataW.whole enc Tryz.prog ((tR os).forCall (λ _ _=>0) ⟨#[],J2,[]⟩).memory Tryz.f5.params.toList Rows.feedWholeSpec.vars false J2.toList 8=some ([.nil,.nil],[],places):=
 ⟨[],aO⟩
theorem lifted(os:Os)(started:os.Started)(H:Type)(enc:TypeId×Value->H)(F:Stop.Interp):
 ReturnsInHanded {} Tryz.checked os 5 .any ((OpenSpec.ofChange Rows.feedWholeSpec).preRow enc Tryz.prog Tryz.f5 Rows.feedWholeRow.domain false Rows.feedWholeRow.laid) (((OpenSpec.ofChange Rows.feedWholeSpec).at F).post enc Tryz.prog Tryz.f5 false true false false):=by
 obtain⟨places,hx⟩:=reads os enc
 refine returnsInHanded_of_row (C:=Tryz.checked) (s:=OpenSpec.ofChange Rows.feedWholeSpec) own started aO Tryz.func5
  (witness_row_at (enc:=enc) (C:=Tryz.checked) false (tR os) J2 rfl aO aO aO
    (OpenSpec.preRow_of_cond 8 hx aO (λ k hk=>by cases hk) aO (P7 os))) ?_
 intro W base args ds gs before Am hW _ _ jr _ _ _
 exact P6 H enc W base args ds gs before Am hW jr
theorem aas:Tryz.pinned.checked.prog.funcNamed Rows.feedWholeRow.func=some 5:=aO
theorem Tl:joinedFacts Tryz.pinned.checked.prog 5 Tryz.f5 (OpenSpec.ofChange Rows.feedWholeSpec).bare Rows.feedWholeRow=true:=aO
theorem aat:Tryz.f5.isInstance Tryz.pinned.checked.prog Rows.feedWholeRow.origin Rows.feedWholeRow.targs:=of_decide_eq_true aO
theorem aau:Tryz.f5.isWrapper Tryz.pinned.checked.prog Rows.feedWholeRow.wrapper Rows.feedWholeRow.mainSum:=by
 unfold Func.isWrapper;first|(rw[if_pos (by decide+kernel)];kernel_rfl)|(rw[if_neg (by decide+kernel)];exact⟨rfl,rfl⟩)
theorem said:Rows.FeedWholeSaid:=
 OpenClaim.holds_of_cond 5 Tryz.f5 rfl rfl rfl rfl rfl rfl rfl ⟨rfl,rfl,rfl,rfl,rfl⟩ rfl rfl rfl rfl rfl aas Tryz.func5 Tl aat aau
  (λ os started H enc _ F=>by rw[OpenClaim.pre_eq_preRow];exact lifted os started H enc F)
theorem plain(f:FuncId)(fn:Func)(hf:Tryz.pinned.checked.prog.funcNamed "davenport/davenportlaw21.FeedWhole" =some f)(Za:Tryz.pinned.checked.prog.funcs[f]? =some fn):
 true=Tryz.pinned.checked.prog.looks []/\∀(j:Nat) t,fn.params[j]? =some t->Tryz.pinned.checked.prog.wantsStandIn t=false:=by
 obtain rfl:f=5:=Option.some.inj ((show Tryz.prog.funcNamed "davenport/davenportlaw21.FeedWhole" =some 5 by kernel_rfl).symm.T hf)|>.symm
 obtain rfl:fn=Tryz.f5:=(Option.some.inj (Tryz.func5.symm.T Za)).symm
 refine⟨aO, λ j t ht=>?_⟩
 rw[show Tryz.f5.params=#[33,34]by kernel_rfl]at ht
 have ht':t=33\/t=34:=by simpa using Array.mem_of_getElem? ht
 rcases ht' with rfl|rfl
 ·exact(show Tryz.prog.wantsStandIn 33=false by kernel_rfl)
 ·exact(show Tryz.prog.wantsStandIn 34=false by kernel_rfl)
theorem acT:Rows.FeedWholeCardSaid:=
 Claim7.holds_tied_plain_at .later [] _ _ _ _ said (λ _ h=>by cases h) aO (λ _ h=>by cases h) feedWhole_row_tie rfl ⟨rfl,rfl⟩ aO rfl plain aO
end fWho
theorem feedWhole_holds:Rows.FeedWholeCardSaid:=fWho.acT
#print axioms feedWhole_holds
end
end Go.Proofs.YtkgapncajjafoaaGreatDoor

/- The store, part 19. -/
import Derived.Test.YtkgapncajjafoaaGreatDoorMAa
import Derived.Test.YtkgapncajjafoaaGreatDoorMAr
import Derived.OpenShut
import Derived.Deep.Slices
import Derived.Lib.SmallJoins
import Derived.SizedLaws
import Derived.Test.YtkgapncajjafoaaGreatDoorMAo
import Derived.Test.YtkgapncajjafoaaGreatDoorMAj
import Derived.Test.YtkgapncajjafoaaGreatDoorMAk
import Derived.Test.YtkgapncajjafoaaGreatDoorChecked
import Derived.WalkKit
import Derived.IntWalk
import Derived.Lib.Hide
import Derived.Laws.BitsAllLaws
import Derived.Laws.Bits64
import Derived.Laws.RangeString
import Derived.Laws.RangeAny
import Derived.Laws.Runes
import Derived.LoopTactic
import Derived.Scope
import Derived.WalkMore
import Derived.Sort.Walk7a
import Derived.Test.YtkgapncajjafoaaGreatDoorMAb
import Derived.Test.YtkgapncajjafoaaGreatDoorMAd
import Derived.Test.YtkgapncajjafoaaGreatDoorMAc
set_option linter.unusedSimpArgs false
set_option linter.unusedVariables false
set_option maxRecDepth 100000
set_option maxHeartbeats 16000000
namespace Go.Proofs.YtkgapncajjafoaaGreatDoor
open Go.RowKit Go.Shelf
variable{w W V:World}{st dd:Array Value}{n m cf a1 d1 c1 a2 d2 c2 q lc g bL B c k pos d R n₀:Nat}{a b la b' ka:Option Addr}{ps bY:List Piece}{es:List aG}{x:aG}{s:ByteArray}{bs:List Nat}
section
attribute [local go_sem] Oper.semAt_some
attribute [-go_sem] Builtin.append_
theorem PE{w1:World}(h:w1=(((w.alloc (.cells st 46)).alloc (.cells dd 64)).alloc (.cells ze 46)).alloc (.cells ck 54)):tG w w1 st dd 0 0:=by
 obtain⟨v,hv⟩:=aK (w.alloc (.cells st 46))
 have hs:v.heap.size=w.heap.size+1:=by rw[hv];simp
 have h0:v.heap[w.heap.size]? =some (.cells st 46):=jJ hv
 rw[<-hv]at h
 have h3:=eH (w:=v) (w2:=w1) (by rw[h];exact dp)
 have hb:Below v v w1:=by rw[h];go_grown
 have Rw:Below w w v:=by rw[hv];go_grown
 have hz:w1.heap.size=w.heap.size+1+1+1+1:=by rw[h];simp[hs]
 rw[hs]at h3 hb
 exact⟨(hb.block _ ag).T h0,h3.1,h3.2.1,h3.2.2,Rw.T (hb.mono ag),ag⟩
theorem L6{β:Type}{f:β->List Value}{sz:Nat}{xs:List β}(h:bj f sz W a xs)(hn:∀p,a=some p->n<=p.block)(hk:∀j,n<=j->V.heap[j]? =W.heap[j]?):bj f sz V a xs:=by
 rcases h with h|⟨B,o,e,h⟩
 ·exact .inl h
 ·exact .inr ⟨B,o,e, λ j x hx i v hv=>(World.cell?_of_block (w:=W) (hk B (hn _ e))).T (h j x hx i v hv)⟩
theorem pS{P:Program}{fn:Func}{p u:Tmp}{ty:TypeId}(h:fn.results=#[.cell p ty,.tmp u])(tmps:Array Value)(w:World)(b:Nat)(cs:List Value)(d:TypeDesc)(hp:tmps.getD p undef= .pointer (zp b))(hc:w.rangeAt b 0 cs)(hu:P.underlying ty=some d)(hd:d.isRow=true)(hi:(P.info? ty).map (·.size)=some cs.length)(r:Value)(hr:tmps.getD u undef=r):
 (results fn tmps).run P w= .ok (.tuple #[.agg cs.toArray,r]) w:=by
 have e:=run_loadVar_mid w b 0 ty cs d hc hu hd hi
 rw[results_cell_tmp h,hp,hr]
 simp[asAddr,e,Result.andThen]
theorem zg:m=vQ true m:=rfl
theorem tG.rq{r m r' m':Int}(h:tG w W st dd r m)(h1:V.heap[w.heap.size+1+1+1]? =some (.cells (Dk r' m') 54))(h2:∀j,j≠w.heap.size+1+1+1->V.heap[j]? =W.heap[j]?)(hb:Below w w V):tG w V st dd r' m':=
 ⟨(h2 _ ag).T h.b0,(h2 _ ag).T h.b1,(h2 _ ag).T h.b2,h1,hb,(aX h1).1⟩
theorem PF(h:lG.At ⟨b,cf,ps,a1,d1,c1,a2,d2,c2,q,es⟩ w)(hl:bj eQ 5 w la es)(hq:q<1000)(hr:(al ps).length+12000<=524288)(id:ByteArray)(j4:id.size<=4611686018427387904)(gone right:Bool)(n:Int)(dD: -9223372036854775808<=n)(fu:n<9223372036854775808):
 Calls Tryz.prog 18 (YI (.agg (uR b ps.length cf a1 d1 c1 a2 d2 c2 q la es.length lc)) (.agg (oh id gone right n))) w λ e w'=>∃(b' qM:Option Addr) (bL:Nat) (bY:List Piece) (p1 e1 f1 p2 e2 f2 q' tM:Nat) (qS:List aG),e= .returned (.tuple (lD (.agg (uR b' bY.length bL p1 e1 f1 p2 e2 f2 q' qM qS.length tM))))/\Step ⟨b,cf,ps,a1,d1,c1,a2,d2,c2,q,es⟩ ⟨b',bL,bY,p1,e1,f1,p2,e2,f2,q',qS⟩ id gone right/\lG.At ⟨b',bL,bY,p1,e1,f1,p2,e2,f2,q',qS⟩ w'/\bj eQ 5 w' qM qS/\Below w w w':=by
 have ma:es.length<=32:=h.oI.many
 obtain⟨L,hL⟩:=aK es.length
 rw[<-hL]
 obtain⟨w1,aH⟩:=aK ((((w.alloc (.cells (iI b ps.length cf a1 d1 c1 a2 d2 c2 q la L lc) 46)).alloc (.cells (oh id gone right n) 64)).alloc (.cells Av 46)).alloc (.cells ck 54))
 have RH:tG w w1 (iI b ps.length cf a1 d1 c1 a2 d2 c2 q la L lc) (oh id gone right n) 0 0:=PE aH
 obtain⟨o,ho⟩:=Pt es (dk id)
 have HD:=af (λ (V:World) (m:Nat) (hm:m=vQ right (rm o)) (hV:tG w V (iI b ps.length cf a1 d1 c1 a2 d2 c2 q la L lc) (oh id gone right n) (rg o:Int) (m:Int))=>show Calls Tryz.prog 30 #[.agg (cK b ps.length cf),.agg (cw a1 d1 c1 a2 d2 c2 q),.string id,.agg (MH (rg o:Int) m)] V λ e w'=>∃(z:Int) (b':Option Addr) (bL:Nat) (bY:List Piece) (p1 e1 f1 p2 e2 f2 q':Nat) (qS:List aG) (x:aG),Step ⟨b,cf,ps,a1,d1,c1,a2,d2,c2,q,es⟩ ⟨b',bL,bY,p1,e1,f1,p2,e2,f2,q',qS⟩ id true right/\x.id=dk id/\x.s=q'/\x.del=true/\((z=0/\qS=ee es x)\/((z=290\/z=4\/z=300\/z=301)/\qS=es))/\e= .returned (.tuple (Tn (.agg (cK b' bY.length bL)) (.agg (cw p1 e1 f1 p2 e2 f2 q')) (.agg (cP x.g x.m)) z))/\lG.At ⟨b',bL,bY,p1,e1,f1,p2,e2,f2,q',qS⟩ w'/\tG w w' (iI b ps.length cf a1 d1 c1 a2 d2 c2 q la L lc) (oh id gone right n) (rg o:Int) (m:Int)from by
  refine(S3 ⟨b,cf,ps,a1,d1,c1,a2,d2,c2,q,es⟩ (h.below hV.oJ) hq hr id j4 ho (rg o) m).mono λ e w' hh=>?_
  obtain⟨z,⟨b',bL,bY,p1,e1,f1,p2,e2,f2,q',qS⟩,x,hO,he,hA,hb⟩:=hh
  subst hm
  refine⟨z,b',bL,bY,p1,e1,f1,p2,e2,f2,q',qS,x,JQ h ho hO,hO.xid,hO.xs,hO.Xp,?_,he,hA,hV.below hb⟩
  rcases hO.res with⟨h1,_,_,h2⟩|⟨h1,_,h2⟩
  ·exact .inl ⟨h1,h2⟩
  ·exact .inr ⟨h1,congrArg lG.es h2⟩)
 have HP:=af (λ (V:World) (m:Nat) (hm:m=vQ right (rm o)) (hV:tG w V (iI b ps.length cf a1 d1 c1 a2 d2 c2 q la L lc) (oh id gone right n) (rg o:Int) (m:Int))=>show Calls Tryz.prog 31 #[.agg (cK b ps.length cf),.agg (cw a1 d1 c1 a2 d2 c2 q),.string id,.agg (MH (rg o:Int) m),.agg (BL n)] V λ e w'=>∃(z:Int) (b':Option Addr) (bL:Nat) (bY:List Piece) (p1 e1 f1 p2 e2 f2 q':Nat) (qS:List aG) (x:aG),Step ⟨b,cf,ps,a1,d1,c1,a2,d2,c2,q,es⟩ ⟨b',bL,bY,p1,e1,f1,p2,e2,f2,q',qS⟩ id false right/\x.id=dk id/\x.s=q'/\x.del=false/\((z=0/\qS=ee es x)\/((z=290\/z=4\/z=300\/z=301)/\qS=es))/\e= .returned (.tuple (Tn (.agg (cK b' bY.length bL)) (.agg (cw p1 e1 f1 p2 e2 f2 q')) (.agg (cP x.g x.m)) z))/\lG.At ⟨b',bL,bY,p1,e1,f1,p2,e2,f2,q',qS⟩ w'/\tG w w' (iI b ps.length cf a1 d1 c1 a2 d2 c2 q la L lc) (oh id gone right n) (rg o:Int) (m:Int)from by
  refine(S4 ⟨b,cf,ps,a1,d1,c1,a2,d2,c2,q,es⟩ (h.below hV.oJ) hq hr id j4 ho (rg o) m n dD fu).mono λ e w' hh=>?_
  obtain⟨z,⟨b',bL,bY,p1,e1,f1,p2,e2,f2,q',qS⟩,x,hO,he,hA,hb⟩:=hh
  subst hm
  refine⟨z,b',bL,bY,p1,e1,f1,p2,e2,f2,q',qS,x,JQ h ho hO,hO.xid,hO.xs,hO.Xp,?_,he,hA,hV.below hb⟩
  rcases hO.res with⟨h1,_,_,h2⟩|⟨h1,_,h2⟩
  ·exact .inl ⟨h1,h2⟩
  ·exact .inr ⟨h1,congrArg lG.es h2⟩)
 have HW:=af (λ (V:World) (x:aG) (hV:Below w w V) (hx:x.id=dk id)=>Pz (c:=lc) (hl.below hV) (show es.length<=1000 by omega) (x:=x) (λ y hy=>⟨λ e=>by
  have e2:=congrArg dk e
  rw[yH (h.SZ y hy),hx,lg]at e2
  rw[hx];exact e2, λ e=>by rw[e]⟩))
 rw[<-hL]at HW
 have HRT:=af (show(As id es)=(rg o,rm o)from IG h.oI.apart ho)
 have HB:=af (λ y (hy:y∈es)=>h.SZ y hy)
 have HF:=cj h.file hl
 have sk:(L:Int)<=1000:=ag
 have Gv:=af hL
 have HD1:=af RH
 have kg:=af aH
 have f22:w1.cell? (za w 22)=some (.slice la L lc):=(aa RH.b0 22).T rfl
 rw[aH]at f22
 clear h hl hq hr j4 dD fu RH aH hL ho ma
 go_enter Tryz.func18,Tryz.ntmps18
 go_wp2_with first
  |(refine et 54 ?_)
  |fail
 rw[<-kg.O]
 clear f22
 go_loopw [14] (λ iv wr=>∃j:Nat,j<=L/\iv= .int .i64 (j:Int)/\Hid (tG w wr (iI b ps.length cf a1 d1 c1 a2 d2 c2 q la L lc) (oh id gone right n) ((As id (es.take j)).1:Int) ((As id (es.take j)).2:Int))) (λ iv _=>L - (intOf iv).toNat)
 case atStart=>exact⟨0,Nat.zero_le _,rfl,af HD1.O⟩
 case round=>
  obtain⟨j,hj,rfl,hB⟩:=hrel
  by_cases bg:j<L
  ·obtain⟨⟨yi,yg,ym,ys,yd,ya,yn⟩,hy⟩:∃y,es[j]? =some y:=⟨_,List.getElem?_eq_getElem (aM Gv.O)⟩
   obtain⟨B,SU,hA⟩:=HF.O.2.some_ (aM Gv.O)
   have Dj:w.rangeAt B (SU+j*5) (se ys (aU yi) yg ym yd):=by
    have h1:=HF.O.2
    rw[hA]at h1;exact h1.get hy
   have Lu:=fQ Dj hB.O.oJ
   have iN:=L4 (id:=id) hy
   obtain⟨r1,rh⟩:=aK ((As id (es.take j)).1)
   obtain⟨r2,mz⟩:=aK ((As id (es.take j)).2)
   rw[<-rh,<-mz]at hB
   obtain⟨wx,oH⟩:=aK (wr.alloc (.cells (se ys (aU yi) yg ym yd) 56))
   have ey:Below wr wr wx:=by rw[oH];go_grown
   have qz:wx.heap[wr.heap.size]? =some (.cells (se ys (aU yi) yg ym yd) 56):=jJ oH
   have HX:=af (hB.O.below ey)
   have jn:=HX.O.b3
   obtain⟨-,c1, -, -,c4⟩:=gF qz
   have oM:wx.rangeAt wr 2 (cP yg ym):=bp (o:=0) [.int .u64 (ys:Int),.string (aU yi)] (cP yg ym) [.bool yd] (aj qz)
   have d0:=(aa HX.O.b1 0).T rfl
   simp only[aD]at d0
   have Mr:=af jn
   have TH:=af HX.O.oJ
   rw[oH]at c1 c4 oM d0 Mr TH
   have Ga:=af oH
   have r7:∀x∈yi,x<256:= λ x hx=>HB.O _ (List.mem_of_getElem? hy) x hx
   have gy:(j:Int)<(L:Int):=ag
   subst hA
   by_cases hp:yi=dk id
   ·have iZ:((aU yi).toList==id.toList)=true:=FM (by rw[hp,lg])
    cases yd with
    |false=>
     rw[if_pos ⟨hp,rfl⟩]at iN
     have PG:=af iN
     clear hy Dj iN rh mz oH ey qz jn r7 hp
     go_wp2_with first
      |(refine bh 56 ?_)
      |(refine et 56 ?_)
      |(refine bh 54 ?_)
      |(refine aP 54 rfl _ _ rfl (w.heap.size+1+1+1) 0 (cP r1 r2) (cP yg ym) 54 rfl rfl Mr.O aR aO (by simp[Value.oneCell']) (λ v1 h1 h2 h3=>?_)
        simp only[aF,bD]at h1
        have HV:=af (HX.O.rq h1 (λ j hj=>by rw[Ga.O];exact h2 j hj) (h3 w w ag TH.O))
        clear h1 h2 h3)
      |fail
     exact⟨⟨j+1,ag,by simp,af (by rw[PG.O];exact HV.O)⟩,by simp[intOf];omega⟩
    |true=>
     rw[if_neg aR]at iN
     have PG:=cV iN rh mz
     clear hy Dj iN rh mz oH ey qz jn r7 hp
     go_wp2_with first
      |(refine bh 56 ?_)
      |(refine et 56 ?_)
      |fail
     exact⟨⟨j+1,ag,by simp,af (by rw[PG.O.1,<-PG.O.2.1,<-PG.O.2.2,<-Ga.O];exact HX.O)⟩,by simp[intOf];omega⟩
   ·have iZ:((aU yi).toList==id.toList)=false:=uQ (λ e=>hp (by rw[<-e,yH r7]))
    rw[if_neg (λ hh=>hp hh.1)]at iN
    have PG:=cV iN rh mz
    clear hy Dj iN rh mz oH ey qz jn r7 hp
    go_wp2_with first
     |(refine bh 56 ?_)
     |(refine et 56 ?_)
     |fail
    exact⟨⟨j+1,ag,by simp,af (by rw[PG.O.1,<-PG.O.2.1,<-PG.O.2.2,<-Ga.O];exact HX.O)⟩,by simp[intOf];omega⟩
  ·obtain rfl:L=j:=ag
   rw[show es.take L=es by rw[Gv.O,List.take_length],HRT.O]at hB
   obtain⟨m1,zO⟩:=aK (vQ false (rm o))
   have HM1:=af zO
   have DF:(wr.setCell (za (w.heap.size+1+1+1) 1) (.int .u32 (m1:Int))).heap[w.heap.size+1+1+1]? =some (.cells (MH (rg o:Int) m1) 54):=aq (j:=1) _ hB.O.b3
   have yl:=af (hB.O.rq DF (λ j hj=>Below.heap_setCell wr ⟨w.heap.size+1+1+1,1,none⟩ _ j hj) (hB.O.oJ.setCell (p:=(za (w.heap.size+1+1+1) 1)) (show w.heap.size<=w.heap.size+1+1+1 by omega) _))
   have XG:IntKind.u32.wrap ((rm o:Int)+1)=(m1:Int):=by rw[IntKind.wrap_u32,zO];unfold vQ;simp
   have g3:=(aa hB.O.b3 1).T rfl
   simp only[aD]at g3
   have gf:=ak hB.O.b3 1
   have hfa:wr.rangeAt (w.heap.size) 0 (cK b ps.length cf):=bp (o:=0) [] (cK b ps.length cf) (uW a1 d1 c1 a2 d2 c2 q la L lc) (aj hB.O.b0)
   have hca:wr.rangeAt (w.heap.size) 5 (cw a1 d1 c1 a2 d2 c2 q):=bp (o:=0) (cK b ps.length cf) (cw a1 d1 c1 a2 d2 c2 q) [.slice la L lc] (aj hB.O.b0)
   have Ls:=aj hB.O.b3
   have xa0:=(aa hB.O.b1 0).T rfl
   have xa1:=(aa hB.O.b1 1).T rfl
   have xa2:=(aa hB.O.b1 2).T rfl
   have xa3:=(aa hB.O.b1 3).T rfl
   simp only[aD]at xa0 xa1 xa2 xa3
   have Xr:(wr.setCell (za (w.heap.size+1+1+1) 1) (.int .u32 (m1:Int))).rangeAt (w.heap.size) 0 (cK b ps.length cf):=bp (o:=0) [] (cK b ps.length cf) (uW a1 d1 c1 a2 d2 c2 q la L lc) (aj yl.O.b0)
   have hcb:(wr.setCell (za (w.heap.size+1+1+1) 1) (.int .u32 (m1:Int))).rangeAt (w.heap.size) 5 (cw a1 d1 c1 a2 d2 c2 q):=bp (o:=0) (cK b ps.length cf) (cw a1 d1 c1 a2 d2 c2 q) [.slice la L lc] (aj yl.O.b0)
   have hvb:=aj yl.O.b3
   have xb0:=(aa yl.O.b1 0).T rfl
   have xb1:=(aa yl.O.b1 1).T rfl
   have xb2:=(aa yl.O.b1 2).T rfl
   have xb3:=(aa yl.O.b1 3).T rfl
   simp only[aD]at xb0 xb1 xb2 xb3
   clear DF zO
   generalize Value.agg #[.slice none 0 0,.slice b ps.length cf,.int .i64 (-1),.int .i64 (-1),.bool false,.int .i64 (a1:Int),.int .i64 (d1:Int),.int .i64 (c1:Int),.int .i64 0,.int .i64 0,.int .u64 0,.int .i64 0,.int .i64 0,.int .i64 (a2:Int),.int .i64 (d2:Int),.int .i64 (c2:Int),.int .i64 0,.int .i64 0,.int .u64 0,.int .i64 0,.int .i64 0,.int .u64 (q:Int),.slice la L lc]=v0
   generalize Value.agg #[.string id,.bool gone,.bool right,.int .i64 n]=v1
   cases right<;>cases gone
   all_goals as_aux_lemma=>
    go_wp2_with first
     |(refine bh 37 ?_)
     |(refine bh 43 ?_)
     |(refine bh 54 ?_)
     |(refine bh 46 ?_;first|(obtain⟨G,hG⟩:∃G,G=Value.agg (iI b' bY.length bL p1 e1 f1 p2 e2 f2 q' a' M k'):=⟨_,rfl⟩;rw[<-hG];have HG:=af hG;clear hG Po)|(obtain⟨G,hG⟩:∃G,G=Value.agg (iI b' bY.length bL p1 e1 f1 p2 e2 f2 q' la L lc):=⟨_,rfl⟩;rw[<-hG];have HG:=af hG;clear hG iU))
     |((with_reducible refine(HD.O _ _ (by first|exact zg|exact HM1.O) (by first|exact hB.O|exact yl.O)).mono ?_);rintro e w7 ⟨z,b',bL,bY,p1,e1,f1,p2,e2,f2,q',qS,x,hS,vm,Km,Lz,hz,rfl,hA,h7⟩
       generalize Value.agg #[.slice none 0 0,.slice b ps.length cf,.int .i64 (-1),.int .i64 (-1),.bool false]=v2
       generalize Value.agg #[.int .i64 (a1:Int),.int .i64 (d1:Int),.int .i64 (c1:Int),.int .i64 0,.int .i64 0,.int .u64 0,.int .i64 0,.int .i64 0,.int .i64 (a2:Int),.int .i64 (d2:Int),.int .i64 (c2:Int),.int .i64 0,.int .i64 0,.int .u64 0,.int .i64 0,.int .i64 0,.int .u64 (q:Int)]=v3
       obtain⟨F,hF⟩:=aK (Value.agg (cK b' bY.length bL))
       obtain⟨C,hC⟩:=aK (Value.agg (cw p1 e1 f1 p2 e2 f2 q'))
       rw[<-hF,<-hC]
       have HFV:=af hF
       have Qj:=af hC
       clear hF hC
       have fq:¬ z=200:=ag
       have mx:¬ z=302:=ag
       have hz3:¬ z=260:=ag
       have hz4:¬ z=9:=ag
       have Sm:¬ z=10:=ag
       have X8:¬ z=8:=ag
       have HZ:=af hz
       have H7:=af h7
       have HA:=cj hS hA
       have HWV:=af (λ (V:World) (hV:Below w w V)=>HW.O V x hV vm)
       simp only[Km,vm,lg,Lz]at HWV
       clear hS vm Km Lz hz hA h7 hfa hca Ls Xr hcb hvb xa0 xa1 xa2 xa3 xb0 xb1 xb2 xb3 g3 gf XG)
     |((with_reducible refine(HP.O _ _ (by first|exact zg|exact HM1.O) (by first|exact hB.O|exact yl.O)).mono ?_);rintro e w7 ⟨z,b',bL,bY,p1,e1,f1,p2,e2,f2,q',qS,x,hS,vm,Km,Lz,hz,rfl,hA,h7⟩
       generalize Value.agg #[.slice none 0 0,.slice b ps.length cf,.int .i64 (-1),.int .i64 (-1),.bool false]=v2
       generalize Value.agg #[.int .i64 (a1:Int),.int .i64 (d1:Int),.int .i64 (c1:Int),.int .i64 0,.int .i64 0,.int .u64 0,.int .i64 0,.int .i64 0,.int .i64 (a2:Int),.int .i64 (d2:Int),.int .i64 (c2:Int),.int .i64 0,.int .i64 0,.int .u64 0,.int .i64 0,.int .i64 0,.int .u64 (q:Int)]=v3
       obtain⟨F,hF⟩:=aK (Value.agg (cK b' bY.length bL))
       obtain⟨C,hC⟩:=aK (Value.agg (cw p1 e1 f1 p2 e2 f2 q'))
       rw[<-hF,<-hC]
       have HFV:=af hF
       have Qj:=af hC
       clear hF hC
       have fq:¬ z=200:=ag
       have mx:¬ z=302:=ag
       have hz3:¬ z=260:=ag
       have hz4:¬ z=9:=ag
       have Sm:¬ z=10:=ag
       have X8:¬ z=8:=ag
       have HZ:=af hz
       have H7:=af h7
       have HA:=cj hS hA
       have HWV:=af (λ (V:World) (hV:Below w w V)=>HW.O V x hV vm)
       simp only[Km,vm,lg,Lz]at HWV
       clear hS vm Km Lz hz hA h7 hfa hca Ls Xr hcb hvb xa0 xa1 xa2 xa3 xb0 xb1 xb2 xb3 g3 gf XG)
     |(refine aP 37 rfl _ _ rfl (w.heap.size) 0 (iI b ps.length cf a1 d1 c1 a2 d2 c2 q la L lc) (cK b' bY.length bL) 46 rfl HFV.O H7.O.b0 aR aO (by simp[Value.oneCell']) (λ v1 h1 h2 h3=>?_)
       simp only[aF,bD]at h1
       have OP:=cV h1 h2 (h3 w w (aW) H7.O.oJ)
       clear h1 h2 h3)
     |(refine aP 43 rfl _ _ rfl (w.heap.size) 5 (iI b' bY.length bL a1 d1 c1 a2 d2 c2 q la L lc) (cw p1 e1 f1 p2 e2 f2 q') 46 rfl Qj.O OP.O.1 aR aO (by simp[Value.oneCell']) (λ v2 h1 h2 h3=>?_)
       simp only[aF,bD]at h1
       have vp:=cV h1 (λ j (hj:j≠w.heap.size)=>(h2 j hj).T (OP.O.2.1 j hj)) (h3 w w (aW) OP.O.2.2)
       clear h1 h2 h3)
     |(refine aP 54 rfl _ _ rfl (w.heap.size+1+1+1) 0 _ (cP x.g x.m) 54 rfl rfl ((vp.O.2.1 (w.heap.size+1+1+1) ag).T H7.O.b3) aR aO (by simp[Value.oneCell']) (λ v3 h1 h2 h3=>?_)
       simp only[aF,bD]at h1
       have hN:=(h2 (w.heap.size) ag).T vp.O.1
       have wG:∀j,j≠w.heap.size->j≠w.heap.size+1+1+1->v3.heap[j]? =w7.heap[j]? := λ j hj LM=>(h2 j LM).T (vp.O.2.1 j hj)
       have RH:=(wG (w.heap.size+1) ag ag).T H7.O.b1
       have abt:=(wG (w.heap.size+1+1) ag ag).T H7.O.b2
       have k21:=(aa hN 21).T rfl
       have k22:=(aa hN 22).T rfl
       simp only[aD]at k21 k22
       have dc0:=(aa RH 0).T rfl
       have dc1:=(aa RH 1).T rfl
       simp only[aD]at dc0 dc1
       have OL:=aj h1
       have iU:=aj hN
       have jr:w.heap.size+1+1+1+1<=v3.heap.size:=(aX h1).1
       have L7:=BM hN wG abt (h3 w w ag vp.O.2.2) jr
       clear h1 h2 h3 hN wG RH abt jr)
     |((with_reducible refine(HWV.O _ L7.O.2.2.2.1).mono ?_);rintro e w8 ⟨a',k',rfl,ax,kK,qt⟩
       have hN8:=(qt.block _ (aM L7.O.2.2.2.2)).T L7.O.1
       have hz8:=(qt.block _ (aM L7.O.2.2.2.2)).T L7.O.2.2.1
       obtain⟨M,hM⟩:=aK ((ee es x).length)
       rw[<-hM]
       have y22:=(aa hN8 22).T rfl
       simp only[aD]at y22
       have yf:=ak hN8 22
       have hN9:(w8.setCell (za w 22) (.slice a' M k')).heap[w.heap.size]? =some (.cells (iI b' bY.length bL p1 e1 f1 p2 e2 f2 q' a' M k') 46):=aq (j:=22) _ hN8
       have Uq:∀j,j≠w.heap.size->(w8.setCell (za w 22) (.slice a' M k')).heap[j]? =w8.heap[j]? := λ j hj=>Below.heap_setCell w8 ⟨w.heap.size,22,none⟩ _ j hj
       have Po:=aj hN9
       have QF:Hid (Below w w (w8.setCell (za w 22) (.slice a' M k'))):=af ((L7.O.2.2.2.1.T (qt.mono (aM L7.O.2.2.2.2))).setCell (p:=(za w 22)) (aW) _)
       have Xs:=XE hM Uq ((Uq (w.heap.size+1+1) ag).T hz8) ax kK qt
       clear ax kK qt hN8 hz8 hM hN9 Uq k21 k22 dc0 dc1 OL iU)
     |(refine aP 46 rfl _ _ rfl (w.heap.size+1+1) 0 Av (iI b' bY.length bL p1 e1 f1 p2 e2 f2 q' a' M k') 46 rfl HG.O Xs.O.2.2.1 aR aO (by simp[Value.oneCell']) (λ v4 h1 h2 h3=>?_)
       simp only[aF,bD]at h1
       have jK:=aj h1
       have HE:=cj h2 (h3 w w ag QF.O)
       clear h1 h2 h3)
     |(refine aP 46 rfl _ _ rfl (w.heap.size+1+1) 0 Av (iI b' bY.length bL p1 e1 f1 p2 e2 f2 q' la L lc) 46 rfl HG.O L7.O.2.2.1 aR aO (by simp[Value.oneCell']) (λ v4 h1 h2 h3=>?_)
       simp only[aF,bD]at h1
       have jK:=aj h1
       have HE:=cj h2 (h3 w w ag L7.O.2.2.2.1)
       clear h1 h2 h3)
     |fail
    all_goals first
     |(have gQ:z=0:=by simpa using‹(z==0)=true›
       have PH:qS=ee es x:=(by rcases HZ.O with h|⟨h,_⟩<;>first|exact h.2|(exfalso;omega))
       have Qc:∀j,j<w7.heap.size->¬ (w.heap.size<=j/\j<=w.heap.size+1+1+1)->v4.heap[j]? =w7.heap[j]? := λ j hj hn=>by
        have h3:=L7.O.2.1 j ag ag
        have hjv:=(aX (h3.T (Array.getElem?_eq_getElem hj))).1
        exact(HE.O.1 j ag).T ((Xs.O.2.1 j ag).T ((Xs.O.2.2.2.2.2.block j hjv).T h3))
       have hfi:=JR HF.O.1 HF.O.2 (by rw[<-Gv.O];exact H7.O) rfl HA.O.2.file Qc
       have rX:=L6 Xs.O.2.2.2.1 Xs.O.2.2.2.2.1 (λ j hj=>(HE.O.1 j (aM L7.O.2.2.2.2)).T (Xs.O.2.1 j (aM L7.O.2.2.2.2)))
       refine bodyPost_ret (v:=.tuple (lD (.agg (iI b' bY.length bL p1 e1 f1 p2 e2 f2 q' a' M k')))) (pS rfl _ _ _ _ _ rfl jK Tryz.underlying46 rfl aO (.bool true) (by show Value.bool _=Value.bool true;simp[fq,mx,hz3,hz4,Sm,X8])) (by rfl) ⟨b',a',bL,bY,p1,e1,f1,p2,e2,f2,q',k',qS,by rw[PH,<-Xs.O.1],HA.O.1,⟨hfi,HA.O.2.marks,HA.O.2.oI,HA.O.2.SZ⟩,by rw[PH];exact rX,HE.O.2⟩)
     |(have gQ:¬ z=0:=by simpa using‹(z==0)=false›
       have PH:qS=es:=(by rcases HZ.O with⟨h,_⟩|h<;>first|exact h.2|(exfalso;omega))
       have hfi:=JR HF.O.1 HF.O.2 (by rw[<-Gv.O];exact H7.O) rfl HA.O.2.file (V:=v4) (λ j hj hn=>(HE.O.1 j ag).T (L7.O.2.1 j ag ag))
       refine bodyPost_ret (v:=.tuple (lD (.agg (iI b' bY.length bL p1 e1 f1 p2 e2 f2 q' la L lc)))) (pS rfl _ _ _ _ _ rfl jK Tryz.underlying46 rfl aO (.bool true) (by show Value.bool _=Value.bool true;simp[fq,mx,hz3,hz4,Sm,X8])) (by rfl) ⟨b',la,bL,bY,p1,e1,f1,p2,e2,f2,q',lc,qS,by rw[PH,<-Gv.O],HA.O.1,⟨hfi,HA.O.2.marks,HA.O.2.oI,HA.O.2.SZ⟩,by rw[PH];exact HF.O.2.below HE.O.2,HE.O.2⟩)
structure gr where
 id:ByteArray
 gone:Bool
 right:Bool
 n:Int
abbrev BB(d:gr):List Value:=(oh d.id d.gone d.right d.n)
structure IH(d:gr):Prop where
 id:d.id.size<=4611686018427387904
 n1: -9223372036854775808<=d.n
 n2:d.n<9223372036854775808
def lG.zero:lG:=⟨none,0,[],0,0,0,0,0,0,0,[]⟩
inductive iR:List gr->lG->Prop
 |nil:iR [] lG.zero
 |snoc {l:List gr} {s s':lG} {d:gr}:iR l s->Step s s' d.id d.gone d.right->iR (l++[d]) s'
theorem iR.small{l:List gr}{s:lG}(h:iR l s):s.q<=l.length/\(al s.ps).length<=8000*l.length:=by
 induction h with
 |nil=>exact⟨aW,by simp[lG.zero,al]⟩
 |snoc h1 h2 ih=>
  rw[List.length_append,List.length_singleton]
  have:=h2.1
  rcases h2.2 with⟨_,h3,_⟩|⟨_,h3⟩
  ·omega
  ·rw[h3];omega
theorem S5(W:World):lG.zero.At W:=⟨⟨⟨.inl rfl,by simp[lG.zero]⟩,by simp[lG.zero,al],by simp[lG.zero]⟩,by intro i _ x h;simp[lG.zero,al]at h,cB.zero _,by intro x h;cases h⟩
theorem JS{xs:List aG}{cs:Array Value}{t:TypeId}(h:bj eQ 5 W a xs)(hg:W.heap[g]? =some (.cells cs t))(hs:∀(j:Nat) (u:ByteArray),cs[j]? ≠some (.string u))(hk:∀j,j≠g->V.heap[j]? =W.heap[j]?):bj eQ 5 V a xs:=by
 rcases h with h|⟨B,o,e,h⟩
 ·exact .inl h
 ·refine .inr ⟨B,o,e, λ j x hx i v hv=>?_⟩
  have hB:B≠g:= λ e2=>by
   have h1:=h j x hx 1 _ rfl
   rw[e2,aa hg]at h1
   exact hs _ _ h1
  exact(World.cell?_of_block (w:=W) (hk B hB)).T (h j x hx i v hv)
theorem S6(b la:Option Addr)(k cf a1 d1 c1 a2 d2 c2 q L lc:Nat):∀(j:Nat) (u:ByteArray),(uR b k cf a1 d1 c1 a2 d2 c2 q la L lc)[j]? ≠some (.string u):= λ j u=>by
 intro e;have:=Array.mem_of_getElem? e;simp at this
theorem PI{L:Nat}(hF:au W b cf ps)(hl:bj eQ 5 W la es)(hL:L=es.length)(hg:W.heap[g]? =some (.cells (uR b ps.length cf a1 d1 c1 a2 d2 c2 q la L lc) 46))(Xq:au W b' bL bY):db g b' bY:=by
 have iL:∀B o (x:Nat),ps≠[]->b=some ⟨B,o,none⟩->W.cell? ⟨B,o,none⟩≠some (.int .u8 (x:Int)):= λ B o x hp e=>by
  rcases hF.pieces.1 with h0|⟨B',o',e',hc⟩
  ·exact absurd h0 hp
  ·rw[e]at e';cases e'
   cases ps with
   |nil=>exact absurd rfl hp
   |cons p0 pr=>rw[show(⟨B,o,none⟩:Addr)=⟨B,o+0,none⟩from rfl,hc 0 p0 rfl];simp
 have RD:∀B o (x:Nat),es≠[]->la=some ⟨B,o,none⟩->W.cell? ⟨B,o,none⟩≠some (.int .u8 (x:Int)):= λ B o x hp e=>by
  rcases hl with h0|⟨B',o',e',hc⟩
  ·exact absurd h0 hp
  ·rw[e]at e';cases e'
   cases es with
   |nil=>exact absurd rfl hp
   |cons p0 pr=>
    have:=hc 0 p0 rfl 0 _ rfl
    rw[show(⟨B,o+0*5+0,none⟩:Addr)=⟨B,o,none⟩by simp]at this
    rw[this];simp
 refine db.gen Xq hg (λ j x=>?_) (λ j a n k e=>?_)
 ·intro e;have:=Array.mem_of_getElem? e;simp at this
 ·have:=Array.mem_of_getElem? e;simp at this
  rcases this with⟨-,h1, -⟩|⟨rfl,h1, -⟩|⟨rfl,h1, -⟩
  ·exact .inl h1
  ·by_cases hp:ps=[]
   ·left;rw[h1,hp];rfl
   ·exact .inr λ B o x e=>iL B o x hp e
  ·by_cases hp:es=[]
   ·left;rw[h1,hL,hp];rfl
   ·exact .inr λ B o x e=>RD B o x hp e
theorem S7(w:World):Calls Tryz.prog 26 #[] w λ e w'=>e= .returned (.agg MI)/\Below w w w':=by
 have hx:=World.alloc_heap_new w (.cells eY 37)
 have HB:Hid (Below w w (w.alloc (.cells eY 37))):=af (by go_grown)
 have HX:=af hx
 clear hx
 go_enter Tryz.func26,Tryz.ntmps26
 go_wp2_with first
  |(refine aP 37 rfl _ _ rfl w.heap.size 0 eY MI 37 rfl rfl HX.O aR aO (by simp[Value.oneCell']) (λ v1 h1 h2 h3=>?_)
    simp only[aF,bD]at h1
    obtain⟨y0,y1,y2,y3,y4⟩:=gF h1
    have HZ:=af (h3 w w (aW) HB.O)
    clear h1 h2 h3)
  |fail
 exact bodyPost_ret (v:=.agg MI) (by rw[cD rfl];go_simp) (by rfl) ⟨rfl,HZ.O⟩
theorem S8(a:Option Addr)(K c:Nat)(hK:K<=c)(_:c<140737488355328)(w:World):Calls Tryz.prog 27 (jE a K c) w λ e w'=>e= .returned (.slice a (min K 30) c)/\w'=w:=by
 have h1:min (K:Int) 30=((min K 30:Nat):Int):=ag
 obtain⟨M,hM⟩:=aK (min K 30)
 rw[<-hM]at h1⊢
 have h2:(M:Int)<=(c:Int):=ag
 clear hM
 go_enter Tryz.func27,Tryz.ntmps27
 go_wp2_with fail
 go_ret
 exact⟨rfl,rfl⟩
structure QS(w W:World)(B:Nat)(l:List gr)(b:Option Addr)(cf:Nat)(ps:List Piece)(a1 d1 c1 a2 d2 c2 q:Nat)(la:Option Addr)(lc:Nat)(es:List aG):Prop where
 b0:W.heap[w.heap.size]? =some (.cells ze 46)
 b1:W.heap[B]? =some (.cells (uR b ps.length cf a1 d1 c1 a2 d2 c2 q la es.length lc) 46)
 at_:lG.At ⟨b,cf,ps,a1,d1,c1,a2,d2,c2,q,es⟩ W
 row:bj eQ 5 W la es
 lv:iR l ⟨b,cf,ps,a1,d1,c1,a2,d2,c2,q,es⟩
 oJ:Below w w W
theorem QS.set{l l':List gr}{qM:Option Addr}{p1 e1 f1 p2 e2 f2 q' tM:Nat}{qS:List aG}(h:QS w W B l b cf ps a1 d1 c1 a2 d2 c2 q la lc es)(hB:w.heap.size<B)(hA:lG.At ⟨b',bL,bY,p1,e1,f1,p2,e2,f2,q',qS⟩ W)(hr:bj eQ 5 W qM qS)(hl:iR l' ⟨b',bL,bY,p1,e1,f1,p2,e2,f2,q',qS⟩)
 (h1:V.heap[B]? =some (.cells (uR b' bY.length bL p1 e1 f1 p2 e2 f2 q' qM qS.length tM) 46))(h2:∀j,j≠B->V.heap[j]? =W.heap[j]?)(hb:Below w w V):QS w V B l' b' bL bY p1 e1 f1 p2 e2 f2 q' qM tM qS:=
 ⟨(h2 _ ag).T h.b0,h1,⟨cO (λ j _ hj=>h2 j hj) hA.file (PI h.at_.file h.row rfl h.b1 hA.file),hA.marks,hA.oI,hA.SZ⟩,JS hr h.b1 (S6 _ _ _ _ _ _ _ _ _ _ _ _ _) h2,hl,hb⟩
theorem QS.below{w W V:World}{B:Nat}{l:List gr}{b la:Option Addr}{cf a1 d1 c1 a2 d2 c2 q lc:Nat}{ps:List Piece}{es:List aG}(h:QS w W B l b cf ps a1 d1 c1 a2 d2 c2 q la lc es)(hb:Below W W V):QS w V B l b cf ps a1 d1 c1 a2 d2 c2 q la lc es:=
 ⟨(hb.block _ (aX h.b0).1).T h.b0,(hb.block _ (aX h.b1).1).T h.b1,h.at_.below hb,h.row.below hb,h.lv,h.oJ.T (hb.mono h.oJ.size)⟩
theorem QS.O{l:List gr}(h:QS w W B l b cf ps a1 d1 c1 a2 d2 c2 q la lc es)(h2:∀j,j≠w.heap.size->V.heap[j]? =W.heap[j]?):lG.At ⟨b,cf,ps,a1,d1,c1,a2,d2,c2,q,es⟩ V/\bj eQ 5 V la es:=by
 have h8:∀(j x:Nat),ze[j]? ≠some (.int .u8 (x:Int)):= λ j x=>by
  intro e;have:=Array.mem_of_getElem? e;simp at this
 have hs:∀(j:Nat) (a:Option Addr) (n k:Nat),ze[j]? =some (.slice a n k)->n=0:= λ j a n k e=>by
  have:=Array.mem_of_getElem? e;simp at this;omega
 exact⟨⟨cO (λ j _ hj=>h2 j hj) h.at_.file (db.Fw h.at_.file h.b0 h8 hs),h.at_.marks,h.at_.oI,h.at_.SZ⟩,JS h.row h.b0 (λ (j:Nat) (u:ByteArray)=>by
  intro e;have:=Array.mem_of_getElem? e;simp at this) h2⟩
theorem BC{ds:List gr}(h:bj BB 4 w a ds)(hc:ds.length<=c)(Da:c<140737488355328)(gW:∀d∈ds,IH d):
 Calls Tryz.prog 14 (jE a ds.length c) w λ e w'=>∃(b la:Option Addr) (cf:Nat) (ps:List Piece) (a1 d1 c1 a2 d2 c2 q lc:Nat) (es:List aG),e= .returned (.tuple (lD (.agg (uR b ps.length cf a1 d1 c1 a2 d2 c2 q la es.length lc))))/\iR (ds.take 30) ⟨b,cf,ps,a1,d1,c1,a2,d2,c2,q,es⟩/\lG.At ⟨b,cf,ps,a1,d1,c1,a2,d2,c2,q,es⟩ w'/\bj eQ 5 w' la es/\Below w w w':=by
 obtain⟨K,hK⟩:=aK ds.length
 rw[<-hK]at hc⊢
 obtain⟨w1,aH⟩:=aK (w.alloc (.cells Av 46))
 have aQ:Below w w w1:=by rw[aH];go_grown
 have dD:w1.heap[w.heap.size]? =some (.cells ze 46):=jJ aH
 have dm:w1.heap.size=w.heap.size+1:=by rw[aH];simp
 have H1:=jo aQ dD dm aH
 have XX:=af (S7 w1)
 rw[aH]at XX
 have sa:=af (λ V:World=>S8 a K c hc Da V)
 obtain⟨M,hM⟩:=aK (min K 30)
 rw[<-hM]at sa
 have HM:=cj hM hK
 have adO:(M:Int)<=30:=ag
 have H:=af h
 have HOK:=af gW
 clear h gW aQ dD dm aH hM hK hc Da
 go_enter Tryz.func14,Tryz.ntmps14
 go_wp2_with first
  |((with_reducible refine XX.O.mono ?_);rintro e w2 ⟨rfl,aC⟩
    rw[<-H1.O.2.2.2]at aC
    obtain⟨w3,cL⟩:=aK (w2.alloc (.cells #[.slice none 0 0,.slice none 0 0,.int .i64 (-1),.int .i64 (-1),.bool false,.int .i64 0,.int .i64 0,.int .i64 0,.int .i64 0,.int .i64 0,.int .u64 0,.int .i64 0,.int .i64 0,.int .i64 0,.int .i64 0,.int .i64 0,.int .i64 0,.int .i64 0,.int .u64 0,.int .i64 0,.int .i64 0,.int .u64 0,.slice none 0 0] 46))
    have mL:=af cL
    have H2:=af aC
    clear aC cL)
  |(refine et 46 ?_)
  |((with_reducible refine(sa.O _).mono ?_);rintro e w4 ⟨rfl,gA⟩;rw[gA];clear gA w4)
  |fail
 rw[<-mL.O]
 have fZ:w.heap.size<w2.heap.size:=cG H2.O.size H1.O.2.2.1
 have C4:=af fZ
 have HL0:Hid (QS w w3 w2.heap.size [] none 0 [] 0 0 0 0 0 0 0 none 0 []):=af (by
  have aL:Below w1 w1 w3:=by rw[mL.O];exact H2.O.alloc H2.O.size _
  exact⟨(aL.block _ (by rw[H1.O.2.2.1];omega)).T H1.O.2.1,by rw[mL.O];exact World.alloc_heap_new _ _,S5 w3,.inl rfl,.nil,H1.O.1.T (aL.mono H1.O.1.size)⟩)
 clear fZ
 go_loopw [5,15] (λ bv iv wr=>∃j:Nat,j<=M/\iv= .int .i64 (j:Int)/\bv= .bool true/\Hid (∃(b la:Option Addr) (cf:Nat) (ps:List Piece) (a1 d1 c1 a2 d2 c2 q lc:Nat) (es:List aG),QS w wr w2.heap.size (ds.take j) b cf ps a1 d1 c1 a2 d2 c2 q la lc es)) (λ _ iv _=>M - (intOf iv).toNat)
 case atStart=>exact⟨0,Nat.zero_le _,rfl,rfl,af ⟨_,_,_,_,_,_,_,_,_,_,_,_,_,HL0.O⟩⟩
 case round=>
  obtain⟨j,hj,rfl,rfl,hL⟩:=hrel
  obtain⟨b,la,cf,ps,a1,d1,c1,a2,d2,c2,q,lc,es,hL⟩:=hL.O
  obtain⟨L,PJ⟩:=aK es.length
  have VJ:=af PJ
  have iZ:wr.rangeAt w2 0 (iI b ps.length cf a1 d1 c1 a2 d2 c2 q la L lc):=by
   have h1:=hL.b1
   rw[<-PJ]at h1;exact aj h1
  have Fq:=af hL
  by_cases bg:j<M
  ·obtain⟨y,hy⟩:∃y,ds[j]? =some y:=⟨_,List.getElem?_eq_getElem (aM HM.O)⟩
   obtain⟨B,o,hA⟩:=H.O.some_ (aM HM.O)
   have Dj:w.rangeAt B (o+j*4) (BB y):=by
    have h1:=H.O
    rw[hA]at h1;exact h1.get hy
   have Lu:=fQ Dj hL.oJ
   have Uk:=HOK.O y (List.mem_of_getElem? hy)
   have AY:ds.take (j+1)=ds.take j++[y]:=by rw[List.take_add_one,hy];rfl
   obtain⟨di,dg,dr,dn⟩:=y
   obtain⟨wx,oH⟩:=aK (wr.alloc (.cells (oh di dg dr dn) 64))
   have ey:Below wr wr wx:=by rw[oH];go_grown
   have qz:wx.heap[wr.heap.size]? =some (.cells (oh di dg dr dn) 64):=jJ oH
   have hdx:=aj qz
   have hsx:=fQ iZ ey
   have fG:=hL.lv.small
   have hlen:(ds.take j).length<=30:=by rw[List.length_take];have:=HM.O;omega
   have hdo:=PF (hL.at_.below ey) (la:=la) (lc:=lc) (hL.row.below ey) (by have:q<=_:=fG.1;omega) (by have:(al ps).length<=_:=fG.2;omega) di Uk.id dg dr dn Uk.n1 Uk.n2
   rw[<-PJ]at hdo
   have HDO:=af hdo
   have SR:=af (hL.below ey)
   rw[oH]at hdx hsx HDO
   have Ga:=af oH
   have JA:=af AY
   have gy:(j:Int)<(M:Int):=ag
   subst hA
   clear hy Dj Uk AY oH ey qz fG hlen hdo hL PJ iZ
   go_wp2_with first
    |(refine bh 64 ?_)
    |(refine et 64 ?_)
    |(refine bh 46 ?_)
    |((with_reducible refine HDO.O.mono ?_);rintro e w7 ⟨b',qM,bL,bY,p1,e1,f1,p2,e2,f2,q',tM,qS,rfl,hS,hA7,hr7,mv⟩
      obtain⟨L',Xt⟩:∃L',L'=qS.length:=⟨_,rfl⟩
      rw[<-Xt]
      rw[<-Ga.O]at mv
      obtain⟨w8,hw8⟩:=aK (w7.alloc (.cells (iI b' bY.length bL p1 e1 f1 p2 e2 f2 q' qM L' tM) 46))
      have S9:Below w7 w7 w8:=by rw[hw8];go_grown
      have hn8:w8.heap[w7.heap.size]? =some (.cells (iI b' bY.length bL p1 e1 f1 p2 e2 f2 q' qM L' tM) 46):=jJ hw8
      have hs8:=aj hn8
      have HL8:=af (SR.O.below (mv.T (S9.mono mv.size)))
      have hB8:=HL8.O.b1
      rw[<-VJ.O]at hB8
      have F8:=af hB8
      have lJ:=af HL8.O.oJ
      rw[hw8]at hs8 F8 lJ
      have HW8:=af hw8
      have H8:=jo hS (hA7.below S9) (hr7.below S9) Xt
      clear hS hA7 hr7 Xt mv hw8 S9 hn8 hB8 hdx hsx)
    |(refine et 46 ?_)
    |(refine aP 46 rfl _ _ rfl w2.heap.size 0 (iI b ps.length cf a1 d1 c1 a2 d2 c2 q la L lc) (iI b' bY.length bL p1 e1 f1 p2 e2 f2 q' qM L' tM) 46 rfl rfl F8.O aR aO (by simp[Value.oneCell']) (λ v1 h1 h2 h3=>?_)
      simp only[aF,bD,aD]at h1
      have HH:=cV h1 h2 (h3 w w (Nat.le_of_lt C4.O) lJ.O)
      clear h1 h2 h3 hs8)
    |fail
   have HV:=af (HL8.O.set C4.O H8.O.2.1 H8.O.2.2.1 (show iR (ds.take (j+1)) _ by rw[JA.O];exact HL8.O.lv.snoc H8.O.1) (by rw[<-H8.O.2.2.2];exact HH.O.1) (λ j hj=>by rw[HW8.O];exact HH.O.2.1 j hj) HH.O.2.2)
   exact⟨⟨j+1,ag,by simp,rfl,af ⟨_,_,_,_,_,_,_,_,_,_,_,_,_,HV.O⟩⟩,by simp[intOf];omega⟩
  ·obtain rfl:j=M:=ag
   clear hL PJ
   go_wp2_with first
    |(refine bh 46 ?_)
    |(refine aP 46 rfl _ _ rfl w.heap.size 0 Av (iI b ps.length cf a1 d1 c1 a2 d2 c2 q la L lc) 46 rfl rfl Fq.O.b0 aR aO (by simp[Value.oneCell']) (λ v1 h1 h2 h3=>?_)
      simp only[aF,bD,aD]at h1
      have jK:=aj h1
      have HE:=cj (Fq.O.O h2) (h3 w w (aW) Fq.O.oJ)
      clear h1 h2 h3 iZ)
    |fail
   have hlv:=Fq.O.lv
   rw[show ds.take j=ds.take 30 from(by
    have h1:=HM.O
    rw[h1.1,h1.2]
    rcases Nat.le_total ds.length 30 with h|h
    ·rw[Nat.min_eq_left h,List.take_length,List.take_of_length_le h]
    ·rw[Nat.min_eq_right h])]at hlv
   exact bodyPost_ret (v:=.tuple (lD (.agg (iI b ps.length cf a1 d1 c1 a2 d2 c2 q la L lc)))) (pS rfl _ _ _ _ _ rfl jK Tryz.underlying46 rfl aO (.bool true) rfl) (by rfl) ⟨b,la,cf,ps,a1,d1,c1,a2,d2,c2,q,lc,es,by rw[<-VJ.O],hlv,HE.O.1.1,HE.O.1.2,HE.O.2⟩
end
section
open Go.RowKit Go.Shelf Go.ChangeShapes Go.WideShapes
section
variable {H : Type} {enc : TypeId × Value -> H} {W : World} {base : Nat} {spare : Nat -> Bool} {held : Bool}
def JT(d:gr):DataW H:=.agg [.lit (.string d.id.data.toList),.lit (.bool d.gone),.lit (.bool d.right),.lit (.int .i64 d.n)]
theorem L8{cs:List Value}{x:DataW H×List MemPlace}(h:DataW.trod enc Tryz.prog W base spare held n 64 cs=some x):
 ∃d:gr,cs=BB d/\x=(JT d,[])/\ -9223372036854775808<=d.n/\d.n<9223372036854775808:=by
 obtain⟨y0,y1,y2,y3,m,hx,hl,h0,h1,h2,h3⟩:=Go.Joins.trod_struct4 Tryz.underlying64 h
 rw[show Tryz.prog.cellsOf 64=4 by kernel_rfl]at hl
 match cs,hl with
 |[v0,v1,v2,v3],_=>
  have g0:DataW.trod enc Tryz.prog W base spare held m 9 [v0]=some y0:=by simpa[show Tryz.prog.cellsOf 9=1 by kernel_rfl]using h0
  have g1:DataW.trod enc Tryz.prog W base spare held m 4 [v1]=some y1:=by simpa[show Tryz.prog.cellsOf 4=1 by kernel_rfl]using h1
  have g2:DataW.trod enc Tryz.prog W base spare held m 4 [v2]=some y2:=by simpa[show Tryz.prog.cellsOf 4=1 by kernel_rfl]using h2
  have g3:DataW.trod enc Tryz.prog W base spare held m 2 [v3]=some y3:=by simpa[show Tryz.prog.cellsOf 2=1 by kernel_rfl]using h3
  obtain⟨s,e0,rfl, -⟩:=DataW.trod_string Tryz.underlying9 g0
  obtain⟨b1,e1,rfl⟩:=DataW.trod_bool Tryz.underlying4 g1
  obtain⟨b2,e2,rfl⟩:=DataW.trod_bool Tryz.underlying4 g2
  obtain⟨k,e3,rfl,hk⟩:=DataW.trod_int Tryz.underlying2 g3
  cases e0;cases e1;cases e2;cases e3
  simp only[Lit.wf,Bool.and_eq_true,decide_eq_true_eq]at hk
  have m1:IntKind.i64.min= -9223372036854775808:=by decide
  have m2:IntKind.i64.max=9223372036854775807:=by decide
  exact⟨⟨s,b1,b2,k⟩,rfl,by rw[hx];rfl,by rw[m1]at hk;exact hk.1,by rw[m2]at hk;show k<_;omega⟩
theorem JV{P:Program}{e:TypeId}{d:DataW H}{n:Nat}:∀{l:List (DataW H)},d∈l->n∈d.weights P e->n∈DataW.weightsAll P e l
 |[],h,_=>by cases h
 |x::l,h,hn=>by
  rw[DataW.weightsAll]
  rcases List.mem_cons.1 h with rfl|h
  ·exact List.mem_append_left _ hn
  ·exact List.mem_append_right _ (JV h hn)
theorem II{v:Value}{d:DataW H}{p:List MemPlace}{b0:Nat}(hv:Value.okWide Tryz.prog W .any b0 33 v)(h:DataW.Trod enc Tryz.prog W 0 (λ _=>true) true 33 v d p)(hw:∀n∈DataW.weights Tryz.prog 33 d,n<=reachBytes):
 ∃(a:Option Addr) (c:Nat) (ds:List gr),v= .slice a ds.length c/\bj BB 4 W a ds/\ds.length<=c/\c<140737488355328/\∀x∈ds,IH x:=by
 have su:Tryz.prog.underlying 33=some (.slice 64):=aO
 obtain⟨fuel,hf⟩:=h
 have bq:∀u:Value,v.cells.toList=[u]->(∃a n k,u= .slice a n k)->v=u:= λ u hu hs=>by
  unfold Value.okWide at hv
  rw[su]at hv
  obtain⟨a,n,k,rfl⟩:=hs
  cases v<;>simp[Cell.okWide,Cell.ok,su,Value.cells]at hv hu<;>simp_all
 rcases Go.Deep.open_slice su hf with⟨h1,h2⟩|⟨a,len,cap,m,n,D,Pl,h1, -,hl,hm,CJ,hx,WA⟩
 ·exact⟨none,0,[],bq _ h1 ⟨_,_,_,rfl⟩,.inl rfl,aW,by decide,by simp⟩
 ·have hmc:m=cap:=by rw[CJ];rfl
  subst hmc
  have each:∀i,i<m->∃x:gr,D i=JT x/\W.cell? (a.add (i*4))=some (.string x.id)/\W.cell? (a.add (i*4+1))=some (.bool x.gone)/\W.cell? (a.add (i*4+2))=some (.bool x.right)/\W.cell? (a.add (i*4+3))=some (.int .i64 x.n)/\ -9223372036854775808<=x.n/\x.n<9223372036854775808:= λ i hi=>by
   obtain⟨cs,F5,Da⟩:=WA i hi
   rw[show Tryz.prog.cellsOf 64=4 by kernel_rfl]at F5
   obtain⟨_,_,kL⟩:=World.cells?_some F5
   obtain⟨x,rfl,he,hn⟩:=L8 Da
   have acL:∀j,(a.add (i*4)).add j=a.add (i*4+j):= λ j=>by
    unfold Addr.add
    by_cases ou:i*4=0
    ·simp[ou]
    ·by_cases hj:j=0
     ·simp[ou,hj]
     ·simp[ou,hj,Nat.add_assoc]
   have c0:=kL 0 bd
   have c1:=kL 1 bd
   have c2:=kL 2 bd
   have c3:=kL 3 bd
   rw[acL]at c0 c1 c2 c3
   exact⟨x,congrArg Prod.fst he,c0,c1,c2,c3,hn⟩
  haveI:Inhabited gr:=⟨⟨⟨#[]⟩,false,false,0⟩⟩
  obtain⟨q,hq⟩:=Go.Deep.choose_lt each
  have hwl:=hw ((((List.range len).map D).length+((List.range (m - len)).map λ j=>D (len+j)).length)*Tryz.prog.bytesOf 64) (by
   have e:=congrArg Prod.fst hx
   simp only at e
   rw[e];simp[DataW.weights,su])
  rw[show Tryz.prog.bytesOf 64=32 by kernel_rfl]at hwl
  simp only[List.length_map,List.length_range]at hwl
  have hr:reachBytes<140737488355328:=by decide
  refine⟨some a,m,(List.range len).map q,by rw[List.length_map,List.length_range];exact bq _ h1 ⟨_,_,_,rfl⟩,?_,by simpa using hl,ag, λ x ek=>?_⟩
  ·rcases Nat.eq_zero_or_pos len with h0|h0
   ·subst h0;exact .inl rfl
   ·have O8:a.spot=none:=by
     have c0:=(hq 0 ag).2.1
     rw[Nat.zero_mul,show a.add 0=a from by simp[Addr.add]]at c0
     unfold World.cell? at c0
     split at c0
     ·split at c0
      ·cases c0
      ·rename_i hh;simpa using hh
     ·cases c0
    obtain⟨B,o,sp⟩:=a
    simp only at O8
    subst O8
    refine .inr ⟨B,o,rfl, λ j x ek i u hu=>?_⟩
    have hj:j<len:=by have:=(List.getElem?_eq_some_iff.1 ek).1;simpa using this
    rw[List.getElem?_map,List.getElem?_range hj]at ek
    cases ek
    have hh:=hq j ag
    simp only[Addr.add_mid]at hh
    rcases i with _|_|_|_|i
    ·cases hu;exact hh.2.1
    ·cases hu;exact hh.2.2.1
    ·cases hu;exact hh.2.2.2.1
    ·cases hu;exact hh.2.2.2.2.1
    ·simp at hu
  ·obtain⟨i,hi,rfl⟩:=List.mem_map.1 ek
   have hi:=List.mem_range.1 hi
   have hh:=hq i ag
   refine⟨?_,hh.2.2.2.2.2.1,hh.2.2.2.2.2.2⟩
   have hb:=hw (q i).id.size (by
    have e:=congrArg Prod.fst hx
    simp only at e
    rw[e,DataW.weights,su]
    refine List.mem_cons_of_mem _ (List.mem_append_left _ (JV (List.mem_map.2 ⟨i,List.mem_range.2 hi,rfl⟩) ?_))
    rw[hh.1]
    show _∈DataW.weights Tryz.prog 64 (JT (q i))
    unfold JT
    rw[DataW.weights,Tryz.underlying64]
    simp[DataW.weightsEach,DataW.weights])
   omega
end
end
section
attribute [local go_sem] Oper.semAt_some
attribute [-go_sem] Builtin.append_
def CY(W:World)(B:Nat)(b:Option Addr)(k c a1 d1 c1 a2 d2 c2 q:Nat):Prop:=W.heap[B]? =some (.cells (Sc b k c a1 d1 c1 a2 d2 c2 q) 84)
theorem PK(h:CY W B b k cf a1 d1 c1 a2 d2 c2 q):W.rangeAt B 0 (cK b k cf)/\W.rangeAt B 5 (ju a1 d1 c1)/\W.rangeAt B 13 (ju a2 d2 c2)/\W.cell? (za B 21)=some (.int .u64 (q:Int)):=by
 have h0:W.rangeAt B 0 (zJ b k cf a1 d1 c1 a2 d2 c2 q):=aj h
 refine⟨?_,?_,?_,?_⟩
 ·exact bp [] (cK b k cf) (cw a1 d1 c1 a2 d2 c2 q) h0
 ·exact bp (cK b k cf) (ju a1 d1 c1) [.int .i64 (a2:Int),.int .i64 (d2:Int),.int .i64 (c2:Int),.int .i64 0,.int .i64 0,.int .u64 0,.int .i64 0,.int .i64 0,.int .u64 (q:Int)] h0
 ·exact bp [.slice none 0 0,.slice b k cf,.int .i64 (-1),.int .i64 (-1),.bool false,.int .i64 (a1:Int),.int .i64 (d1:Int),.int .i64 (c1:Int),.int .i64 0,.int .i64 0,.int .u64 0,.int .i64 0,.int .i64 0] (ju a2 d2 c2) [.int .u64 (q:Int)] h0
 ·exact h0 21 _ rfl
theorem FD.known{va:Option Addr}{vn vc:Nat}{z:Int}(h:FD es x.id W ka n va vn vc z)(hx:x∈es)(hu:∀y∈es,y.id=x.id->y=x):
 z=0/\n=x.id.length/\vn=21/\21<=vc/\∃C o,va=some ⟨C,o,none⟩/\ai W (some ⟨C,o,none⟩) x.enc:=by
 rcases h with⟨h0,y,h1,h2,h3,h4,h5,_,C,o,h7,h8⟩|⟨_,h⟩
 ·have:=hu y h1 h2
  subst this
  exact⟨h0,h3,h4,h5,C,o,h7,h8⟩
 ·exact absurd rfl (h x hx)
theorem PL(hS:CY w B b ps.length cf a1 d1 c1 a2 d2 c2 q)(hF:au w b cf ps)(hm:Marks (al ps))(hC:cB (al ps) a1 d1 c1 a2 d2 c2 q es)(hx:x∈es){kc:Nat}(hk:ai w ka x.id)(zt:x.id.length<=kc):
 Calls Tryz.prog 41 (UI ka x.id.length kc (zp B)) w λ e w'=>e= .returned (.tuple (np (.agg (qW x.g x.m x.s x.del x.at_))))/\Below w w w':=by
 obtain⟨w1,aH⟩:=aK (w.alloc (.cells oU 104))
 have aQ:Below w w w1:=by rw[aH];go_grown
 have dD:w1.heap[w.heap.size]? =some (.cells oU 104):=jJ aH
 have dm:w1.heap.size=w.heap.size+1:=by rw[aH];simp
 obtain⟨l1,l2, -, -⟩:=PK (show CY w1 B b ps.length cf a1 d1 c1 a2 d2 c2 q from(aQ.block _ (aX hS).1).T hS)
 have hd:=hC.ok x hx
 have vf:=rK hd.id
 have HG:=af (EZ (hF.below aQ) hm hC kc (hk.below aQ) vf.1 ag zt)
 have HU:=af (show∀(W:World) (ka:Option Addr) (n:Nat) (va:Option Addr) (vn vc:Nat) (z:Int),FD es x.id W ka n va vn vc z->z=0/\n=x.id.length/\vn=21/\21<=vc/\∃C o,va=some ⟨C,o,none⟩/\ai W (some ⟨C,o,none⟩) x.enc from
  λ W ka n va vn vc z h=>h.known hx λ y hy e=>yG (f:=aG.id) hC.apart hy hx e)
 have Eg:=af (λ (V:World) (C o vc:Nat) (hv:ai V (some ⟨C,o,none⟩) x.enc) (h:21<=vc)=>vB hd.info hv h)
 unfold oy at Eg
 unfold aE cM at HG
 have H1:=jo aQ dD dm aH
 rw[aH]at l1 l2 HG
 clear hS hF hm hC hx hk zt hd vf aQ dD dm aH
 go_enter Tryz.func41,Tryz.ntmps41
 go_wp2_with first
  |(refine bh 37 ?_)
  |(refine bh 41 ?_)
  |((with_reducible refine HG.O.mono ?_);rintro e w2 ⟨Bf,n',Ib,va,vn,vc,z,rfl,aC,hz⟩
    rw[<-H1.O.2.2.2]at aC
    obtain⟨rfl,rfl,rfl,uI,C,o,rfl,hve⟩:=HU.O _ _ _ _ _ _ _ hz
    obtain⟨w3,cL⟩:=aK (w2.alloc (.cells (dv Bf x.id.length Ib (some ⟨C,o,none⟩) 21 vc) 114))
    have aL:Below w1 w1 w3:=by rw[cL];exact aC.alloc aC.size _
    have DJ:Below w2 w2 w3:=by rw[cL];go_grown
    have QG:w3.heap[w2.heap.size]? =some (.cells (dv Bf x.id.length Ib (some ⟨C,o,none⟩) 21 vc) 114):=jJ cL
    have i1:=(aa QG 1).T rfl
    simp only[aD]at i1
    have HD3:=af (Eg.O w3 C o vc (hve.below DJ) uI)
    have H3:=cj aL ((aL.block _ (by rw[H1.O.2.2.1];omega)).T H1.O.2.1)
    rw[cL]at i1 HD3
    have mL:=af cL
    clear aC hz hve cL aL DJ QG uI)
  |(refine et 114 ?_)
  |((with_reducible refine HD3.O.mono ?_);rintro e w4 ⟨rfl,bH⟩
    rw[<-mL.O]at bH
    have H4:=cj (H1.O.1.T ((H3.O.1.T (bH.mono H3.O.1.size)).mono H1.O.1.size)) ((bH.block _ (by have:=H3.O.1.size;rw[H1.O.2.2.1]at this;omega)).T H3.O.2)
    clear bH i1)
  |(refine aP 104 rfl _ _ rfl w.heap.size 0 oU (qW x.g x.m x.s x.del x.at_) 104 rfl rfl H4.O.2 aR aO (by simp[Value.oneCell']) (λ w5 h1 h2 h3=>?_)
    simp only[aF,bD]at h1
    obtain⟨x0,x1,x2,x3,x4⟩:=gF h1
    have HZ:=af (h3 w w (aW) H4.O.1)
    clear h1 h2 h3)
  |fail
 exact bodyPost_ret (v:=.tuple (np (.agg (qW x.g x.m x.s x.del x.at_)))) (by rw[results_cell_tmp rfl];go_simp) (by rfl) ⟨rfl,HZ.O⟩
theorem FQ(b:Option Addr)(k cf a1 d1 c1 a2 d2 c2 q n:Nat)(bX:Int):
 Calls Tryz.prog 29 #[.agg (Sc b k cf a1 d1 c1 a2 d2 c2 q),.int .u64 (n:Int),.int .i64 bX] w λ e w'=>
  e= .returned (.func (.func 40) #[] (xa (zp w) (zp (w.heap.size+1)) (zp (w.heap.size+1+1))))/\
  w'=((w.alloc (.cells (Sc b k cf a1 d1 c1 a2 d2 c2 q) 84)).alloc (.cells (vS n) 22)).alloc (.cells (qV bX) 3):=by
 unfold Sc
 go_enter Tryz.func29,Tryz.ntmps29
 go_wp2_with fail
 go_ret
 exact⟨rfl,rfl⟩
end
def jB(n c:Nat):Nat:=if 48<=c/\c<=57 then n*16+(c - 48)else if 97<=c/\c<=102 then n*16+(c - 87)else n
def pread(s:ByteArray):Nat->Nat->Nat->Nat
 |0,_,n=>n
 |f+1,pos,n=>if pos<s.size then(if(Utf8.decode s pos).1=46\/11<pos then n else pread s f (pos+(Utf8.decode s pos).2) (jB n (Utf8.decode s pos).1))else n
theorem IJ(s:ByteArray)(pos:Nat)(h:pos<s.size):1<=(Utf8.decode s pos).2:=by
 by_cases ha:(s[pos]'h).toNat<128
 ·rw[decode_ascii s pos h ha]
  exact aW
 ·exact(decode_high s pos h ag).2
theorem L9(s:ByteArray)(f pos n:Nat)(h:¬ pos<s.size):pread s f pos n=n:=by
 cases f with
 |zero=>rfl
 |succ f=>simp[pread,h]
theorem FR{p:Nat}(h:n<16^p):jB n c<16^(p+1):=by
 have:16^(p+1)=16^p*16:=by rw[Nat.pow_succ]
 unfold jB
 split
 ·omega
 ·split<;>omega
theorem Tb(n d:Nat)(hn:n<1152921504606846976)(hd:d<16):bits .or .u64 (IntKind.u64.wrap ((n:Int)*16)) (d:Int)=((n*16+d:Nat):Int):=by
 have h1:IntKind.u64.wrap ((n:Int)*16)=((n*16:Nat):Int):=by rw[IntKind.wrap_u64];omega
 rw[h1,u64_or_nat _ _ ag ag]
 congr 1
 have:=Nat.two_pow_add_eq_or_of_lt (i:=4) (b:=d) ag n
 rw[Nat.mul_comm n 16]
 exact this.symm
theorem PM(n:Nat)(d:Int)(k:Nat)(hk:d=(k:Int))(hn:n<1152921504606846976)(hd:k<16):bits .or .u64 (IntKind.u64.wrap ((n:Int)*16)) d=((n*16+k:Nat):Int):=by
 rw[hk];exact Tb n k hn hd
theorem Ma{wd:Nat}(hn:n<16^pos)(hp:pos<=11)(hw:1<=wd):jB n c<16^(pos+wd)/\jB n c<281474976710656:=
 ⟨Nat.lt_of_lt_of_le (FR hn) (Nat.pow_le_pow_right bd ag),Nat.lt_of_lt_of_le (FR hn) (Nat.pow_le_pow_right (n:=16) (j:=12) bd ag)⟩
theorem FT(n:Nat)(d:Int)(k:Nat)(hk:d=(k:Int))(hn:n<1152921504606846976)(hd:k<16):bits .or .u64 ((n:Int)*16) d=((n*16+k:Nat):Int):=by
 have h1:IntKind.u64.wrap ((n:Int)*16)=(n:Int)*16:=by rw[IntKind.wrap_u64];omega
 have:=PM n d k hk hn hd
 rwa [h1]at this
theorem aap(h1:(48:Int)<=c)(h2:(c:Int)<=57)(hn:n<281474976710656):bits .or .u64 ((n:Int)*16) ((c:Int) - 48)=((jB n c:Nat):Int):=by
 rw[FT n _ (c - 48) ag ag ag]
 unfold jB;rw[if_pos ⟨ag,ag⟩]
theorem aaq(h1:(97:Int)<=c)(h2:(c:Int)<=102)(hn:n<281474976710656):bits .or .u64 ((n:Int)*16) ((c:Int) - 97+10)=((jB n c:Nat):Int):=by
 rw[FT n _ (c - 87) ag ag ag]
 unfold jB;rw[if_neg ag,if_pos ⟨ag,ag⟩]
theorem PN(h1:¬ (48<=c/\c<=57))(h2:¬ (97<=c/\c<=102)):jB n c=n:=by
 unfold jB;rw[if_neg h1,if_neg h2]
theorem PO(cX:Nat->ByteArray)(jC:Nat->Int)(Q:World->World->Prop)(L:World->Prop)(s:ByteArray)(hs:s.size<=100)(w:World)
 (hL:∀pos,L (w.iter s pos))
 (hT:∀(n:Nat) (w:World),n<18446744073709551616->L w->Calls Tryz.prog 10 (vS n) w λ e w'=>e= .returned (.tuple #[.string (cX n),.int .i64 (jC n)])/\Q w w'):
 Calls Tryz.prog 12 #[.string s] w λ e w'=>∃pos,Q (w.iter s pos) w'/\e=if jC (pread s s.size 0 0)=0/\((cX (pread s s.size 0 0)).toList==s.toList)=true then .returned (.tuple (qE (pread s s.size 0 0:Nat)))else .returned (.tuple jR):=by
 have HT:=af hT
 have HL:=af hL
 clear hT hL
 obtain⟨r,hr⟩:=aK (pread s s.size 0 0)
 rw[<-hr]
 have Hr:=af hr
 clear hr
 go_enter Tryz.func12,Tryz.ntmps12
 go_wp2
 go_step3
 go_wp2
 go_step3
 go_wp2
 go_loopw [4] (λ v w'=>∃(pos b n:Nat),w'=w.iter s pos/\v= .int .u64 (n:Int)/\pread s b pos n=r/\s.size<=pos+b/\n<16^pos/\n<281474976710656) (λ _ w'=>s.size - w'.iterPos w.heap.size)
 case atStart=>exact⟨0,s.size,0,rfl,rfl,Hr.O.symm,ag,by decide,by decide⟩
 case round=>
  obtain⟨pos,b,n,rfl,rfl,hc,hb,hn,fu⟩:=hrel
  by_cases hp:pos<s.size
  ·obtain⟨b,rfl⟩:∃b',b=b'+1:=⟨b - 1,ag⟩
   have qz:∀ty,(Instr.next (.pointer (zp w)) true ty).run Tryz.prog (w.iter s pos)=_:= λ ty=>run_next_any w s pos ty hp
   have Cb:=IJ s pos hp
   have hd:=decode_le s pos
   have EX:pread s (b+1) pos n=if(Utf8.decode s pos).1=46\/11<pos then n else pread s b (pos+(Utf8.decode s pos).2) (jB n (Utf8.decode s pos).1):=by simp[pread,hp]
   rw[EX]at hc
   clear EX
   generalize(Utf8.decode s pos).1=c at*
   generalize(Utf8.decode s pos).2=wd at*
   by_cases iZ:c=46\/11<pos
   ·rw[if_pos iZ]at hc
    subst hc
    have Fg:n<18446744073709551616:=ag
    by_cases h46:c=46
    ·clear iZ
     by_cases he:jC n=0
     ·by_cases ht:((cX n).toList==s.toList)=true
      ·have cu:∀W1,Q (w.iter s (pos+wd)) W1->∃p,Q (w.iter s p) W1/\Ending.returned (.tuple #[.int .u64 (n:Int),.int .i64 0])=if jC n=0/\((cX n).toList==s.toList)=true then .returned (.tuple (qE (n:Nat)))else .returned (.tuple jR):= λ W1 h=>⟨_,h,by rw[if_pos ⟨he,ht⟩]⟩
       have nz:=af cu
       clear cu hn hb Cb hd
       subst h46
       go_wp2_with((with_reducible refine(HT.O n _ Fg (HL.O _)).mono ?_);rintro e W1 ⟨rfl,hQ⟩)
       rw[Exit.noGoto_ret]
       go_ret2
       exact nz.O _ hQ
      ·have ht:((cX n).toList==s.toList)=false:=by simpa using ht
       have cu:∀W1,Q (w.iter s (pos+wd)) W1->∃p,Q (w.iter s p) W1/\Ending.returned (.tuple jR)=if jC n=0/\((cX n).toList==s.toList)=true then .returned (.tuple (qE (n:Nat)))else .returned (.tuple jR):= λ W1 h=>⟨_,h,by rw[if_neg (λ h=>by simp[ht]at h)]⟩
       have nz:=af cu
       clear cu hn hb Cb hd
       subst h46
       go_wp2_with((with_reducible refine(HT.O n _ Fg (HL.O _)).mono ?_);rintro e W1 ⟨rfl,hQ⟩)
       rw[Exit.noGoto_ret]
       go_ret2
       exact nz.O _ hQ
     ·have cu:∀W1,Q (w.iter s (pos+wd)) W1->∃p,Q (w.iter s p) W1/\Ending.returned (.tuple jR)=if jC n=0/\((cX n).toList==s.toList)=true then .returned (.tuple (qE (n:Nat)))else .returned (.tuple jR):= λ W1 h=>⟨_,h,by rw[if_neg (λ h=>he h.1)]⟩
      have nz:=af cu
      clear cu hn hb Cb hd
      subst h46
      go_wp2_with((with_reducible refine(HT.O n _ Fg (HL.O _)).mono ?_);rintro e W1 ⟨rfl,hQ⟩)
      rw[Exit.noGoto_ret]
      go_ret2
      exact nz.O _ hQ
    ·have Xu:11<pos:=ag
     clear iZ
     by_cases he:jC n=0
     ·by_cases ht:((cX n).toList==s.toList)=true
      ·have cu:∀W1,Q (w.iter s (pos+wd)) W1->∃p,Q (w.iter s p) W1/\Ending.returned (.tuple #[.int .u64 (n:Int),.int .i64 0])=if jC n=0/\((cX n).toList==s.toList)=true then .returned (.tuple (qE (n:Nat)))else .returned (.tuple jR):= λ W1 h=>⟨_,h,by rw[if_pos ⟨he,ht⟩]⟩
       have nz:=af cu
       clear cu hn hb Cb
       go_wp2_with((with_reducible refine(HT.O n _ Fg (HL.O _)).mono ?_);rintro e W1 ⟨rfl,hQ⟩)
       rw[Exit.noGoto_ret]
       go_ret2
       exact nz.O _ hQ
      ·have ht:((cX n).toList==s.toList)=false:=by simpa using ht
       have cu:∀W1,Q (w.iter s (pos+wd)) W1->∃p,Q (w.iter s p) W1/\Ending.returned (.tuple jR)=if jC n=0/\((cX n).toList==s.toList)=true then .returned (.tuple (qE (n:Nat)))else .returned (.tuple jR):= λ W1 h=>⟨_,h,by rw[if_neg (λ h=>by simp[ht]at h)]⟩
       have nz:=af cu
       clear cu hn hb Cb
       go_wp2_with((with_reducible refine(HT.O n _ Fg (HL.O _)).mono ?_);rintro e W1 ⟨rfl,hQ⟩)
       rw[Exit.noGoto_ret]
       go_ret2
       exact nz.O _ hQ
     ·have cu:∀W1,Q (w.iter s (pos+wd)) W1->∃p,Q (w.iter s p) W1/\Ending.returned (.tuple jR)=if jC n=0/\((cX n).toList==s.toList)=true then .returned (.tuple (qE (n:Nat)))else .returned (.tuple jR):= λ W1 h=>⟨_,h,by rw[if_neg (λ h=>he h.1)]⟩
      have nz:=af cu
      clear cu hn hb Cb
      go_wp2_with((with_reducible refine(HT.O n _ Fg (HL.O _)).mono ?_);rintro e W1 ⟨rfl,hQ⟩)
      rw[Exit.noGoto_ret]
      go_ret2
      exact nz.O _ hQ
   ·rw[if_neg iZ]at hc
    have h46:¬ c=46:=ag
    have Xu:pos<=11:=ag
    clear iZ
    have oD:=Ma (c:=c) (wd:=wd) hn Xu Cb
    have Hl2:=af oD
    have Hc:=af hc
    have Hb:=af hb
    clear hn oD hc hb
    have hme:s.size - (w.iter s (pos+wd)).iterPos w.heap.size<s.size - (w.iter s pos).iterPos w.heap.size:=bV
    have Hme:=af hme
    clear hme
    have fin:∀x:Int,x=((jB n c:Nat):Int)->(∃JW b_1 n_1,w.iter s (pos+wd)=w.iter s JW/\Value.int .u64 x=Value.int .u64 (n_1:Nat)/\pread s b_1 JW n_1=r/\s.size<=JW+b_1/\n_1<16^JW/\n_1<281474976710656)/\s.size - (w.iter s (pos+wd)).iterPos w.heap.size<s.size - (w.iter s pos).iterPos w.heap.size:=
     λ x hx=>⟨⟨pos+wd,b,jB n c,rfl,by rw[hx],Hc.O,by have:=Hb.O;omega,Hl2.O.1,Hl2.O.2⟩,Hme.O⟩
    have Fin:=af fin
    clear fin
    have acM:((c:Int)==46)=false:=bV
    have ac1:((c:Int)==46||decide (11<(pos:Int)))=false:=by rw[acM];simp;omega
    have adP:¬ (c:Int)=46:=ag
    have adQ:(pos:Int)<=11:=ag
    clear h46 Xu Cb hd hs
    by_cases h1:(48:Int)<=c
    ·by_cases h2:(c:Int)<=57
     ·go_wp2
      exact Fin.O _ (aap h1 h2 fu)
     ·have h2:(57:Int)<c:=ag
      by_cases h3:(97:Int)<=c
      ·by_cases h4:(c:Int)<=102
       ·go_wp2
        exact Fin.O _ (aaq h3 h4 fu)
       ·have h4:(102:Int)<c:=ag
        go_wp2
        exact Fin.O _ (by rw[PN ag ag])
      ·have h3:(c:Int)<97:=ag
       go_wp2
       exact Fin.O _ (by rw[PN ag ag])
    ·have h1:(c:Int)<48:=ag
     have h3:(c:Int)<97:=ag
     go_wp2
     exact Fin.O _ (by rw[PN ag ag])
  ·have qz:∀ty,(Instr.next (.pointer (zp w)) true ty).run Tryz.prog (w.iter s pos)=_:= λ ty=>run_next_end w s pos ty hp
   rw[L9 s b pos n hp]at hc
   subst hc
   have Fg:n<18446744073709551616:=ag
   by_cases he:jC n=0
   ·by_cases ht:((cX n).toList==s.toList)=true
    ·have cu:∀W1,Q (w.iter s pos) W1->∃p,Q (w.iter s p) W1/\Ending.returned (.tuple #[.int .u64 (n:Int),.int .i64 0])=if jC n=0/\((cX n).toList==s.toList)=true then .returned (.tuple (qE (n:Nat)))else .returned (.tuple jR):= λ W1 h=>⟨_,h,by rw[if_pos ⟨he,ht⟩]⟩
     have nz:=af cu
     clear cu hn hb
     go_wp2_with((with_reducible refine(HT.O n _ Fg (HL.O _)).mono ?_);rintro e W1 ⟨rfl,hQ⟩)
     rw[Exit.noGoto_ret]
     go_ret2
     exact nz.O _ hQ
    ·have ht:((cX n).toList==s.toList)=false:=by simpa using ht
     have cu:∀W1,Q (w.iter s pos) W1->∃p,Q (w.iter s p) W1/\Ending.returned (.tuple jR)=if jC n=0/\((cX n).toList==s.toList)=true then .returned (.tuple (qE (n:Nat)))else .returned (.tuple jR):= λ W1 h=>⟨_,h,by rw[if_neg (λ h=>by simp[ht]at h)]⟩
     have nz:=af cu
     clear cu hn hb
     go_wp2_with((with_reducible refine(HT.O n _ Fg (HL.O _)).mono ?_);rintro e W1 ⟨rfl,hQ⟩)
     rw[Exit.noGoto_ret]
     go_ret2
     exact nz.O _ hQ
   ·have cu:∀W1,Q (w.iter s pos) W1->∃p,Q (w.iter s p) W1/\Ending.returned (.tuple jR)=if jC n=0/\((cX n).toList==s.toList)=true then .returned (.tuple (qE (n:Nat)))else .returned (.tuple jR):= λ W1 h=>⟨_,h,by rw[if_neg (λ h=>he h.1)]⟩
    have nz:=af cu
    clear cu hn hb
    go_wp2_with((with_reducible refine(HT.O n _ Fg (HL.O _)).mono ?_);rintro e W1 ⟨rfl,hQ⟩)
    rw[Exit.noGoto_ret]
    go_ret2
    exact nz.O _ hQ
structure Xv(n d:Nat):Prop where
 lo:∀j,1<=j->j<d->Nat.blt 0 (n/2^(4*j))=true
 hi:Nat.blt 0 (n/2^(4*d))=false
def qD(c:Nat):Nat:=if c<10 then 48+c else 87+c
def Tc(c:Nat):UInt8:=UInt8.ofNat (qD c)
def na(n:Nat):Nat->List UInt8
 |0=>[]
 |k+1=>Tc (n/2^(4*k)%16)::na n k
def ki(n:Nat):Nat->List Nat
 |0=>[]
 |k+1=>qD (n/2^(4*k)%16)::ki n k
def oa:Nat->Nat->Nat
 |0,_=>1
 |f+1,n=>if n<16 then 1 else oa f (n/16)+1
theorem rW(f n:Nat):1<=oa f n:=by
 cases f with
 |zero=>exact aW
 |succ f=>unfold oa;split<;>omega
theorem uS:∀(f n:Nat),oa f n<=f+1
 |0,n=>aW
 |f+1,n=>by
  unfold oa
  have:=uS f (n/16)
  split<;>omega
theorem UA(n j:Nat):n/16/2^(4*j)=n/2^(4*(j+1)):=by
 rw[Nat.div_div_eq_div_mul,show 4*(j+1)=4+4*j by omega,Nat.pow_add]
theorem jD:∀(f n:Nat),n<16^(f+1)->Xv n (oa f n)
 |0,n,h=>⟨λ j h1 h2=>by unfold oa at h2;omega,by
   have:n/2^(4*1)=0:=Nat.div_eq_of_lt h
   show Nat.blt 0 (n/2^(4*1))=false
   rw[this];rfl⟩
 |f+1,n,h=>by
  unfold oa
  split
  ·rename_i bg
   refine⟨λ j h1 h2=>ag,?_⟩
   have:n/2^(4*1)=0:=Nat.div_eq_of_lt bg
   rw[this];rfl
  ·rename_i F6
   have ih:=jD f (n/16) (by rw[Nat.pow_succ]at h;omega)
   refine⟨λ j h1 h2=>?_,?_⟩
   ·cases j with
    |zero=>omega
    |succ j=>
     by_cases hj:j=0
     ·subst hj
      rw[Nat.blt_eq]
      show 0<n/16
      omega
     ·have:=ih.lo j ag ag
      rwa [UA]at this
   ·have:=ih.hi
    rwa [UA]at this
def mw(n:Nat):Nat:=oa 15 n
def CZ(n:Nat):Nat:=dE (jM (dE 0) (e8 n))
theorem Td(n:Nat):CZ n<4294967296:=ff _ (lI _ _ (ff _ bd) (pG n))
def Xw(n d c:Nat):ByteArray:=⟨⟨na n d++46::na c 8⟩⟩
def cX(n:Nat):ByteArray:=if 1099511627776<n\/n=0 then⟨⟨[]⟩⟩else Xw n (mw n) (CZ n)
def jC(n:Nat):Int:=if 1099511627776<n then 2 else 0
theorem oc(c:Nat)(h:c<16):(48<=qD c/\qD c<=57/\qD c=48+c)\/(97<=qD c/\qD c<=102/\qD c=87+c):=by
 unfold qD;split
 ·left;omega
 ·right;omega
theorem FU(c:Nat)(h:c<16):(Tc c).toNat=qD c:=by
 have:qD c<256:=by rcases oc c h with h|h<;>omega
 show(UInt8.ofNat (qD c)).toNat=_
 rw[UInt8.toNat_ofNat']
 exact Nat.mod_eq_of_lt this
theorem Mb(n c:Nat)(h:c<16):jB n (qD c)=n*16+c:=by
 unfold jB
 rcases oc c h with⟨h1,h2,h3⟩|⟨h1,h2,h3⟩
 ·rw[if_pos ⟨h1,h2⟩];omega
 ·rw[if_neg ag,if_pos ⟨h1,h2⟩];omega
theorem Te(l:List UInt8):(⟨⟨l⟩⟩:ByteArray).size=l.length:=rfl
theorem PQ(l:List UInt8)(i:Nat)(h:i<(⟨⟨l⟩⟩:ByteArray).size):(⟨⟨l⟩⟩:ByteArray)[i]'h=l[i]'h:=rfl
theorem zh{l:List UInt8}{f:Nat}{b:UInt8}(hb:l[pos]? =some b)(h:b.toNat<128):
 pread ⟨⟨l⟩⟩ (f+1) pos n=if b.toNat=46\/11<pos then n else pread ⟨⟨l⟩⟩ f (pos+1) (jB n b.toNat):=by
 obtain⟨bg,zo⟩:=List.getElem?_eq_some_iff.1 hb
 have DE:pos<(⟨⟨l⟩⟩:ByteArray).size:=bg
 have hd:Utf8.decode ⟨⟨l⟩⟩ pos=(b.toNat,1):=by
  rw[decode_ascii _ pos DE (by rw[PQ,zo];exact h),PQ,zo]
 rw[pread,if_pos DE,hd]
theorem FV:∀(n k j:Nat) (tail:List UInt8),j<k->(na n k++tail)[j]? =some (Tc (n/2^(4*(k - 1 - j))%16))
 |n,k+1,0,tail,_=>by simp[na]
 |n,k+1,j+1,tail,h=>by
  have:=FV n k j tail ag
  rw[show k+1 - 1 - (j+1)=k - 1 - j by omega]
  simpa[na]using this
theorem gP:∀(n k:Nat),(na n k).length=k
 |n,0=>rfl
 |n,k+1=>by simp[na,gP n k]
theorem Xx(n k:Nat):n/2^(4*(k+1))*16+n/2^(4*k)%16=n/2^(4*k):=by
 have h:n/2^(4*(k+1))=n/2^(4*k)/16:=by
  rw[Nat.div_div_eq_div_mul,show 4*(k+1)=4*k+4 by omega,Nat.pow_add]
 rw[h];omega
theorem BD{n d:Nat}{tail:List UInt8}(hd:d<=11):∀(j f:Nat),j<=d->d+1<=f+j->pread ⟨⟨na n d++46::tail⟩⟩ f j (n/2^(4*(d - j)))=n
 |j,f,hj,hf=>by
  by_cases he:j=d
  ·subst he
   obtain⟨g,rfl⟩:∃g,f=g+1:=⟨f - 1,ag⟩
   rw[zh (b:=46) (by rw[List.getElem?_append_right (by rw[gP];exact aW),gP,Nat.sub_self];rfl) bd,if_pos (.inl rfl)]
   simp
  ·obtain⟨g,rfl⟩:∃g,f=g+1:=⟨f - 1,ag⟩
   have hc:n/2^(4*(d - 1 - j))%16<16:=Nat.mod_lt _ bd
   have hb:=oc _ hc
   rw[zh (FV n d j _ ag) (by rw[FU _ hc];omega),FU _ hc,if_neg ag,Mb _ _ hc]
   have e:n/2^(4*(d - j))*16+n/2^(4*(d - 1 - j))%16=n/2^(4*(d - (j+1))):=by
    have:=Xx n (d - (j+1))
    rw[show d - (j+1)+1=d - j by omega]at this
    rw[show d - 1 - j=d - (j+1)by omega]
    exact this
   rw[e]
   exact BD hd (j+1) g ag ag
 termination_by j=>d - j
theorem JX(h:n<=1099511627776):mw n<=11:=by
 rcases Nat.lt_or_ge 11 (mw n)with h8|h8
 ·have:=(jD 15 n ag).lo 11 bd h8
  rw[Nat.blt_eq]at this
  have:n/2^(4*11)=0:=Nat.div_eq_of_lt ag
  omega
 ·exact h8
theorem PR(h:n<=1099511627776):n/2^(4*mw n)=0:=by
 have:=(jD 15 n ag).hi
 rcases Nat.eq_zero_or_pos (n/2^(4*mw n))with h0|h0
 ·exact h0
 ·have h1:Nat.blt 0 (n/2^(4*mw n))=true:=by rw[Nat.blt_eq];exact h0
  have h2:Nat.blt 0 (n/2^(4*mw n))=false:=this
  rw[h1]at h2;cases h2
theorem Mc(h:n<=1099511627776):pread (cX n) (cX n).size 0 0=n:=by
 by_cases h0:n=0
 ·subst h0;rfl
 ·have e:cX n=⟨⟨na n (mw n)++46::na (CZ n) 8⟩⟩:=by unfold cX;rw[if_neg ag];rfl
  rw[e,Te]
  have:=BD (n:=n) (d:=mw n) (tail:=na (CZ n) 8) (JX h) 0 (na n (mw n)++46::na (CZ n) 8).length ag (by simp[gP])
  rw[Nat.sub_zero,PR h]at this
  exact this
theorem FW(n:Nat):(cX n).size<=20:=by
 unfold cX
 split
 ·exact Nat.zero_le _
 ·rename_i h
  have:=JX (n:=n) ag
  show(na n (mw n)++46::na (CZ n) 8).length<=20
  simp[gP];omega
def uT(s:ByteArray):Nat:=if jC (pread s s.size 0 0)=0/\cX (pread s s.size 0 0)=s then pread s s.size 0 0 else 0
def uU(s:ByteArray):Int:=if jC (pread s s.size 0 0)=0/\cX (pread s s.size 0 0)=s then 0 else 310
theorem od(h:n<=1099511627776):uT (cX n)=n/\uU (cX n)=0:=by
 have e:=Mc h
 have e2:jC n=0:=by unfold jC;rw[if_neg ag]
 unfold uT uU
 rw[e,e2];simp
theorem Xy(h:uU s=0):jC (uT s)=0/\cX (uT s)=s:=by
 unfold uU at h
 unfold uT
 split at h
 ·rename_i hh;rw[if_pos hh];exact hh
 ·cases h
theorem afv(h:uU s≠0):uT s=0:=by
 unfold uU at h
 unfold uT
 split at h
 ·exact absurd rfl h
 ·rename_i hh;rw[if_neg hh]
theorem aff(h:jC k=0):k<=1099511627776:=by
 unfold jC at h
 split at h
 ·cases h
 ·omega
theorem zi:∀(n k:Nat),(ki n k).length=k
 |n,0=>rfl
 |n,k+1=>by simp[ki,zi n k]
theorem FX(n:Nat):∀k,(ki n k).map UInt8.ofNat=na n k
 |0=>rfl
 |k+1=>by simp[ki,na,Tc,FX n k]
theorem C0(n:Nat):∀(k:Nat),∀x∈ki n k,x<256
 |0,x,h=>by cases h
 |k+1,x,h=>by
  rcases List.mem_cons.1 h with rfl|h
  ·have:=oc (n/2^(4*k)%16) (Nat.mod_lt _ bd);omega
  ·exact C0 n k x h
theorem Md(n d:Nat):∀i,i<d->(ki n d).take (i+1)=(ki n d).take i++[qD (n/2^(4*(d - 1 - i))%16)]:=by
 induction d with
 |zero=>intro i h;omega
 |succ d ih=>
  intro i h
  cases i with
  |zero=>simp[ki]
  |succ i=>
   have:=ih i ag
   rw[show d+1 - 1 - (i+1)=d - 1 - i by omega]
   simp only[ki,List.take_succ_cons,this,List.cons_append]
theorem Tf(n:Nat)(h0:n≠0)(h1:n<=1099511627776):aU (ki n (mw n)++[46]++ki (CZ n) 8)=cX n:=by
 unfold cX
 rw[if_neg ag]
 unfold Xw aU
 simp[FX]
theorem aar(hc:c<4294967296)(h:Xv c d)(_:1<=d):d<=8:=by
 rcases Nat.lt_or_ge 8 d with h8|h8
 ·have:=h.lo 8 bd h8
  rw[Nat.blt_eq]at this
  have:c/2^(4*8)=0:=Nat.div_eq_of_lt ag
  omega
 ·exact h8
section
attribute [local go_sem] Oper.semAt_some
attribute [-go_sem] Builtin.append_
theorem zj(n:Nat)(hn:n<18446744073709551616)(w:World):
 Calls Tryz.prog 21 (vS n) w λ e w'=>∃g k,e= .returned (.slice (zp g) 8 k)/\ai w' (zp g) (e8 n)/\Below w w w':=by
 obtain⟨M,XK,Y6,IV⟩:=Gu 0 8 bd bd
 have Y7:∀W:World,(Instr.makeSlice 34 (.int .i64 0) (.int .i64 8)).run Tryz.prog W= .ok (.slice (zp W) 0 8) (W.alloc (.cells M 5)):= λ W=>IV W
 have Gy:Hid ((w.alloc (.cells M 5)).ownsRow w 5 1 (.slice (zp w) 0 8) 0 []):=af ⟨rfl,.inr ⟨w.heap.size,8,M,rfl,aW,World.alloc_heap_new _ _,by decide,by decide,XK,by simp⟩⟩
 have HQ:=af hn
 clear XK Y6 IV hn
 go_enter Tryz.func21,Tryz.ntmps21
 go_wp2_with fail
 go_loopw [3,4] (λ rv iv wr=>∃i:Nat,i<=8/\iv= .int .i64 (56 - 8*(i:Int))/\∃q k,rv= .slice q i k/\Hid (wr.ownsRow w 5 1 (.slice q i k) i (aB ((e8 n).take i))/\Below w w wr)) (λ _ iv _=>(intOf iv+8).toNat)
 case atStart=>exact⟨0,ag,rfl,_,_,rfl,af ⟨Gy.O,(Below.refl _ w).alloc (aW) _⟩⟩
 case round=>
  obtain⟨i,hi,rfl,q,k,rfl,hw⟩:=hrel
  rcases(show i=0\/i=1\/i=2\/i=3\/i=4\/i=5\/i=6\/i=7\/i=8 by omega)with rfl|rfl|rfl|rfl|rfl|rfl|rfl|rfl|rfl
  ·obtain⟨g',c',w5,bt,cz,ni⟩:=cN (n₀:=w.heap.size) (n/2^(56 - 8*0)%256) ((n:Int)/72057594037927936%256) (by simp only[Nat.reduceMul,Nat.reduceSub,Nat.reducePow];omega) hw.O.1 bd hw.O.2.size
   have HN:=af (show Hid (w5.ownsRow w 5 1 (.slice (zp g') (0+1) c') (0+1) (aB ((e8 n).take (0+1)))/\Below w w w5)from af ⟨cz,hw.O.2.T ni.below⟩)
   clear cz ni
   go_wp2_with fail
   exact⟨⟨0+1,ag,rfl,_,_,rfl,HN.O⟩,by simp[intOf]⟩
  ·obtain⟨g',c',w5,bt,cz,ni⟩:=cN (n₀:=w.heap.size) (n/2^(56 - 8*1)%256) ((n:Int)/281474976710656%256) (by simp only[Nat.reduceMul,Nat.reduceSub,Nat.reducePow];omega) hw.O.1 bd hw.O.2.size
   have HN:=af (show Hid (w5.ownsRow w 5 1 (.slice (zp g') (1+1) c') (1+1) (aB ((e8 n).take (1+1)))/\Below w w w5)from af ⟨cz,hw.O.2.T ni.below⟩)
   clear cz ni
   go_wp2_with fail
   exact⟨⟨1+1,ag,rfl,_,_,rfl,HN.O⟩,by simp[intOf]⟩
  ·obtain⟨g',c',w5,bt,cz,ni⟩:=cN (n₀:=w.heap.size) (n/2^(56 - 8*2)%256) ((n:Int)/1099511627776%256) (by simp only[Nat.reduceMul,Nat.reduceSub,Nat.reducePow];omega) hw.O.1 bd hw.O.2.size
   have HN:=af (show Hid (w5.ownsRow w 5 1 (.slice (zp g') (2+1) c') (2+1) (aB ((e8 n).take (2+1)))/\Below w w w5)from af ⟨cz,hw.O.2.T ni.below⟩)
   clear cz ni
   go_wp2_with fail
   exact⟨⟨2+1,ag,rfl,_,_,rfl,HN.O⟩,by simp[intOf]⟩
  ·obtain⟨g',c',w5,bt,cz,ni⟩:=cN (n₀:=w.heap.size) (n/2^(56 - 8*3)%256) ((n:Int)/4294967296%256) (by simp only[Nat.reduceMul,Nat.reduceSub,Nat.reducePow];omega) hw.O.1 bd hw.O.2.size
   have HN:=af (show Hid (w5.ownsRow w 5 1 (.slice (zp g') (3+1) c') (3+1) (aB ((e8 n).take (3+1)))/\Below w w w5)from af ⟨cz,hw.O.2.T ni.below⟩)
   clear cz ni
   go_wp2_with fail
   exact⟨⟨3+1,ag,rfl,_,_,rfl,HN.O⟩,by simp[intOf]⟩
  ·obtain⟨g',c',w5,bt,cz,ni⟩:=cN (n₀:=w.heap.size) (n/2^(56 - 8*4)%256) ((n:Int)/16777216%256) (by simp only[Nat.reduceMul,Nat.reduceSub,Nat.reducePow];omega) hw.O.1 bd hw.O.2.size
   have HN:=af (show Hid (w5.ownsRow w 5 1 (.slice (zp g') (4+1) c') (4+1) (aB ((e8 n).take (4+1)))/\Below w w w5)from af ⟨cz,hw.O.2.T ni.below⟩)
   clear cz ni
   go_wp2_with fail
   exact⟨⟨4+1,ag,rfl,_,_,rfl,HN.O⟩,by simp[intOf]⟩
  ·obtain⟨g',c',w5,bt,cz,ni⟩:=cN (n₀:=w.heap.size) (n/2^(56 - 8*5)%256) ((n:Int)/65536%256) (by simp only[Nat.reduceMul,Nat.reduceSub,Nat.reducePow];omega) hw.O.1 bd hw.O.2.size
   have HN:=af (show Hid (w5.ownsRow w 5 1 (.slice (zp g') (5+1) c') (5+1) (aB ((e8 n).take (5+1)))/\Below w w w5)from af ⟨cz,hw.O.2.T ni.below⟩)
   clear cz ni
   go_wp2_with fail
   exact⟨⟨5+1,ag,rfl,_,_,rfl,HN.O⟩,by simp[intOf]⟩
  ·obtain⟨g',c',w5,bt,cz,ni⟩:=cN (n₀:=w.heap.size) (n/2^(56 - 8*6)%256) ((n:Int)/256%256) (by simp only[Nat.reduceMul,Nat.reduceSub,Nat.reducePow];omega) hw.O.1 bd hw.O.2.size
   have HN:=af (show Hid (w5.ownsRow w 5 1 (.slice (zp g') (6+1) c') (6+1) (aB ((e8 n).take (6+1)))/\Below w w w5)from af ⟨cz,hw.O.2.T ni.below⟩)
   clear cz ni
   go_wp2_with fail
   exact⟨⟨6+1,ag,rfl,_,_,rfl,HN.O⟩,by simp[intOf]⟩
  ·obtain⟨g',c',w5,bt,cz,ni⟩:=cN (n₀:=w.heap.size) (n/2^(56 - 8*7)%256) ((n:Int)%256) (by simp only[Nat.reduceMul,Nat.reduceSub,Nat.reducePow];omega) hw.O.1 bd hw.O.2.size
   have HN:=af (show Hid (w5.ownsRow w 5 1 (.slice (zp g') (7+1) c') (7+1) (aB ((e8 n).take (7+1)))/\Below w w w5)from af ⟨cz,hw.O.2.T ni.below⟩)
   clear cz ni
   go_wp2_with fail
   exact⟨⟨7+1,ag,rfl,_,_,rfl,HN.O⟩,by simp[intOf]⟩
  ·obtain⟨g,rfl⟩:∃g,q=some ⟨g,0,none⟩:=by
    rcases ay hw.O.1 with⟨_,h,_⟩|⟨g,_,h,_⟩
    ·omega
    ·exact⟨g,h⟩
   have eJ:Hid (ai wr (zp g) (e8 n)):=af (by
    refine⟨pG n,.inr ⟨_,_,rfl, λ j x hx=>?_⟩⟩
    have:=fh hw.O.1 j (.int .u8 (x:Int)) (by rw[List.take_of_length_le (by rw[dC];decide)];simp[aB,hx])
    rw[Nat.zero_add];exact this)
   go_wp2_with fail
   go_ret
   exact⟨_,_,rfl,eJ.O,hw.O.2⟩
theorem FY(x:Nat)(X:Int)(hX:X=(x:Int))(hR:W.heap[R]? =some (.cells (jE a k c) 69))(hn:n₀<=R)(ax:W.ownsRow n₀ 5 1 (.slice a k c) k (aB bs))(hk:k<100000):
 ∃g' c' w5,(Builtin.append_ #[34,34] 34 (jF a k c (zp W) 1 1)).run Tryz.prog (W.alloc (.cells #[.int .u8 X] 5))= .ok (.slice (zp g') (k+1) c') w5/\
  w5.cell? (za R 0)=some (.slice a k c)/\w5.frozen? ⟨R,0,none⟩=false/\
  Hid ((w5.setCell (za R 0) (.slice (zp g') (k+1) c')).heap[R]? =some (.cells (jE (zp g') (k+1) c') 69)/\(w5.setCell (za R 0) (.slice (zp g') (k+1) c')).ownsRow n₀ 5 1 (.slice (zp g') (k+1) c') (k+1) (aB (bs++[x]))/\Below n₀ W (w5.setCell (za R 0) (.slice (zp g') (k+1) c'))):=by
 have hRs:=(aX hR).1
 obtain⟨g',c',w5,bt,cz,ni⟩:=cN x X hX ax hk ag
 have bS:(Value.slice a k c).ownBlock≠some R:= λ e=>by
  rcases ay ax with⟨rfl,_⟩|⟨g,cur,rfl,_,hg⟩
  ·cases e
  ·obtain rfl:g=R:=by simpa[Value.ownBlock]using e
   rw[hg]at hR;cases hR
 have hR5:=(ni.bT R hRs bS).T hR
 have hgR:g'≠R:= λ e=>by
  rcases ay cz with⟨h,_⟩|⟨g,cur,h,_,hg⟩
  ·cases h
  ·cases h
   rw[e,hR5]at hg;cases hg
 refine⟨g',c',w5,bt,aJ hR5,ak hR5 0,af ⟨?_,dx cz λ g e=>?_,ni.below.setCell (p:=(za R 0)) hn _⟩⟩
 ·rw[aq _ hR5];rfl
 ·cases e
  exact Below.heap_setCell w5 ⟨R,0,none⟩ _ g' hgR
theorem Tg(c:Nat)(h:c<16)(hc:c<(⟨#[48,49,50,51,52,53,54,55,56,57,97,98,99,100,101,102]⟩:ByteArray).size):((⟨#[48,49,50,51,52,53,54,55,56,57,97,98,99,100,101,102]⟩:ByteArray)[c]'hc).toNat=qD c:=by
 rcases(show c=0\/c=1\/c=2\/c=3\/c=4\/c=5\/c=6\/c=7\/c=8\/c=9\/c=10\/c=11\/c=12\/c=13\/c=14\/c=15 by omega)with rfl|rfl|rfl|rfl|rfl|rfl|rfl|rfl|rfl|rfl|rfl|rfl|rfl|rfl|rfl|rfl<;>rfl
theorem zk{least:Nat}(hn:n<18446744073709551616)(hd:d=max (mw n) least)(hl:least<=16)(hR:w.heap[R]? =some (.cells (jE a m c) 69))(MV:n₀<=R)(ax:w.ownsRow n₀ 5 1 (.slice a m c) m (aB bs))(hm:m<=100):
 Calls Tryz.prog 19 #[.pointer (zp R),.int .u64 (n:Int),.int .i64 (least:Int)] w λ e w'=>e= .returned (.tuple #[])/\∃a' c',w'.heap[R]? =some (.cells (jE a' (m+d) c') 69)/\w'.ownsRow n₀ 5 1 (.slice a' (m+d) c') (m+d) (aB (bs++ki n d))/\Below n₀ w w':=by
 have hM:Xv n (mw n):=jD 15 n ag
 have h1:1<=mw n:=rW _ _
 have h16:mw n<=16:=uS _ _
 obtain⟨D,hD⟩:=aK (mw n)
 rw[<-hD]at hM h1 h16 hd
 have HD:=af hd
 have HM:=af hM
 have HN:=af hn
 have HH:=cj hR ax
 have HL:=cV hl hm MV
 have Ss:1<=d/\d<=16:=ag
 have Db:=af Ss
 clear hM hn hR ax hD hd hl hm MV Ss
 go_enter Tryz.func19,Tryz.ntmps19
 go_wp2_with fail
 go_loopw [6] (λ iv wr=>∃i:Nat,1<=i/\i<=D/\iv= .int .i64 (i:Int)/\wr=w) (λ iv _=>D - (intOf iv).toNat)
 case atStart=>exact⟨1,ag,h1,rfl,rfl⟩
 case round=>
  obtain⟨i,tZ,hi,rfl,X0⟩:=hrel
  have X0:=X0.symm
  subst X0
  have e2:(n:Int)/2^(4*i)=((n/2^(4*i):Nat):Int):=by simp
  have adR:(i:Int)<=16:=ag
  by_cases bg:i<D
  ·have h0:=HM.O.lo i tZ bg
   rw[Nat.blt_eq]at h0
   have hp:(0:Int)<(n:Int)/2^(4*i):=by rw[e2];omega
   have adS:(i:Int)<16:=ag
   clear e2 h0
   go_wp2_with fail
   exact⟨⟨i+1,ag,ag,by simp,trivial⟩,by simp[intOf];omega⟩
  ·obtain rfl:i=D:=ag
   have h0:=HM.O.hi
   have h00:n/2^(4*i)=0:=by
    rcases Nat.eq_zero_or_pos (n/2^(4*i))with h|h
    ·exact h
    ·have:Nat.blt 0 (n/2^(4*i))=true:=by rw[Nat.blt_eq];exact h
     rw[h0]at this;cases this
   have hp:(n:Int)/2^(4*i)=0:=by rw[e2,h00];rfl
   have BW:max (i:Int) (least:Int)=(d:Int):=aM HD.O
   have adT:(d:Int)<=16:=aM Db.O
   clear e2 h0 h00 bg
   go_wp2_with fail
   go_loopw [7] (λ iv V=>∃j:Nat,j<=d/\iv= .int .i64 ((j:Int) - 1)/\Hid (∃a' c',V.heap[R]? =some (.cells (jE a' (m+(d - j)) c') 69)/\V.ownsRow n₀ 5 1 (.slice a' (m+(d - j)) c') (m+(d - j)) (aB (bs++(ki n d).take (d - j)))/\Below n₀ w V)) (λ iv _=>(intOf iv+1).toNat)
   case atStart=>exact⟨d,aW,rfl,af ⟨a,c,by rw[Nat.sub_self];exact HH.O.1,by rw[Nat.sub_self];simpa using HH.O.2,dp⟩⟩
   case round=>
    obtain⟨j,hj,rfl,hw⟩:=hrel
    cases j with
    |zero=>
     go_wp2_with fail
     go_end0
     refine⟨rfl,?_⟩
     obtain⟨a',c',h2,h3,h4⟩:=hw.O
     rw[Nat.sub_zero,List.take_of_length_le (by rw[zi];exact aW)]at h3
     rw[Nat.sub_zero]at h2
     exact⟨a',c',h2,h3,h4⟩
    |succ k=>
     rw[show(((k+1:Nat):Int) - 1)=(k:Int)by omega]
     obtain⟨a',c',h2,h3,h4⟩:=hw.O
     obtain⟨q,hq⟩:=aK (m+(d - (k+1)))
     rw[<-hq]at h2 h3
     obtain⟨x,hx⟩:=aK (qD (n/2^(4*k)%16))
     have Sh:n/2^(4*k)%16<16:=Nat.mod_lt _ bd
     have hta:=Md n d (d - (k+1)) ag
     rw[show d - 1 - (d - (k+1))=k by omega,<-hx,show d - (k+1)+1=d - k by omega]at hta
     obtain⟨V,hV⟩:=aK wr.drew
     have SX:Below wr wr V:=by rw[hV];exact(Below.refl _ wr).drew
     have kt:Below n₀ w V:=by rw[hV];exact h4.drew
     have h2d:=(SX.block _ (aX h2).1).T h2
     have g0:=aJ h2
     obtain⟨cc,kL⟩:=aK (n/2^(4*k)%16)
     rw[<-kL]at hx Sh
     have e3:(n:Int)/2^(4*(k:Int)).toNat=((n/2^(4*k):Nat):Int):=by
      rw[show(4*(k:Int)).toNat=4*k by omega];simp
     have hand:bits BinOp.and IntKind.u64 ((n:Int)/2^(4*(k:Int)).toNat) 15=(cc:Int):=by
      have h1:n/2^(4*k)<18446744073709551616:=Nat.lt_of_le_of_lt (Nat.div_le_self _ _) HN.O
      have h2:=u64_and_nat (n/2^(4*k)) 15 h1 bd
      rw[e3,kL]
      exact h2.T (congrArg _ (Nat.and_two_pow_sub_one_eq_mod _ 4))
     have hgx:∀h,((⟨#[48,49,50,51,52,53,54,55,56,57,97,98,99,100,101,102]⟩:ByteArray)[cc]'h).toNat=x:= λ h=>by rw[hx];exact Tg cc Sh h
     have adU:(0:Int)<=(cc:Int):=ag
     have adV:(cc:Int)<16:=ag
     have I4:=af kL
     obtain⟨g',c2,w5,bt,Gh,yY,eT⟩:=FY x x rfl h2d HL.O.2.2 (bO.row SX h3) (cG HL.O Db.O)
     have HZ:=af (show Hid (∃a' c',(w5.setCell (za R 0) (.slice (zp g') (q+1) c2)).heap[R]? =some (.cells (jE a' (m+(d - k)) c') 69)/\(w5.setCell (za R 0) (.slice (zp g') (q+1) c2)).ownsRow n₀ 5 1 (.slice a' (m+(d - k)) c') (m+(d - k)) (aB (bs++(ki n d).take (d - k)))/\Below n₀ w (w5.setCell (za R 0) (.slice (zp g') (q+1) c2)))from af (by
      rw[show m+(d - k)=q+1 by omega,hta,<-List.append_assoc]
      exact⟨_,_,eT.O.1,eT.O.2.1,kt.T eT.O.2.2⟩))
     have adW:(k:Int)<=15:=aM Db.O
     have XG:IntKind.i64.wrap (4*(k:Int))=4*(k:Int):=by rw[IntKind.wrap_i64];omega
     have hq9:(q:Int)<=200:=cG Db.O HL.O
     have M6:(Builtin.append_ #[34,34] 34 (jF a' q c' (zp wr) 1 1)).run Tryz.prog (wr.alloc (.cells (J3 x) 5)).drew= .ok (.slice (zp g') (q+1) c2) w5:=by rw[hV]at bt;exact bt
     have g1:(wr.alloc (.cells (J3 x) 5)).cell? (za R 0)=some (.slice a' q c'):=(Below.cell ((Below.refl wr wr).alloc (aW) _) (p:=(za R 0)) (aX h2).1).T g0
     have HQ:=af hq
     clear bt hq hta SX kt h2d h2 h3 h4 eT hx e3 Sh hV kL
     go_wp2_with fail
     refine bP 16 ?_
     refine tP [0,1,2,3,4,5,6,7,8,9,10] ?_
     iterate 11 refine tO ?_
     refine ah 5 rfl ?_
     refine sP 11 [5,6,7,8,9,10] λ K hK=>?_
     go_simp
     refine nP hK ?_
     clear hK K
     refine sP 12 [1,2,3,4,5,6,7,8,9,10,11] λ K hK=>?_
     go_simp
     refine nP hK ?_
     clear hK K
     refine tP [13,14] ?_
     iterate 2 refine tO ?_
     refine ah 1 rfl ?_
     refine sP 15 [0,1,2,3,4,5,6,7,8,9,10,11,12,13,14] λ K hK=>?_
     go_simp
     refine nP hK ?_
     clear hK K
     refine dP ?_
     go_simp
     clear M6 g0 g1 hgx
     go_wp2_with fail
     exact⟨⟨k,ag,rfl,HZ.O⟩,by simp[intOf]⟩
theorem FZ(h:1099511627776<n)(w:World):Calls Tryz.prog 10 (vS n) w λ e w'=>e= .returned (.tuple #[.string ⟨#[]⟩,.int .i64 2])/\Below w w w':=by
 have h1:(1099511627776:Int)<(n:Int):=ag
 clear h
 go_enter Tryz.func10,Tryz.ntmps10
 go_wp2_with fail
 go_ret2
 exact⟨rfl,dp⟩
theorem PS(w:World):Calls Tryz.prog 10 nq w λ e w'=>e= .returned (.tuple #[.string ⟨#[]⟩,.int .i64 0])/\Below w w w':=by
 go_enter Tryz.func10,Tryz.ntmps10
 go_wp2_with fail
 go_ret2
 exact⟨rfl,dp⟩
theorem Me(h:W.ownsRow n₀ 5 1 (.slice a k c) k (aB bs))(hb:∀x∈bs,x<256):ai W a bs:=by
 refine⟨hb,?_⟩
 rcases ay h with⟨rfl,rfl,_⟩|⟨g,cur,rfl,_,_⟩
 ·have:=h.1
  exact .inl (List.eq_nil_of_length_eq_zero (by simpa[aB]using this))
 ·exact .inr ⟨g,0,rfl, λ j x hj=>by rw[Nat.zero_add];exact fh h j _ (by simp[aB,hj])⟩
theorem PT(h1:n<=1099511627776)(h0:n≠0)(w:World):Calls Tryz.prog 10 (vS n) w λ e w'=>e= .returned (.tuple #[.string (cX n),.int .i64 0])/\Below w w w':=by
 obtain⟨D,hD⟩:=aK (mw n)
 have hp:1<=D:=by rw[hD];exact rW _ _
 have h16:D<=16:=by rw[hD];exact uS _ _
 obtain⟨C,hC⟩:=aK (CZ n)
 have hCl:C<4294967296:=by rw[hC];exact Td n
 have hC8:mw C<=8:=aar hCl (jD 15 C ag) (rW _ _)
 have hT:aU (ki n D++[46]++ki C 8)=cX n:=by rw[hD,hC];exact Tf n h0 h1
 have HD1:Hid (∀V:World,V.heap[w.heap.size]? =some (.cells oS 69)->Calls Tryz.prog 19 #[.pointer (zp w),.int .u64 (n:Int),.int .i64 1] V λ e w'=>e= .returned (.tuple #[])/\∃a' c',w'.heap[w.heap.size]? =some (.cells (jE a' D c') 69)/\w'.ownsRow w 5 1 (.slice a' D c') D (aB (ki n D))/\Below w V w'):=af λ V hV=>by
  have:=zk (w:=V) (n₀:=w.heap.size) (bs:=[]) (n:=n) (least:=1) (d:=D) ag ag bd hV (aW) ⟨rfl,.inl ⟨rfl,rfl⟩⟩ bd
  simpa using this
 have HD2:Hid (∀(V:World) (a:Option Addr) (c:Nat),V.heap[w.heap.size]? =some (.cells (jE a (D+1) c) 69)->V.ownsRow w 5 1 (.slice a (D+1) c) (D+1) (aB (ki n D++[46]))->Calls Tryz.prog 19 #[.pointer (zp w),.int .u64 (C:Int),.int .i64 8] V λ e w'=>e= .returned (.tuple #[])/\∃a' c',w'.heap[w.heap.size]? =some (.cells (jE a' (D+1+8) c') 69)/\w'.ownsRow w 5 1 (.slice a' (D+1+8) c') (D+1+8) (aB (ki n D++[46]++ki C 8))/\Below w V w'):=af λ V a c hV hr=>zk (w:=V) (n₀:=w.heap.size) (n:=C) (least:=8) (d:=8) ag ag bd hV (aW) hr ag
 have Ys:=af (λ V:World=>zj n ag V)
 have Ae:Hid (∀(V:World) (g k:Nat),ai V (zp g) (e8 n)->Calls Tryz.prog 20 (jE (zp g) 8 k) V λ e w'=>e= .returned (.int .u32 (C:Int))/\Below V V w'):=af λ V g k hb=>by
  have:=BX (e8 n) g 0 k V (pG n) (by rw[dC];decide) (by
   rcases hb.2 with h|⟨B,o,e,h⟩
   ·have:=dC n;rw[h]at this;cases this
   ·cases e;exact h)
  rw[dC]at this
  rw[hC];exact this
 have oG:=af (λ (V:World) (a:Option Addr) (c:Nat) (hr:V.ownsRow w 5 1 (.slice a D c) D (aB (ki n D))) (hV:V.heap[w.heap.size]? =some (.cells (jE a D c) 69))=>FY 46 46 rfl hV (aW) hr ag)
 have Qj:Hid (∀(V:World) (a:Option Addr) (c:Nat),V.ownsRow w 5 1 (.slice a (D+1+8) c) (D+1+8) (aB (ki n D++[46]++ki C 8))->(convert 34 9 (.slice a (D+1+8) c)).run Tryz.prog V= .ok (.string (cX n)) V):=af λ V a c hr=>by
  rw[<-hT]
  refine cy (Me hr λ x hx=>?_) (by simp[zi])
  rcases List.mem_append.1 hx with h|h
  ·rcases List.mem_append.1 h with h|h
   ·exact C0 _ _ _ h
   ·rw[List.mem_singleton]at h;subst h;decide
  ·exact C0 _ _ _ h
 have Ac:¬ ((1099511627776:Int)<(n:Int)):=ag
 have eU:decide ((1099511627776:Int)<(n:Int))=false:=bV
 have oC:((n:Int)==0)=false:=bV
 have hCi:(C:Int)<4294967296:=ag
 have adX:(D:Int)<=16:=ag
 have kg:=af (World.alloc_heap_new w (.cells oS 69))
 have cZ:Hid (Below w w (w.alloc (.cells oS 69))):=af ((Below.refl _ w).alloc (aW) _)
 have HCL:=cV hp h16 hCl
 clear hD hC hT h1 h0 hp h16 hCl hC8
 go_enter Tryz.func10,Tryz.ntmps10
 go_wp2_with first
  |((with_reducible refine(HD1.O _ kg.O).mono ?_);rintro e w2 ⟨rfl,a1,c1,mz,vY,aC⟩
    have bR:=af (cZ.O.T aC)
    have g0:=aJ mz
    obtain⟨g',c2,w5,bt,Gh,yY,eT⟩:=oG.O w2 a1 c1 vY mz
    clear mz vY aC)
  |((with_reducible refine(Ys.O _).mono ?_);rintro e w4 ⟨g,k,rfl,eZ,bH⟩
    have H4:=jo eZ bH ((bH.block _ (aX eT.O.1).1).T eT.O.1) (bO.row bH eT.O.2.1)
    have iJ:=af ((bR.O.T eT.O.2.2).T (bH.mono (bR.O.T eT.O.2.2).size))
    clear eZ bH)
  |((with_reducible refine(Ae.O _ _ _ H4.O.1).mono ?_);rintro e w6 ⟨rfl,fD⟩
    have H6:=cj ((fD.block _ (aX H4.O.2.2.1).1).T H4.O.2.2.1) (bO.row fD H4.O.2.2.2)
    have jY:=af (iJ.O.T (fD.mono iJ.O.size))
    clear fD)
  |((with_reducible refine(HD2.O _ _ _ H6.O.1 H6.O.2).mono ?_);rintro e w8 ⟨rfl,a8,c8,hr8,LK,qt⟩
    have F8:=af (jY.O.T qt)
    have x0:=aJ hr8
    have Ml:=Qj.O w8 a8 c8 LK
    clear hr8 LK qt)
  |fail
 go_ret2
 exact⟨rfl,F8.O⟩
theorem BE(w:World):Calls Tryz.prog 10 (vS n) w λ e w'=>e= .returned (.tuple #[.string (cX n),.int .i64 (jC n)])/\Below w w w':=by
 by_cases h1:1099511627776<n
 ·have e1:cX n=⟨#[]⟩:=by unfold cX;rw[if_pos (.inl h1)]
  have e2:jC n=2:=by unfold jC;rw[if_pos h1]
  rw[e1,e2];exact FZ h1 w
 ·have e2:jC n=0:=by unfold jC;rw[if_neg h1]
  by_cases h0:n=0
  ·subst h0
   have e1:cX 0=⟨#[]⟩:=by unfold cX;rw[if_pos (.inr rfl)]
   rw[e1,e2];exact PS w
  ·rw[e2];exact PT ag h0 w
theorem eq_iff(a b:ByteArray):(a.toList==b.toList)=true↔a=b:=by
 rw[ByteArray.toList_eq,ByteArray.toList_eq,beq_iff_eq]
 exact⟨λ h=>ByteArray.ext (Array.toList_inj.mp h), λ h=>by rw[h]⟩
theorem JZ(hs:s.size<=100)(w:World):Calls Tryz.prog 12 #[.string s] w λ e w'=>e= .returned (.tuple #[.int .u64 (uT s:Nat),.int .i64 (uU s)])/\Below w w w':=by
 have oP:∀pos,Below w w (w.iter s pos):= λ pos=>(Below.refl _ w).alloc (aW) _
 refine(PO cX jC (λ w w'=>Below w w w') (λ _=>True) s hs w (λ pos=>trivial) (λ n w _ _=>BE w)).mono λ e w' hh=>?_
 obtain⟨pos,hb,rfl⟩:=hh
 refine⟨?_,(oP pos).T (hb.mono (oP pos).size)⟩
 simp only[eq_iff]
 unfold uT uU
 split<;>rfl
theorem Th(h:uU s≠0):uU s=310:=by
 unfold uU at h⊢
 split at h
 ·exact absurd rfl h
 ·rename_i hh;rw[if_neg hh]
end
end Go.Proofs.YtkgapncajjafoaaGreatDoor

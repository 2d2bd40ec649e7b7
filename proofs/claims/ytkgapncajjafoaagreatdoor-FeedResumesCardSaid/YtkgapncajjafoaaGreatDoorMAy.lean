/- FeedResumes: for every row of deeds and every two numbers the law returns true, and its arguments read behind the call as they read before; conditions: none but the statement's own. -/
import Derived.Test.YtkgapncajjafoaaGreatDoorMAa
import Derived.Test.YtkgapncajjafoaaGreatDoorMAt
import Derived.Test.YtkgapncajjafoaaGreatDoorMAu
import Derived.Test.YtkgapncajjafoaaGreatDoorMAs
import Derived.Carry
set_option linter.unusedSimpArgs false
set_option linter.unusedVariables false
set_option maxRecDepth 100000
set_option maxHeartbeats 16000000
namespace Go.Proofs.YtkgapncajjafoaaGreatDoor
open Go.RowKit Go.Shelf
section
attribute [local go_sem] Oper.semAt_some
attribute [-go_sem] Builtin.append_
theorem P5{V:World}{ez acR k2 c1 nA nB:Nat}{a1 a2:Option Addr}{A B:List aG}(hA:nA=A.length)(hB:nB=B.length)(h1:V.ownsRow ez 56 5 (.slice a1 nA c1) nA (A.flatMap eQ))(h2:V.ownsRow acR 56 5 (.slice a2 nB k2) nB (B.flatMap eQ))(hl:nA<=1000)(oD:nB<=1000):
 ∃a3 c3 w7,(Builtin.append_ #[44,44] 44 (jF a1 nA nA a2 nB k2)).run Tryz.prog V= .ok (.slice a3 (nA+nB) c3) w7/\bj eQ 5 w7 a3 (A++B)/\Below V V w7:=by
 obtain⟨i0,hi,gQ,fq,mx⟩:=info_parts tE
 by_cases h0:nB=0
 ·subst h0
  have hb:B=[]:=List.eq_nil_of_length_eq_zero hB.symm
  subst hb
  refine⟨a1,nA,V,?_,by rw[List.append_nil];exact bj.gX h1 iG bd,dp⟩
  have h5:(nA:Int)<=(nA:Int):=Int.le_refl _
  rcases ay h2 with⟨rfl,_,rfl⟩|⟨g,cur,rfl,_,_⟩
  ·rcases ay h1 with⟨rfl,h,_⟩|⟨g,cur,rfl,_,_⟩<;>
   simp[Builtin.append_,run_underlying (show Tryz.prog.underlying 44=some (.slice 56)by kernel_rfl),sizeOf,typeInfo,hi,Builtin.lenOf,Builtin.firstCells,loadCells,loadCellsFrom,storeCells]
  ·rcases ay h1 with⟨rfl,h,_⟩|⟨g,cur,rfl,_,_⟩<;>
   simp[Builtin.append_,run_underlying (show Tryz.prog.underlying 44=some (.slice 56)by kernel_rfl),sizeOf,typeInfo,hi,Builtin.lenOf,Builtin.firstCells,loadCells,loadCellsFrom,storeCells]
 ·obtain⟨g2,rfl,eU⟩:∃g,a2=some ⟨g,0,none⟩/\∀(j:Nat) (v:Value),(B.flatMap eQ)[j]? =some v->V.cell? ⟨g,j,none⟩=some v:=by
   rcases pW h2 with h|⟨g,rfl, -, -,hc⟩
   ·exfalso
    cases B with
    |nil=>exact h0 hB
    |cons x B=>rw[List.flatMap_cons]at h;have:=(List.append_eq_nil_iff.1 h).1;cases this
   ·exact⟨g,rfl,hc⟩
  have qq:∀l:List aG,(l.flatMap eQ).length=l.length*5:= λ l=>by
   induction l with
   |nil=>rfl
   |cons x l ih=>rw[List.flatMap_cons,List.length_append,ih,List.length_cons,iG];omega
  obtain⟨cap,w7,bt, -,ax,hb⟩:=lL (P:=Tryz.prog) 44 56 (.agg MG) 5 40 aO tE rfl (W:=V) a1 nA (A.flatMap eQ) (by rw[qq,hA])
   (by
     rcases pW h1 with h|⟨g,rfl, -, -,hc⟩
     ·rcases ay h1 with⟨rfl,h',_⟩|⟨g,cur,rfl,_,_⟩
      ·exact .inl ⟨rfl,h'⟩
      ·exact .inr ⟨_,rfl, λ j v hv=>by rw[h]at hv;simp at hv⟩
     ·exact .inr ⟨_,rfl, λ j v hv=>by rw[Addr.add_mid,Nat.zero_add];exact hc j v hv⟩)
   ⟨g2,0,none⟩ nB k2 (B.flatMap eQ) (by rw[qq,hB]) (λ j v hv=>by rw[Addr.add_mid,Nat.zero_add];exact eU j v hv) ag ag bd
  exact⟨_,cap,w7,bt,bj.gX (n₀:=V.heap.size) (k:=nA+nB) (c:=cap) (by rw[List.flatMap_append];exact ax) iG bd,hb⟩
theorem F2{w:World}{a:Option Addr}{c:Nat}{ds:List gr}(h:bj BB 4 w a ds)(hc:ds.length<=c)(Da:c<140737488355328)(gW:∀d∈ds,IH d)(f g:Nat):
 Calls Tryz.prog 7 #[.slice a ds.length c,.int .u8 (f:Int),.int .u8 (g:Int)] w λ e w'=>e= .returned (.bool true)/\Below w w w':=by
 have Fq:=af (λ (V:World) (hV:Below w w V)=>BC (h.below hV) hc Da gW)
 obtain⟨K,hK⟩:=aK ds.length
 rw[<-hK]at Fq⊢
 have dD:(1:Int)<=1+(f:Int)%9:=ag
 have fu:(1:Int)<=1+(g:Int)%9:=ag
 have HN:=cj dD fu
 clear h hc Da gW hK dD fu
 go_enter Tryz.func7,Tryz.ntmps7
 go_wp2_with first
  |((with_reducible refine(Mg _).mono ?_);rintro e w1 ⟨rfl,aQ⟩;have HL1:=af (Fq.O w1 aQ);have cZ:=af aQ;clear aQ)
  |((with_reducible refine HL1.O.mono ?_);rintro e w2 ⟨b,la,cf,ps,a1,d1,c1,a2,d2,c2,q,lc,es,rfl,hL,hA,hr,aC⟩
    obtain⟨L,PJ⟩:=aK es.length
    rw[<-PJ]
    obtain⟨B,hB⟩:=aK w2.heap.size
    obtain⟨w3,cL⟩:=aK (w2.alloc (.cells (iI b ps.length cf a1 d1 c1 a2 d2 c2 q la L lc) 46))
    have aL:Below w2 w2 w3:=by rw[cL];go_grown
    have C1:w3.heap[B]? =some (.cells (iI b ps.length cf a1 d1 c1 a2 d2 c2 q la L lc) 46):=by rw[cL,hB];exact World.alloc_heap_new _ _
    have PV:w3.rangeAt B 0 (cK b ps.length cf):=bp (o:=0) [] (cK b ps.length cf) (uW a1 d1 c1 a2 d2 c2 q la L lc) (aj C1)
    have PX:w3.rangeAt B 5 (cw a1 d1 c1 a2 d2 c2 q):=bp (o:=0) (cK b ps.length cf) (cw a1 d1 c1 a2 d2 c2 q) [.slice la L lc] (aj C1)
    have wZ:=hA.below aL
    have fG:=hL.small
    have ko:q<=1099511627776:=by have h1:q<=_:=fG.1;rw[List.length_take]at h1;omega
    have gM:=wZ.oI.oW
    have PH:es.length<=32:=wZ.oI.many
    have hle:∀x∈es,x.s<=q:= λ x hx=>(wZ.oI.ok x hx).le
    obtain⟨A,hAe⟩:=aK (eS es 0 (1+(f:Int)%9))
    obtain⟨k,hk⟩:=aK (j5 0 A)
    obtain⟨Bb,hBe⟩:=aK (eS es k (1+(g:Int)%9))
    have hAB:eS es 0 (1+(f:Int)%9+(1+(g:Int)%9))=A++Bb:=by rw[Tk gM 0 HN.O.1 HN.O.2,<-hAe,<-hk,<-hBe]
    have hkq:k<=q:=by rw[hk,hAe];exact P3 hle (Nat.zero_le _) _
    have dm:=zn wZ.file wZ.marks wZ.oI ko (k:=0) (Nat.zero_le _) HN.O.1
    have fZ:= λ (V:World) (hV:Below w3 w3 V)=>zn (wZ.file.below hV) wZ.marks wZ.oI ko (k:=k) hkq HN.O.2
    have iU:= λ (V:World) (hV:Below w3 w3 V)=>zn (wZ.file.below hV) wZ.marks wZ.oI ko (k:=0) (Nat.zero_le _) (bX:=1+(f:Int)%9+(1+(g:Int)%9)) (aM HN.O)
    simp only at dm fZ iU
    rw[<-hAe,<-hk,<-J1]at dm
    simp only[<-hBe]at fZ
    simp only[hAB,C2,<-hk,<-J1]at iU
    have hlA:A.length<=32:=by
     rw[hAe];unfold eS;rw[List.length_take]
     have:=List.length_filter_le (λ x:aG=>decide (0<x.s)) es
     omega
    have hlB:Bb.length<=32:=by
     rw[hBe];unfold eS;rw[List.length_take]
     have:=List.length_filter_le (λ x:aG=>decide (k<x.s)) es
     omega
    obtain⟨nA,I7⟩:=aK A.length
    obtain⟨nB,vW⟩:=aK Bb.length
    obtain⟨kB,hkB⟩:=aK (j5 k Bb)
    rw[<-I7]at dm hlA
    simp only[<-vW,<-hkB]at fZ
    rw[<-vW]at hlB
    simp only[List.length_append,<-I7,<-vW,<-hkB]at iU
    unfold aE cU at dm fZ iU
    rw[cL]at dm
    have Ty:=af dm
    have C4:=af fZ
    have um:=af iU
    have adY:(nA:Int)<=32:=ag
    have adZ:(nB:Int)<=32:=ag
    have Xz:=jo I7 vW hlA hlB
    have H3:=cV C1 (cZ.O.T ((aC.T (aL.mono aC.size)).mono cZ.O.size)) hB
    rw[cL,hB]at PV PX
    have mL:=af cL
    clear dm fZ iU hL hA hr aC PJ hB cL aL C1 wZ fG ko gM PH hle hAe hk hBe hAB hkq hlA hlB I7 vW hkB)
  |((with_reducible refine Ty.O.mono ?_);rintro e w4 ⟨x4,k4,rfl,o8,bH⟩
    rw[<-mL.O]at bH
    have IN:=(bH.block _ (aX H3.O.1).1).T H3.O.1
    have PY:w4.rangeAt B 0 (cK b ps.length cf):=bp (o:=0) [] (cK b ps.length cf) (uW a1 d1 c1 a2 d2 c2 q la L lc) (aj IN)
    have PZ:w4.rangeAt B 5 (cw a1 d1 c1 a2 d2 c2 q):=bp (o:=0) (cK b ps.length cf) (cw a1 d1 c1 a2 d2 c2 q) [.slice la L lc] (aj IN)
    rw[H3.O.2.2]at PY PZ
    have DA:(nA:Int)<=(k4:Int):=aM (js o8)
    have H4:=cj bH o8
    clear o8 bH IN PV PX)
  |((with_reducible refine(C4.O _ H4.O.1).mono ?_);rintro e w5 ⟨x5,k5,rfl,Uy,bJ⟩
    have H5:=cV (H4.O.1.T (bJ.mono H4.O.1.size)) (bO.row bJ H4.O.2) Uy
    have IP:=(H5.O.1.block _ (aX H3.O.1).1).T H3.O.1
    have P0:w5.rangeAt B 0 (cK b ps.length cf):=bp (o:=0) [] (cK b ps.length cf) (uW a1 d1 c1 a2 d2 c2 q la L lc) (aj IP)
    have P1:w5.rangeAt B 5 (cw a1 d1 c1 a2 d2 c2 q):=bp (o:=0) (cK b ps.length cf) (cw a1 d1 c1 a2 d2 c2 q) [.slice la L lc] (aj IP)
    rw[H3.O.2.2]at P0 P1
    clear Uy bJ IP PY PZ)
  |((with_reducible refine(um.O _ H5.O.1).mono ?_);rintro e w6 ⟨x6,k6,rfl,ho6,fD⟩
    have H6:=cj (H5.O.1.T (fD.mono H5.O.1.size)) ho6
    obtain⟨x7,k7,w7,bt,hr7,mv⟩:=P5 Xz.O.1 Xz.O.2.1 (bO.row fD H5.O.2.1) (bO.row fD H5.O.2.2) (aM Xz.O) (aM Xz.O)
    have H7:=cV (H6.O.1.T (mv.mono H6.O.1.size)) hr7 ((bj.gX ho6 iG bd).below mv)
    clear ho6 fD P0 P1 hr7 mv)
  |(refine et 46 ?_)
  |(refine bh 37 ?_)
  |(refine bh 43 ?_)
  |fail
 clear bt DA
 go_loopw [106] (λ iv wr=>∃j:Nat,j<=nA+nB/\iv= .int .i64 (j:Int)/\Hid (Below w7 w7 wr)) (λ iv _=>nA+nB - (intOf iv).toNat)
 case atStart=>exact⟨0,Nat.zero_le _,rfl,af (dp)⟩
 case round=>
  obtain⟨j,hj,rfl,hB⟩:=hrel
  by_cases bg:j<nA+nB
  ·obtain⟨y,hy⟩:∃y,(A++Bb)[j]? =some y:=⟨_,List.getElem?_eq_getElem (by rw[List.length_append];have:=Xz.O;omega)⟩
   obtain⟨B1,o1,Ij⟩:=H7.O.2.1.some_ (by rw[List.length_append];have:=Xz.O;omega)
   obtain⟨B2,o2,hA2⟩:=H7.O.2.2.some_ (by rw[List.length_append];have:=Xz.O;omega)
   obtain⟨wx,oH⟩:=aK (wr.alloc (.cells (se y.s (aU y.id) y.g y.m y.del) 56))
   have ey:Below wr wr wx:=by rw[oH];go_grown
   have qz:wx.heap[wr.heap.size]? =some (.cells (se y.s (aU y.id) y.g y.m y.del) 56):=jJ oH
   have XA:Below w7 w7 wx:=hB.O.T (ey.mono hB.O.size)
   have Dj:w7.rangeAt B1 (o1+j*5) (eQ y):=by
    have h1:=H7.O.2.1
    rw[Ij]at h1;exact h1.get hy
   have abz:w7.rangeAt B2 (o2+j*5) (eQ y):=by
    have h1:=H7.O.2.2
    rw[hA2]at h1;exact h1.get hy
   have Lu:=fQ Dj hB.O
   obtain⟨c0,c1,c2,c3,c4⟩:=uP (fQ abz XA)
   obtain⟨k0,k1,k2,k3,k4'⟩:=gF qz
   have Mh:= λ W=>SY (y.s:Int) (y.g:Int) (y.m:Int) (aU y.id) y.del W
   have C9:Hid (Below w7 w7 wx.drew):=af XA.drew
   have gy:(j:Int)<(nA:Int)+(nB:Int):=ag
   subst Ij hA2
   unfold eQ at Lu
   rw[oH]at c0 c1 c2 c3 c4 k0 k1 k2 k3 k4' C9
   clear hy Dj abz bg oH ey qz XA
   go_wp2_with first
    |(refine bh 56 ?_)
    |(refine et 56 ?_)
    |fail
   refine bP 6 ?_
   refine tP [0,1,2,3,4,5] ?_
   iterate 6 refine tO ?_
   refine ah 0 rfl ?_
   refine dP ?_
   go_simp
   go_wp2_with fail
   exact⟨⟨j+1,ag,by simp,C9⟩,by simp[intOf];omega⟩
  ·obtain rfl:nA+nB=j:=ag
   have HE:=af (H3.O.2.1.T ((H7.O.1.T (hB.O.mono H7.O.1.size)).mono H3.O.2.1.size))
   go_wp2_with fail
   go_ret
   exact⟨rfl,HE.O⟩
end
section
open Go.ChangeShapes Go.WideShapes Go.ChangeAt Go.RowKit
namespace fRes
theorem laidOut:laidOutB Tryz.prog=true:=aO
theorem params7:Tryz.f7.params.toList=[33,5,5]:=aO
theorem P6(H:Type)(enc:TypeId×Value->H)(W:World)(base:Nat)(args:Array Value)(ds gs:List (DataW H))(before:List MemPlace)
 (Am:∀(j:Nat) t v,Tryz.f7.params[j]? =some t->args[j]? =some v->Value.okWide Tryz.prog W .any base t v)
 (hW:DataW.Whole enc Tryz.prog Tryz.f7.params.toList Rows.feedResumesSpec.vars false W args.toList ds gs before)
 (jr:(DataW.weightsEach Tryz.prog (Tryz.f7.params.toList++(OpenSpec.ofChange Rows.feedResumesSpec).bare.plain.varTypes Tryz.prog) (ds++gs)).all (·<=reachBytes)=true):
 Calls Tryz.prog 7 args W λ e W'=>∃v,e= .returned v/\Rows.feedResumesSpec.post enc Tryz.prog Tryz.f7 false true false false W args v W':=by
 have hW':=hW
 have bg:= λ x hx=>hW.lt x hx
 obtain⟨p,q,hA0,hV,rfl,hfz,CV⟩:=hW
 have hA:DataW.TrodAll enc Tryz.prog W 0 (λ _=>true) true Tryz.f7.params.toList args.toList ds p:=hA0
 have acS:Tryz.f7.params=#[33,5,5]:=aO
 rw[params7]at hA jr
 rw[acS]at Am
 obtain⟨v0,vs0,d0,ds0,p0,q0,To,rfl,rfl,h0,r0⟩:=trodAll_cons hA
 obtain⟨v1,vs1,d1,ds1,p1,q1,abB,rfl,rfl,h1,r1⟩:=trodAll_cons r0
 obtain⟨v2,vs2,d2,ds2,p2,q2,abC,rfl,rfl,h2,r2⟩:=trodAll_cons r1
 obtain⟨rfl,rfl,rfl⟩:=trodAll_nil r2
 obtain rfl:args=#[v0,v1,v2]:=by cases args;simp_all
 obtain⟨rfl,rfl⟩:=trodVars_none hV
 obtain⟨f,rfl,rfl,rfl,hwf⟩:=open_int Tryz.underlying5 (Am 1 _ v1 rfl rfl) h1
 obtain⟨g,rfl,rfl,rfl,hwg⟩:=open_int Tryz.underlying5 (Am 2 _ v2 rfl rfl) h2
 obtain⟨a,c,l,rfl,hr,F5,Da,gW⟩:=II (Am 0 _ v0 rfl rfl) h0 (λ n hn=>by
  have:=List.all_eq_true.1 jr n (by
   simp only[List.cons_append,DataW.weightsEach]
   exact List.mem_append_left _ hn)
  simpa using this)
 clear hA0
 have h8:∀n:Int,(Lit.int .u8 n).wf=true->∃k:Nat,n=(k:Int):= λ n h=>by
  simp only[Lit.wf,Bool.and_eq_true,decide_eq_true_eq]at h
  have e1:IntKind.u8.min=0:=by decide
  exact Int.eq_ofNat_of_zero_le ag
 obtain⟨f,rfl⟩:=h8 f hwf
 obtain⟨g,rfl⟩:=h8 g hwg
 refine(F2 hr F5 Da gW f g).mono λ e W' ⟨he,hb⟩=>?_
 subst he
 have hsh:DataW.TrodAll enc Tryz.prog W' 0 (λ b=>decide (b<W.heap.size)) true Tryz.f7.params.toList [.slice a l.length c,.int .u8 (f:Int),.int .u8 (g:Int)] [d0,.lit (.int .u8 (f:Int)),.lit (.int .u8 (g:Int))] (p0++([]++([]++[]))):=by
  rw[params7]
  exact trodAll_cons_mk (Below.trod laidOut aO (of_decide_eq_true aO) h0 hb (λ x hx=>bg x (by simp[hx]))) (trodAll_cons_mk (shut_int Tryz.underlying5 hwf) (trodAll_cons_mk (shut_int Tryz.underlying5 hwg) trodAll_mk0))
 refine⟨_,rfl,MQ hW' (λ _ _ _=>trodAll_cons_mk (shut_bool Tryz.underlying4 _) trodAll_mk0) ?_ rfl hb⟩
 rw[show p0++([]++([]++[]))++[]=p0++([]++([]++[]))from List.append_nil _]
 exact hsh
end fRes
namespace fRes
noncomputable def J2:Array Value:=#[.slice none 0 0,.int .u8 0,.int .u8 0]
theorem P7(os:Os):laidMet Tryz.prog Rows.feedResumesRow.laid ((tR os).forCall (λ _ _=>0) ⟨#[],J2,[]⟩).memory:=
 laidMet_of_run' 8 aO aO
theorem reads(os:Os){H:Type}(enc:TypeId×Value->H):∃places,DataW.whole enc Tryz.prog ((tR os).forCall (λ _ _=>0) ⟨#[],J2,[]⟩).memory Tryz.f7.params.toList Rows.feedResumesSpec.vars false J2.toList 8=some ([.nil,.lit (.int .u8 0),.lit (.int .u8 0)],[],places):=
 ⟨[],aO⟩
theorem lifted(os:Os)(started:os.Started)(H:Type)(enc:TypeId×Value->H)(F:Stop.Interp):
 ReturnsInHanded {} Tryz.checked os 7 .any ((OpenSpec.ofChange Rows.feedResumesSpec).preRow enc Tryz.prog Tryz.f7 Rows.feedResumesRow.domain false Rows.feedResumesRow.laid) (((OpenSpec.ofChange Rows.feedResumesSpec).at F).post enc Tryz.prog Tryz.f7 false true false false):=by
 obtain⟨places,hx⟩:=reads os enc
 refine returnsInHanded_of_row (C:=Tryz.checked) (s:=OpenSpec.ofChange Rows.feedResumesSpec) own started aO Tryz.func7
  (witness_row_at (enc:=enc) (C:=Tryz.checked) false (tR os) J2 rfl aO aO aO
    (OpenSpec.preRow_of_cond 8 hx aO (λ k hk=>by cases hk) aO (P7 os))) ?_
 intro W base args ds gs before Am hW _ _ jr _ _ _
 exact P6 H enc W base args ds gs before Am hW jr
theorem aas:Tryz.pinned.checked.prog.funcNamed Rows.feedResumesRow.func=some 7:=aO
theorem Tl:joinedFacts Tryz.pinned.checked.prog 7 Tryz.f7 (OpenSpec.ofChange Rows.feedResumesSpec).bare Rows.feedResumesRow=true:=aO
theorem aat:Tryz.f7.isInstance Tryz.pinned.checked.prog Rows.feedResumesRow.origin Rows.feedResumesRow.targs:=of_decide_eq_true aO
theorem aau:Tryz.f7.isWrapper Tryz.pinned.checked.prog Rows.feedResumesRow.wrapper Rows.feedResumesRow.mainSum:=by
 unfold Func.isWrapper;first|(rw[if_pos (by decide+kernel)];kernel_rfl)|(rw[if_neg (by decide+kernel)];exact⟨rfl,rfl⟩)
theorem said:Rows.FeedResumesSaid:=
 OpenClaim.holds_of_cond 7 Tryz.f7 rfl rfl rfl rfl rfl rfl rfl ⟨rfl,rfl,rfl,rfl,rfl⟩ rfl rfl rfl rfl rfl aas Tryz.func7 Tl aat aau
  (λ os started H enc _ F=>by rw[OpenClaim.pre_eq_preRow];exact lifted os started H enc F)
theorem plain(f:FuncId)(fn:Func)(hf:Tryz.pinned.checked.prog.funcNamed "davenport/davenportlaw21.FeedResumes" =some f)(Za:Tryz.pinned.checked.prog.funcs[f]? =some fn):
 true=Tryz.pinned.checked.prog.looks []/\∀(j:Nat) t,fn.params[j]? =some t->Tryz.pinned.checked.prog.wantsStandIn t=false:=by
 obtain rfl:f=7:=Option.some.inj ((show Tryz.prog.funcNamed "davenport/davenportlaw21.FeedResumes" =some 7 by kernel_rfl).symm.T hf)|>.symm
 obtain rfl:fn=Tryz.f7:=(Option.some.inj (Tryz.func7.symm.T Za)).symm
 refine⟨aO, λ j t ht=>?_⟩
 rw[show Tryz.f7.params=#[33,5,5]by kernel_rfl]at ht
 have ht':t=33\/t=5:=by simpa using Array.mem_of_getElem? ht
 rcases ht' with rfl|rfl
 ·exact(show Tryz.prog.wantsStandIn 33=false by kernel_rfl)
 ·exact(show Tryz.prog.wantsStandIn 5=false by kernel_rfl)
theorem acT:Rows.FeedResumesCardSaid:=
 Claim7.holds_tied_plain_at .later [] _ _ _ _ said (λ _ h=>by cases h) aO (λ _ h=>by cases h) feedResumes_row_tie rfl ⟨rfl,rfl⟩ aO rfl plain aO
end fRes
theorem feedResumes_holds:Rows.FeedResumesCardSaid:=fRes.acT
#print axioms feedResumes_holds
end
end Go.Proofs.YtkgapncajjafoaaGreatDoor

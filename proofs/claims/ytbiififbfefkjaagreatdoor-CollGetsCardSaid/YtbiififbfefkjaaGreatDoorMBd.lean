/- CollGets: for every collection that is made by hand and every id the law returns true, and its arguments read behind the call as they read before; conditions: none but the statement's own. -/
import Derived.Test.YtbiififbfefkjaaGreatDoorMBc
set_option linter.unusedSimpArgs false
set_option linter.unusedVariables false
set_option maxRecDepth 100000
set_option maxHeartbeats 16000000
namespace Go.Proofs.YtbiififbfefkjaaGreatDoor
open Go.RowKit Go.Shelf
variable{v:Value}
section
open Go.ChangeShapes Go.WideShapes Go.ChangeAt Go.RowKit
namespace fGet
theorem laidOut:laidOutB Tryz.prog=true:=bU
theorem params7:Tryz.f3.params.toList=[26,9]:=bU
theorem aiC{a b c:Value}(h:v.cells.toList=[a,b,c]):v= .agg #[a,b,c]:=by
 cases v with
 |agg cs=>
  have h:cs.toList=[a,b,c]:=h;rw[<-h]
 |_=>simp[Value.cells]at h
theorem acd{n:Int}(h:(Lit.int .u64 n).wf=true):∃k:Nat,n=(k:Int)/\k<18446744073709551616:=by
 simp only[Lit.wf,bQ,decide_eq_true_eq]at h;have e1:IntKind.u64.min=0:=by decide
 have e2:IntKind.u64.max=18446744073709551615:=by decide
 obtain⟨k,rfl⟩:=Int.eq_ofNat_of_zero_le (show 0<=n by omega);exact⟨k,rfl,an⟩
theorem Q1{H:Type}{enc:TypeId×Value->H}{W:World}{d:DataW H}{p:List MemPlace}(h:DataW.Trod enc Tryz.prog W 0 (λ _=>true) true 26 v d p)(hw:∀n∈DataW.weights Tryz.prog 26 d,n<=reachBytes):
 ∃(da fa:az) (cd cf M:Nat) (ks:List Yo) (fs:List Int),v= .agg (O9 da ks.length cd M fa fs.length cf)/\cV knR 5 W da ks/\ks.length<=cd/\cd<140737488355328/\(∀x∈ks,Yp x)/\M<18446744073709551616/\rL W fa fs/\fs.length<4611686018427387904:=by
 obtain⟨fuel,hf⟩:=h;obtain⟨y0,y1,y2,m,hx,hl,h0,h1,h2⟩:=Go.Deep.trod_struct3 Tryz.underlying26 hf;rw[show Tryz.prog.cellsOf 26=3 by kernel_rfl]at hl;obtain⟨c0,c1,c2,hc⟩:∃c0 c1 c2,v.cells.toList=[c0,c1,c2]:=by
  match hv:v.cells.toList,hl with
  |[c0,c1,c2],_=>exact⟨c0,c1,c2,rfl⟩
 have yS:=aiC hc;rw[hc]at h0 h1 h2;have g0:DataW.trod enc Tryz.prog W 0 (λ _=>true) true m 22 [c0]=some y0:=by simpa[show Tryz.prog.cellsOf 22=1 by kernel_rfl]using h0
 have g1:DataW.trod enc Tryz.prog W 0 (λ _=>true) true m 23 [c1]=some y1:=by simpa[show Tryz.prog.cellsOf 23=1 by kernel_rfl]using h1
 have g2:DataW.trod enc Tryz.prog W 0 (λ _=>true) true m 24 [c2]=some y2:=by simpa[show Tryz.prog.cellsOf 24=1 by kernel_rfl]using h2
 have hd:d= .agg [y0.1,y1.1,y2.1]:=congrArg Prod.fst hx;have hws:(∀n∈DataW.weights Tryz.prog 22 y0.1,n<=reachBytes)/\∀n∈DataW.weights Tryz.prog 24 y2.1,n<=reachBytes:=by
  rw[hd,DataW.weights,Tryz.underlying26]at hw;simp only[DataW.weightsEach,aG]at hw;constructor
  ·intro n hn;exact hw n (by simp[DataW.weightsEach,hn])
  ·intro n hn;exact hw n (by simp[DataW.weightsEach,hn])
 haveI:Inhabited Yo:=⟨⟨⟨#[]⟩,0,0,false,0⟩⟩;have hr:reachBytes<140737488355328:=by decide
 obtain⟨da,cd,ks,e0,r0,l0,k0,q0⟩:=OH (f:=knR) (Q:=knQ) (sz:=5) (byt:=40) bU bU de (λ _=>rfl) bU de (λ h=>QK h) g0 hws.1;obtain⟨fa,cf,fs,e2,r2,l2,k2,q2⟩:=OH (f:=acu) (Q:= λ x _=> -9223372036854775808<=x/\x<9223372036854775808) (sz:=1) (byt:=8) bU bU de (λ _=>rfl) bU de (λ h=>Ys h) g2 hws.2;obtain⟨k,e1, -,hk⟩:=iD Tryz.underlying23 g1;cases e0;cases e1;cases e2;obtain⟨k,rfl,u9⟩:=acd hk;refine⟨da,fa,cd,cf,k,ks,fs,yS,r0,l0,k0, λ x hx=>?_,u9,⟨r2, λ x hx=>?_⟩,an⟩
 ·obtain⟨D,⟨a1,a2,a3,a4,y,z,u,rfl⟩,hw⟩:=q0 x hx;refine⟨?_,a1,a2,a3,a4⟩;have:=hw x.id.size (by
   rw[DataW.weights,Tryz.underlying68];simp[DataW.weightsEach,DataW.weights])
  omega
 ·obtain⟨D,h,_⟩:=q2 x hx;exact h
theorem YU(H:Type)(enc:TypeId×Value->H)(W:World)(base:Nat)(args:Array Value)(ds gs:List (DataW H))(before:List MemPlace)
 (Eg:∀(j:Nat) t v,Tryz.f3.params[j]? =some t->args[j]? =some v->Value.okWide Tryz.prog W .any base t v)
 (hW:DataW.Whole enc Tryz.prog Tryz.f3.params.toList Rows.collGetsSpec.vars false W args.toList ds gs before)
 (kA:(DataW.weightsEach Tryz.prog (Tryz.f3.params.toList++(OpenSpec.ofChange Rows.collGetsSpec).bare.plain.varTypes Tryz.prog) (ds++gs)).all (·<=reachBytes)=true):
 Calls Tryz.prog 3 args W λ e W'=>∃v,e= .returned v/\Rows.collGetsSpec.post enc Tryz.prog Tryz.f3 false true false false W args v W':=by
 have hW':=hW;have cL:= λ x hx=>hW.lt x hx;obtain⟨p,q,hA0,hV,rfl,hfz,QS⟩:=hW;have hA:DataW.TrodAll enc Tryz.prog W 0 (λ _=>true) true Tryz.f3.params.toList args.toList ds p:=hA0;have aiD:Tryz.f3.params=#[26,9]:=bU;rw[params7]at hA kA;rw[aiD]at Eg;obtain⟨v0,vs0,d0,ds0,p0,q0,aa5,rfl,rfl,h0,r0⟩:=trodAll_cons hA;obtain⟨v1,vs1,d1,ds1,p1,q1,agN,rfl,rfl,h1,r1⟩:=trodAll_cons r0;obtain⟨rfl,rfl,rfl⟩:=trodAll_nil r1;obtain rfl:args=#[v0,v1]:=by cases args;simp_all
 obtain⟨rfl,rfl⟩:=trodVars_none hV;obtain⟨s1,rfl,rfl,rfl,bY⟩:=Go.ChangeMaps.open_string Tryz.underlying9 (Eg 1 _ v1 rfl rfl) h1;have LZ:∀n,n∈DataW.weights Tryz.prog 26 d0\/n=s1.size->n<=reachBytes:= λ n hn=>by
  have:=fI.1 kA n (by
   simp only[bS,DataW.weightsEach];rcases hn with hn|rfl
   ·exact cG _ hn
   ·exact cM _ (cG _ (by simp[DataW.weights])))
  simpa using this
 obtain⟨da,fa,cd,cf,M,ks,fs,rfl,b1,b2,b3,b4,b5,b6,b7⟩:=Q1 h0 (λ n hn=>LZ n (.inl hn));have hr:reachBytes<140737488355328:=by decide
 have gC:=LZ _ (.inr rfl);clear hA0;refine(YT b1 b2 b3 b4 b5 b6 b7 s1 an).mono λ e W' ⟨he,hb⟩=>?_;subst he;have hsh:DataW.TrodAll enc Tryz.prog W' 0 (λ b=>decide (b<W.heap.size)) true Tryz.f3.params.toList (aa4 (.agg (O9 da ks.length cd M fa fs.length cf)) s1) [d0,.lit (.string s1.data.toList)] (p0++([]++[])):=by rw[params7];exact trodAll_cons_mk (Below.trod laidOut bU (of_decide_eq_true bU) h0 hb (λ x hx=>cL x jz)) (trodAll_cons_mk (Go.ChangeMaps.shut_string Tryz.underlying9 bY) trodAll_mk0)
 refine⟨_,rfl,Vn hW' (λ _ _ _=>trodAll_cons_mk (shut_bool Tryz.underlying4 _) trodAll_mk0) ?_ rfl hb⟩;rw[show p0++([]++[])++[]=p0++([]++[])from cj _];exact hsh
end fGet
namespace fGet
noncomputable def Sl:Array Value:=#[.agg #[.slice none 0 0,.int .u64 0,.slice none 0 0],.string ⟨#[]⟩]
theorem YV(os:Os):laidMet Tryz.prog Rows.collGetsRow.laid ((B8 os).forCall (λ _ _=>0) ⟨#[],Sl,[]⟩).memory:=
 laidMet_of_run' 8 bU bU
theorem reads(os:Os){H:Type}(enc:TypeId×Value->H):∃places,DataW.whole enc Tryz.prog ((B8 os).forCall (λ _ _=>0) ⟨#[],Sl,[]⟩).memory Tryz.f3.params.toList Rows.collGetsSpec.vars false Sl.toList 8=some ([.agg [.nil,.lit (.int .u64 0),.nil],.lit (.string [])],[],places):=
 ⟨[],bU⟩
theorem lifted(os:Os)(started:os.Started)(H:Type)(enc:TypeId×Value->H)(F:Stop.Interp):
 ReturnsInHanded {} Tryz.checked os 3 .any ((OpenSpec.ofChange Rows.collGetsSpec).preRow enc Tryz.prog Tryz.f3 Rows.collGetsRow.domain false Rows.collGetsRow.laid) (((OpenSpec.ofChange Rows.collGetsSpec).at F).post enc Tryz.prog Tryz.f3 false true false false):=by
 obtain⟨places,hx⟩:=reads os enc;refine returnsInHanded_of_row (C:=Tryz.checked) (s:=OpenSpec.ofChange Rows.collGetsSpec) own started bU Tryz.func3
  (witness_row_at (enc:=enc) (C:=Tryz.checked) false (B8 os) Sl rfl bU bU bU
    (OpenSpec.preRow_of_cond 8 hx bU (λ k hk=>by cases hk) bU (YV os))) ?_
 intro W base args ds gs before Eg hW _ _ kA _ _ _;exact YU H enc W base args ds gs before Eg hW kA
theorem aeR:Tryz.pinned.checked.prog.funcNamed Rows.collGetsRow.func=some 3:=bU
theorem aaV:joinedFacts Tryz.pinned.checked.prog 3 Tryz.f3 (OpenSpec.ofChange Rows.collGetsSpec).bare Rows.collGetsRow=true:=bU
theorem aeS:Tryz.f3.isInstance Tryz.pinned.checked.prog Rows.collGetsRow.origin Rows.collGetsRow.targs:=of_decide_eq_true bU
theorem aeT:Tryz.f3.isWrapper Tryz.pinned.checked.prog Rows.collGetsRow.wrapper Rows.collGetsRow.mainSum:=by unfold Func.isWrapper;first|(rw[if_pos (by decide+kernel)];kernel_rfl)|(rw[if_neg (by decide+kernel)];exact⟨rfl,rfl⟩)
theorem said:Rows.CollGetsSaid:=
 OpenClaim.holds_of_cond 3 Tryz.f3 rfl rfl rfl rfl rfl rfl rfl ⟨rfl,rfl,rfl,rfl,rfl⟩ rfl rfl rfl rfl rfl aeR Tryz.func3 aaV aeS aeT
  (λ os started H enc _ F=>by rw[OpenClaim.pre_eq_preRow];exact lifted os started H enc F)
theorem plain(f:FuncId)(fn:Func)(hf:Tryz.pinned.checked.prog.funcNamed "davenport/davenportlaw20.CollGets" =some f)(hfn:Tryz.pinned.checked.prog.funcs[f]? =some fn):
 true=Tryz.pinned.checked.prog.looks []/\∀(j:Nat) t,fn.params[j]? =some t->Tryz.pinned.checked.prog.wantsStandIn t=false:=by
 obtain rfl:f=3:=fp ((show Tryz.prog.funcNamed "davenport/davenportlaw20.CollGets" =some 3 by kernel_rfl).symm.T hf)|>.symm;obtain rfl:fn=Tryz.f3:=(fp (Tryz.func3.symm.T hfn)).symm;refine⟨bU, λ j t ht=>?_⟩;rw[show Tryz.f3.params=#[26,9]by kernel_rfl]at ht;have ht':t=26\/t=9:=by simpa using dR ht
 rcases ht' with rfl|rfl
 ·exact(show Tryz.prog.wantsStandIn 26=false by kernel_rfl)
 ·exact(show Tryz.prog.wantsStandIn 9=false by kernel_rfl)
theorem aiE:Rows.CollGetsCardSaid:=
 Claim7.holds_tied_plain_at .later [] _ _ _ _ said (λ _ h=>by cases h) bU (λ _ h=>by cases h) collGets_row_tie rfl ⟨rfl,rfl⟩ bU rfl plain bU
end fGet
theorem collGets_holds:Rows.CollGetsCardSaid:=fGet.aiE
end
end Go.Proofs.YtbiififbfefkjaaGreatDoor

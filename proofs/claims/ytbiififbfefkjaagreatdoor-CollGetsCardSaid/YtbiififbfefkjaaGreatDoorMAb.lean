/- The store, part 2. -/
import Derived.Test.YtbiififbfefkjaaGreatDoorMAa
import Derived.Test.YtbiififbfefkjaaGreatDoorCards
import Derived.Test.YtbiififbfefkjaaGreatDoorTie
set_option linter.unusedSimpArgs false
set_option linter.unusedVariables false
set_option maxRecDepth 100000
set_option maxHeartbeats 16000000
namespace Go.Proofs.YtbiififbfefkjaaGreatDoor
open Go.RowKit Go.Shelf
variable{W W':World}{v:Value}{all p:List Nat}{at_ B c M:Nat}{t:TypeId}
section
open Go.ChangeShapes Go.WideShapes Go.ChangeAt Go.RowKit
theorem own:ownKnob Tryz.prog.godebug=none:=bU
theorem Z7(h:Below W W W')(may:MemPlace->Prop):W.keptBut W' may:=by refine⟨h.os,h.output, λ i hi=>?_⟩;have:=(World.keptBut_refl W may).2.2 i hi;rw[h.block i hi];exact this
variable {H : Type} {enc : TypeId × Value -> H}
theorem Vn{P:Program}{f:Func}{s:ChangeSpec}{fresh handsOn:Bool}{args:Array Value}{ds gs:List (DataW H)}{before:List MemPlace}
 (hW:DataW.Whole enc P f.params.toList s.vars false W args.toList ds gs before)
 (vt:∀(b:Nat) (sp:Nat->Bool) (hd:Bool),DataW.TrodAll enc P W' b sp hd f.resultTypes.toList (v.resultList f.resultTypes.size) (s.fn H (ds++gs)).results [])
 (aa5:DataW.TrodAll enc P W' 0 (λ b=>decide (b<W.heap.size)) true f.params.toList args.toList (s.fn H (ds++gs)).args before)
 (aeg:DataW.TrodVars enc P W' (λ b=>decide (b<W.heap.size)) s.vars (s.fn H (ds++gs)).vars [])
 (hk:Below W W W'):
 s.post enc P f false fresh handsOn false W args v W':=
 ⟨ds,gs,before,[],before,[],hW,vt _ _ _,aa5,aeg,Z7 hk _, λ h=>by cases h⟩
noncomputable def B8 (os:Os):World:=
 {World.holding Tryz.prog os ⟨#[],#[],[]⟩with heap:=(World.holding Tryz.prog os ⟨#[],#[],[]⟩).heap.modify 1 λ
  | .cells _ t frozen=>.cells Q2 t frozen
  |o=>o}
end
def DN(s x:Nat):Nat:=if s%2=x then s/2 else(s/2)^^^2197175160
theorem Z8{s x:Nat}(h:s<4294967296):DN s x<4294967296:=by
 unfold DN;split
 ·omega
 ·exact fX (n:=32) an de
theorem qU{p:Prop}(h:p:=by
 exact⟨congrArg (λ v:Int=>Ending.returned (.int .u32 v)) He.O.symm,rfl⟩
 ):p:=h
theorem Z9(s x:Nat)(hs:s<4294967296)(w:World):Calls Tryz.prog 131 (vk s x) w λ e w'=>e= .returned (.int .u32 (DN s x:Nat))/\w'=w:=by
 have hxo:bits .xor .u32 ((s:Int)/2) 2197175160=((s/2^^^2197175160:Nat):Int):=u32_xor_nat (s/2) 2197175160 an de;by_cases h:s%2=x
 ·have h2:(s:Int)%2=x:=an;have e:((DN s x:Nat):Int)=(s:Int)/2:=by unfold DN;rw[if_pos h];omega
  have He:=ag e;clear e h hxo;go_enter Tryz.func131,Tryz.ntmps131;go_wp2;go_ret;exact qU
 ·have h2:¬ (s:Int)%2=x:=an;have e:((DN s x:Nat):Int)=((s/2^^^2197175160:Nat):Int):=by unfold DN;rw[if_neg h]
  have He:=ag e;clear e h;go_enter Tryz.func131,Tryz.ntmps131;go_wp2;go_ret;exact qU
def mw(s c:Nat):Nat->Nat
 |0=>s
 |k+1=>DN (mw s c k) (c/2^k%2)
def mx(s:Nat)(xs:List Nat):Nat:=xs.foldl (λ s c=>mw s c 8) s
theorem Cb{s c:Nat}(h:s<4294967296):∀k,mw s c k<4294967296
 |0=>h
 |k+1=>Z8 (Cb h k)
theorem Cc:∀(xs:List Nat) (s:Nat),s<4294967296->mx s xs<4294967296
 |[],s,h=>h
 |x::xs,s,h=>Cc xs _ (Cb h 8)
theorem Md(s:Nat)(xs:List Nat)(x:Nat):mx s (xs++[x])=mw (mx s xs) x 8:=by simp[mx]
theorem Sz(s:Nat)(xs:List Nat)(B o c:Nat)(w:World)(hs:s<4294967296)(hx:∀x∈xs,x<256)(hl:xs.length<1000000)
 (qT:∀(j:Nat) (x:Nat),xs[j]? =some x->w.cell? (za B (o+j))=some (.int .u8 (x:Int))):
 Calls Tryz.prog 93 #[.int .u32 (s:Int),.slice (some ⟨B,o,none⟩) xs.length c] w λ e w'=>e= .returned (.int .u32 (mx s xs:Nat))/\w'=w:=by
 have Hc:=ag qT;have Hx:=ag hx;have Hs:=ag hs;clear qT hx hs;go_enter Tryz.func93,Tryz.ntmps93;go_wp2
 go_loopw [0,5] (λ v i wr=>∃k:Nat,k<=xs.length/\i= .int .i64 (k:Int)/\v= .int .u32 (mx s (xs.take k):Nat)/\wr=w) (λ _ i _=>xs.length - (intOf i).toNat)
 case atStart=>exact⟨0,aD _,rfl,rfl,rfl⟩
 case round=>
  obtain⟨k,hk,rfl,rfl,rfl⟩:=hrel;have ha:=Cc (xs.take k) s Hs.O;by_cases cL:k<xs.length
  ·obtain⟨x,Pe⟩:∃x,xs[k]? =some x:=⟨xs[k],by simp[cL]⟩;have Ca:=Hc.O k x Pe;have Mc:x<256:=Hx.O x (ak Pe);have Hn:=ag (show mx s (xs.take (k+1))=mw (mx s (xs.take k)) x 8 by rw[aL,Pe];exact Md _ _ _);clear Pe;generalize mx s (xs.take k)=a at ha Hn;go_wp2
   go_loopw [0,6,7] (λ v c j wr2=>∃m:Nat,m<=8/\j= .int .i64 (m:Int)/\v= .int .u32 (mw a x m:Nat)/\c= .int .u32 (x/2^m:Nat)/\wr2=wr) (λ _ _ j _=>8 - (intOf j).toNat)
   case atStart=>exact⟨0,aD _,rfl,rfl,by simp,rfl⟩
   case round=>
    obtain⟨m,hm,rfl,rfl,rfl,rfl⟩:=hrel;have hb:=Cb (c:=x) ha m;have hd:x/2^m<256:=Nat.lt_of_le_of_lt (jM _ _) Mc;have Hm:=ag (show mw a x (m+1)=DN (mw a x m) (x/2^m%2)from rfl);have Hd:=ag (show x/2^(m+1)=x/2^m/2 by rw[cK,cQ]);have h8:m=8->mw a x m=mw a x 8:= λ h=>by rw[h]
    have H8:=ag h8;clear h8;generalize mw a x m=b at hb Hm H8;generalize x/2^m=d at hd Hm Hd;by_cases hm8:m<8
    ·have ae6:∀w:World,Calls Tryz.prog 131 #[.int .u32 (b:Int),.int .u32 ((d:Int)%2)] w λ e w'=>e= .returned (.int .u32 (DN b (d%2):Nat))/\w'=w:= λ w=>by
      rw[show(d:Int)%2=((d%2:Nat):Int)by omega];exact Z9 b (d%2) hb w
     have HB:=ag ae6;clear ae6
     go_wp2_with first
      |(with_reducible refine(HB.O _).mono ?_;rintro e w2 ⟨rfl,rfl⟩)
      |fail
     exact⟨⟨m+1,an,rfl,by rw[Hm.O],by rw[Hd.O];rfl,trivial⟩,by simp[intOf];omega⟩
    ·have G5:m=8:=an;have Hk:=ag G5;clear G5;go_wp2;refine⟨⟨k+1,an,rfl,?_,trivial⟩,by simp[intOf];omega⟩;rw[Hn.O,H8.O Hk.O]
  ·have YX:=ag (show xs.take k=xs from aY an);go_wp2;go_ret;exact⟨congrArg (λ v:Nat=>Ending.returned (.int .u32 (v:Int))) (congrArg (mx s) YX.O),rfl⟩
theorem Q7(s c:Nat):∀k,Mb k (s^^^c)=mw s c k^^^(c/2^k)
 |0=>by simp[Mb,mw]
 |k+1=>by
  have ih:=Q7 s c k;have e:c/2^(k+1)=c/2^k/2:=by rw[cK,cQ]
  show AD (Mb k (s^^^c))=DN (mw s c k) (c/2^k%2)^^^(c/2^(k+1));rw[ih,e];generalize mw s c k=b;generalize c/2^k=r;have h1:AD (b^^^r)=(b^^^r)/2^^^((b^^^r)%2*2197175160):=rfl;have h2:(b^^^r)/2=b/2^^^r/2:=by have:=Nat.shiftRight_xor_distrib (a:=b) (b:=r) (i:=1);simpa[Nat.shiftRight_succ]using this
  have h3:(b^^^r)%2=(b+r)%2:=by
   have h4:(b^^^r)%2=(b%2)^^^(r%2):=by simpa using Nat.xor_mod_two_pow (a:=b) (b:=r) (n:=1)
   rw[h4];rcases gK b with h5|h5<;>rcases gK r with h6|h6<;>rw[h5,h6]
   ·show 0=(b+r)%2;omega
   ·show 1=(b+r)%2;omega
   ·show 1=(b+r)%2;omega
   ·show 0=(b+r)%2;omega
  rw[h1,h2,h3];unfold DN;by_cases h:b%2=r%2
  ·rw[if_pos h,show(b+r)%2=0 by omega];simp
  ·rw[if_neg h,show(b+r)%2=1 by omega,Nat.one_mul,Nat.xor_assoc,Nat.xor_assoc,Nat.xor_comm (r/2)]
theorem I2:∀(xs:List Nat) (s:Nat),(∀x∈xs,x<256)->mx s xs=mv s xs
 |[],s,_=>rfl
 |x::xs,s,h=>by
  have hx:x/2^8=0:=jb (h x cP);have e:=Q7 s x 8;rw[hx,Nat.xor_zero]at e;show mx (mw s x 8) xs=mv (Mb 8 (s^^^x)) xs;rw[e];exact I2 xs _ λ y hy=>h y kj
theorem Cd(s:Nat)(h:s<4294967296):fm s=4294967295 - s:=by
 have e1:(~~~(BitVec.ofNat 32 s)).toNat=4294967295 - s:=by rw[BitVec.toNat_not,BitVec.toNat_ofNat,cl h]
 have e2:(BitVec.allOnes 32^^^BitVec.ofNat 32 s).toNat=4294967295^^^s:=by rw[BitVec.toNat_xor,BitVec.toNat_allOnes,BitVec.toNat_ofNat,cl h]
 rw[BitVec.not_def,e2]at e1;exact e1
theorem SA(xs:List Nat)(B o c:Nat)(w:World)(hx:∀x∈xs,x<256)(hl:xs.length<1000000)
 (qT:∀(j:Nat) (x:Nat),xs[j]? =some x->w.cell? (za B (o+j))=some (.int .u8 (x:Int))):
 Calls Tryz.prog 55 (zq2 (some ⟨B,o,none⟩) xs.length c) w λ e w'=>e= .returned (.int .u32 (fm (mv (fm 0) xs):Nat))/\w'=w:=by
 have ht:Calls Tryz.prog 93 #[.int .u32 4294967295,.slice (some ⟨B,o,none⟩) xs.length c] w λ e w'=>e= .returned (.int .u32 (mx 4294967295 xs:Nat))/\w'=w:=Sz 4294967295 xs B o c w de hx hl qT;have cL:=Cc xs 4294967295 de;have he:fm (mv (fm 0) xs)=4294967295 - mx 4294967295 xs:=by rw[<-I2 xs (fm 0) hx,show fm 0=4294967295 from rfl,Cd _ cL]
 have he2:((fm (mv (fm 0) xs):Nat):Int)=4294967295 - ((mx 4294967295 xs:Nat):Int):=by rw[he];omega
 have He:=ag he2;have Ht:=ag ht;clear ht he he2 qT hx;generalize mx 4294967295 xs=t at*;go_enter Tryz.func55,Tryz.ntmps55
 go_wp2_with first
  |(with_reducible refine Ht.O.mono ?_;rintro e w1 ⟨rfl,rfl⟩)
  |fail
 go_ret;exact qU
def Y5:Nat->List Nat->List (Nat×Nat)
 |_,[]=>[]
 |j,x::l=>if j%64=0 then Y5 (j+1) l else(j,x)::Y5 (j+1) l
theorem VI(n:Nat)(bs cs:List Nat)(x:Nat):ny n (bs++cs) x=bs++ny (n+bs.length) cs x:=by unfold ny;rw[ar,<-bh];split<;>simp
theorem Jd(n:Nat):∀(xs bs cs:List Nat),xs.foldl (ny n) (bs++cs)=bs++xs.foldl (ny (n+bs.length)) cs
 |[],_,_=>rfl
 |x::xs,bs,cs=>by simp only[cD,VI];exact Jd n xs bs _
theorem pd(n x:Nat)(xs:List Nat):ed n (x::xs)=ny n [] x++ed (n+(ny n [] x).length) xs:=by have:=Jd n xs (ny n [] x) [];simpa[ed]using this
theorem rj(n x:Nat):ny n [] x=if n%64=0 then[0,x]else[x]:=by unfold ny;simp;split<;>simp
theorem Kj(yU:List Nat):∀(xs:List Nat) (n:Nat),(Y5 n (ed n xs++yU)).map Prod.snd=xs++(Y5 (n+(ed n xs).length) yU).map Prod.snd
 |[],n=>by simp[ed]
 |x::xs,n=>by
  rw[pd,aS,rj];by_cases h:n%64=0
  ·have h1:¬ (n+1)%64=0:=an;have ih:=Kj yU xs (n+2);simp only[h,if_true,bS,bn,aK,bK,Y5,h1,if_false,bF,ar,aN];rw[show n+1+1=n+2 by omega,show n+(1+1)=n+2 by omega,ih,show n+(ed (n+2) xs).length.succ.succ=n+2+(ed (n+2) xs).length by omega]
  ·have ih:=Kj yU xs (n+1);simp only[h,if_false,bS,bn,aK,bK,Y5,bF,ar,aN];rw[ih,show n+(ed (n+1) xs).length.succ=n+1+(ed (n+1) xs).length by omega]
theorem Cl:∀(xs:List Nat) (n i x:Nat),(ed n xs)[i]? =some x->(n+i)%64=0->x=0
 |[],n,i,x,h,_=>by simp[ed]at h
 |y::xs,n,i,x,h,hm=>by
  rw[pd,rj]at h;by_cases h0:n%64=0
  ·simp only[h0,if_true,bS,bn,aK,bK]at h
   match i,h,hm with
   |0,h,_=>simpa using h.symm
   |1,_,hm=>omega
   |i+2,h,hm=>exact Cl xs (n+2) i x jy (by rw[<-hm];congr 1;omega)
  ·simp only[h0,if_false,bS,bn,aK,bK]at h
   match i,h,hm with
   |0,h,hm=>omega
   |i+1,h,hm=>exact Cl xs (n+1) i x jy (by rw[<-hm];congr 1;omega)
theorem yj(h:Marks all)(xs:List Nat):Marks (all++ed all.length xs):= λ i hi x hx=>by
 by_cases hl:i<all.length
 ·rw[cO hl]at hx;exact h i hi x hx
 ·rw[bJ an]at hx;exact Cl xs all.length (i - all.length) x hx (by rw[show all.length+(i - all.length)=i by omega];exact hi)
theorem Kk:∀(xs:List Nat) (n:Nat),(∀x∈xs,x<256)->∀y∈ed n xs,y<256
 |[],n,_,y,hy=>by simp[ed]at hy
 |x::xs,n,h,y,hy=>by
  rw[pd,aG,rj]at hy;rcases hy with hy|hy
  ·have:=h x cP;split at hy<;>simp at hy<;>omega
  ·exact Kk xs _ (λ z hz=>h z (by simp[hz])) y hy
theorem Mq(n x:Nat)(xs:List Nat):1<=(ed n (x::xs)).length:=by rw[pd,ar,rj];split<;>simp<;>omega
theorem Re(n:Nat){xs:List Nat}(h:1<=xs.length):ed n xs≠[]:=by
 cases xs with
 |nil=>simp at h
 |cons x xs=>intro e;have:=Mq n x xs;rw[e]at this;simp at this
def gL(all:List Nat)(at_:Nat):List (Nat×Nat):=Y5 at_ (all.drop at_)
def iy(all:List Nat)(at_:Nat)(p:List Nat):Prop:=
 1<=p.length/\p.length<=4096/\(∀x∈p,x<256)/\∃pre yU,all=pre++ed pre.length (ft p)++yU/\at_=db pre.length
theorem iy.more(h:iy all at_ p)(m:List Nat):iy (all++m) at_ p:=by obtain⟨h1,h2,h3,pre,yU,rfl,h5⟩:=h;exact⟨h1,h2,h3,pre,yU++m,by simp,h5⟩
theorem qM(p:List Nat):(ft p).length=6+p.length:=by simp[ft,sV,Q4];omega
theorem ym(p:List Nat):∃y ys,ft p=y::ys:=⟨_,_,rfl⟩
theorem iy.new(all p:List Nat)(h1:1<=p.length)(h2:p.length<=4096)(h3:∀x∈p,x<256):iy (all++ed all.length (ft p)) (db all.length) p:=
 ⟨h1,h2,h3,all,[],by simp,rfl⟩
theorem iy.Fk(h:iy all at_ p):at_%64≠0:=by obtain⟨_,_,_,pre,yU,_,rfl⟩:=h;unfold db;split<;>omega
theorem iy.lt(h:iy all at_ p):at_<all.length:=by obtain⟨h1,_,_,pre,yU,rfl,rfl⟩:=h;obtain⟨y,ys,e⟩:=ym p;rw[e,pd,rj];unfold db;split<;>simp<;>omega
theorem iy.behind(h:iy all at_ p):∃more,(gL all at_).map Prod.snd=ft p++more:=by
 obtain⟨h1,_,_,pre,yU,rfl,rfl⟩:=h;have hu:=Kj yU (ft p) pre.length;refine⟨_,Eq.T ?_ hu⟩;congr 1;unfold gL;obtain⟨y,ys,e⟩:=ym p;rw[aS,e,pd,rj];unfold db;by_cases h0:pre.length%64=0
 ·simp only[h0,if_true];rw[kR,dM an];simp[Y5,h0]
 ·simp only[h0,if_false];rw[kR,dM an];simp
theorem VJ(all:List Nat)(j:Nat)(h:j<all.length):gL all j=if j%64=0 then gL all (j+1)else(j,all[j])::gL all (j+1):=by unfold gL;rw[bI h,Y5]
theorem Kl(all:List Nat)(j:Nat)(h:all.length<=j):gL all j=[]:=by unfold gL;rw[dM h,Y5]
section
attribute [local go_sem] Oper.semAt_some
def ac7(x:Nat×Nat):Array Value:=#[.int .i64 (x.1:Int),.int .u8 (x.2:Int)]
theorem dF{b:az}{k:Nat}{fz:Nat×Nat}(h:W.heap[B]? =some (.cells (fA b k c) t fz)):
 W.cell? (za B 0)=some (.slice none 0 0)/\W.cell? (za B 1)=some (.slice b k c)/\W.cell? (za B 2)=some (.int .i64 (-1))/\W.cell? (za B 3)=some (.int .i64 (-1))/\W.cell? (za B 4)=some (.bool false):=by
 refine⟨?_,?_,?_,?_,?_⟩<;>simp[World.cell?,h]
theorem dx{fz:Nat×Nat}(h:W.heap[B]? =some (.cells #[v] t fz)):W.cell? (za B 0)=some v:=by simp[World.cell?,h]
theorem Mu{w0:World}{b:az}{ps:List Piece}(hF:aQ w0 b c ps)(hm:Marks (aw ps))(at_:Nat)(UF:at_%64≠0)(cL:at_<(aw ps).length)
 (X:Nat->Prop)(B B1 B2:Nat)(w:World)(yJ:Below w0 w0 w)
 (cN:w.heap[B1]? =some (.cells (fA b ps.length c) 31))
 (bG:w.heap[B2]? =some (.cells (Ih at_) 3))
 (gC:Safe X B w B1)(lH:Safe X B w B2)(hX:∀k,X k->k<w.heap.size)(hB:B<w.heap.size)(hr:∀k,rowOf B w=some k->k<w.heap.size):
 SI Tryz.prog 206 (oR (zp B1) (zp B2)) ac7 (Lets w0 X B) (λ _=>False) (λ _=>True) (gL (aw ps) at_) w:=by
 intro n l J Jx W hn qy hJ hJx hY h0;have hFW:=hF.below (yJ.T (qy.mono yJ.size));have jN:=hF.small;obtain⟨all,jB⟩:=bL (aw ps);rw[<-jB]at cL hm jN hY⊢;obtain⟨N,hN⟩:∃N:Nat,N=all.length:=⟨_,rfl⟩;rw[<-hN]at cL jN;have HL:Hid (∀(m:Nat) (w2:World),Below w0 w0 w2->CallsIn Fence.wide m Tryz.prog 149 (BX (.agg (fA b ps.length c))) w2 λ e w'=>e= .returned (.int .i64 (N:Int))/\Below w2 w2 w'):=
  ag λ m w2 h=>callsIn_wide.2 (by have:=VA (hF.below h);rw[<-jB,<-hN]at this;exact this)
 have HR:Hid (∀(m q k:Nat) (w2:World),Below w0 w0 w2->1<=k->q+k<=N->CallsIn Fence.wide m Tryz.prog 186 #[.agg (fA b ps.length c),.int .i64 (q:Int),.int .i64 (k:Int)] w2 λ e w'=>∃C o cp,e= .returned (.tuple (Lz (some ⟨C,o,none⟩) k cp))/\w2.heap.size<=C/\(∀(j x:Nat),((all.drop q).take k)[j]? =some x->w'.cell? (za C (o+j))=some (.int .u8 (x:Int)))/\Below w2 w2 w'):=
  ag λ m q k w2 h h1 h2=>by
   refine callsIn_wide.2 ?_;have:=Mo (hF.below h) q k h1 (by rw[<-jB,<-hN];exact h2);refine this.mono ?_;rintro e w' ⟨a,kk,rfl,hk,sk,nH,hB⟩;rw[<-jB]at sk;rcases sk.2 with h|⟨C,o,rfl,hc⟩
   ·have:=congrArg List.length h;simp at this;omega
   ·exact⟨C,o,kk,rfl,nH _ rfl,hc,hB⟩
 have ac8:=(qy.block B1 (cS cN).1).T cN;have ac9:=(qy.block B2 (cS bG).1).T bG;have hrw:rowOf B W=rowOf B w:=iO (qy.block B hB);have HS1:Hid (Safe X B W B1):=ag ⟨gC.1,gC.2.1,by rw[hrw];exact gC.2.2⟩;have VM:Hid (Safe X B W B2):=ag ⟨lH.1,lH.2.1,by rw[hrw];exact lH.2.2⟩;have HXX:Hid (∀k,X k->k<W.heap.size):=ag λ k h=>aA (hX k h) qy.size;have HBB:Hid (B<W.heap.size):=ag (aA hB qy.size);have O0:Hid (∀k,rowOf B W=some k->k<W.heap.size):=ag λ k h=>aA (hr k (hrw▸h)) qy.size;have HN0:Hid (w0.heap.size<=W.heap.size):=ag (aj yJ.size qy.size);have Hb1:=ag ac8;have Hb2:=ag ac9;have HJ:=ag hJ;have HY:=ag hY;have Hm:=ag hm;have HN:=ag hN;have Mv:Hid (Below w0 w0 W):=ag (yJ.T (qy.mono yJ.size));obtain⟨c0,c1,c2,c3,c4⟩:=dF ac8;have d0:=dx ac9;obtain⟨r,It⟩:∃r,r=at_%64:=⟨_,rfl⟩;obtain⟨q0,Rf⟩:=bL (at_ - r);have e1:(at_:Int).tmod 64=(r:Int):=by rw[dm an];omega
 have e2:(at_:Int) - (r:Int)=(q0:Int):=an;have e3:((r:Int)==0)=false:=dU;have e4:decide (N<=at_)=false:=dU;have e0:decide ((at_:Int)<0)=false:=by simp
 have e6:(q0:Int)<=524288:=an;have py:q0%64=0:=an;have pK:q0<at_:=an;have yV:at_<q0+64:=an;have HQ:=oT py pK yV cL;clear It Rf py pK yV UF hF yJ qy cN bG ac8 ac9 gC lH hX hB hr hrw hJ hJx hY hm hFW jB hN cL;refine callsIn_of_wp Tryz.func206 rfl trivial ?_ rfl;simp only[Tryz.ntmps206,UD,Nat.reduceAdd,Nat.reduceSub]
 gi_wp2_with first
  |((refine⟨True.intro, λ _=>an,?_⟩);(with_reducible refine(HL.O _ _ Mv.O).mono ?_);rintro e w2 ⟨rfl,bG⟩;replace c0:=carry bG c0;replace c1:=carry bG c1;replace c2:=carry bG c2;replace c3:=carry bG c3;replace c4:=carry bG c4;replace d0:=carry bG d0;have H2:=ag bG;clear bG)
  |fail
 have hL0:Lets w0 X B W w2:=Lets.bH H2.O HBB.O HN0.O;have LD:Hid (J [] w2):=ag (HJ.O _ _ _ h0 (iB.bH H2.O));have HL0:=ag hL0;clear hL0 h0
 gi_loopw [5] (λ fr wr=>∃(q:Nat) (pre:List (Nat×Nat)),fr= .int .i64 (q:Int)/\q%64=0/\q0<=q/\q<=N+64/\Hid (gL all at_=pre++gL all (max at_ q))/\Hid (J pre wr)/\Hid (Lets w0 X B W wr)) (λ fr _=>N+64 - (intOf fr).toNat)
 case atStart=>exact⟨q0,[],rfl,HQ.O.1,cH,by have:=HQ.O;omega,ag (by rw[Nat.max_eq_left (cm HQ.O.2.1)];rfl),LD,HL0⟩
 case round=>
  obtain⟨q,pre,rfl,ada,hqq,hqN,Ko,hJp,hLp⟩:=hrel;have k1:=dF (hLp.O.mo HS1.O Hb1.O);have k2:=dx (hLp.O.mo VM.O Hb2.O);obtain⟨c0,c1,c2,c3,c4⟩:=k1;have d0:=k2;by_cases ae9:q<N
  ·obtain⟨m,hm⟩:=bL (min 64 (N - q));have hmn:min 64 ((N:Int) - (q:Int))=(m:Int):=an;have Mg:1<=m:=an;have SC:q+m<=N:=an;have HR':=HR.O;have bY:IntKind.i64.wrap ((N:Int) - (q:Int))=(N:Int) - (q:Int):=by rw[aI];omega
   obtain⟨i0,vw⟩:=bL (max (at_ - q) 1);have yV:=HQ.O.2.2.1;have py:=HQ.O.1;have I0:=HQ.O.2.2.2;have pK:=HQ.O.2.1;have Kb:max ((at_:Int) - (q:Int)) 1=(i0:Int):=an;have fH:IntKind.i64.wrap ((at_:Int) - (q:Int))=(at_:Int) - (q:Int):=by rw[aI];omega
   have DP:1<=i0:=an;have Y1:i0<=m:=an;have ma:gL all (max at_ q)=gL all (q+i0):=by
    by_cases ha:at_<q
    ·rw[Nat.max_eq_right an,VJ all q (by rw[<-HN.O];exact ae9),if_pos ada,show i0=1 by omega]
    ·rw[Nat.max_eq_left an,show q+i0=at_ by omega]
   have mq:gL all (q+m)=gL all (max at_ (q+64)):=by
    rw[Nat.max_eq_right an];by_cases h:m=64
    ·rw[h]
    ·rw[Kl all (q+m) (by rw[<-HN.O];omega),Kl all (q+64) (by rw[<-HN.O];omega)]
   have Hst:=ag ma;have ag3:=ag mq;have Hm':=ag hm;have adb:=ag ada;clear ma mq hm vw pK yV HR' ada I0 py
   gi_wp2_with first
    |((refine⟨True.intro, λ _=>an,?_⟩);(with_reducible refine(HR.O _ q m _ ?_ Mg SC).mono ?_);(exact Mv.O.T hLp.O.below);rintro e w3 ⟨C,o,cp,rfl,hC,Av,cu⟩;replace c0:=carry cu c0;replace c1:=carry cu c1;replace c2:=carry cu c2;replace c3:=carry cu c3;replace c4:=carry cu c4;replace d0:=carry cu d0;have H3:=ag cu;have SJ:=ag Av;have hz:w3.cell? ⟨C,o,none⟩=some (.int .u8 0):=Av 0 0 (by rw[bB,fi];have j5:q<all.length:=(by rw[<-HN.O];exact ae9);rw[if_pos an,bb,aB j5];exact congrArg some (Hm.O q adb.O _ (aB j5)));have hmi:(0:Int)<(m:Int):=an;have aiS:0<m:=Mg;clear Av cu)
    |fail
   have Cm:Lets w0 X B wr w3:=Lets.bH H3.O (aA HBB.O hLp.O.size) (aj HN0.O hLp.O.size);have ue:=ag (hLp.O.T Cm);have HJ3:Hid (J pre w3):=ag (HJ.O _ _ _ hJp.O (iB.bH H3.O));have HSC:Hid (Safe X B w3 C):=ag (Ms H3.O (λ h=>iX (HXX.O _ h) hLp.O.size) (aA HBB.O hLp.O.size) (hLp.O.lt O0.O) hC);clear Cm
   gi_loopw [8] (λ iv wr2=>∃(i:Nat) (Iu:List (Nat×Nat)),iv= .int .i64 (i:Int)/\i0<=i/\i<=m/\Hid (gL all at_=Iu++gL all (q+i))/\Hid (J Iu wr2)/\Hid (Lets w0 X B w3 wr2)) (λ iv _=>m - (intOf iv).toNat)
   case atStart=>exact⟨i0,pre,rfl,cH,Y1,ag (by rw[Ko.O,Hst.O]),HJ3,ag (Lets.refl _ _ _ _)⟩
   case round=>
    obtain⟨i,Iu,rfl,hii,him,ade,afa,adf⟩:=hrel;by_cases afb:i<m
    ·have hqi:q+i<all.length:=by rw[<-HN.O];omega
     obtain⟨x,Rg⟩:∃x,all[q+i]? =some x:=⟨_,aB hqi⟩;have hx:gL all (q+i)=(q+i,x)::gL all (q+i+1):=by rw[VJ all _ hqi,if_neg (iX adb.O Hm'.O)];rw[aB hqi]at Rg;cases Rg;rfl
     have Ca:w3.cell? (za C (o+i))=some (.int .u8 (x:Int)):=SJ.O i _ (by rw[bB,if_pos afb,fi,Rg]);have hcw:=adf.O.Mr (p:=(za C (o+i))) HSC.O Ca;have mD:Iu++[(q+i,x)]<+:gL all at_:=⟨gL all (q+i+1),by rw[ade.O,hx];simp⟩;obtain⟨f1,t1,a1,b1,tt,YZ⟩:=HY.O Iu (q+i,x) wr afa.O mD;have hen:ac7 (q+i,x)=#[.int .i64 ((q:Int)+(i:Int)),.int .u8 (x:Int)]:=by simp[ac7]
     rw[hen]at tt;have vx:(q:Int)+(i:Int)<=1048576:=an;have Hx:=ag hx;have ag4:=ag mD;have aiT:(i:Int)<(m:Int):=an;clear hx hqi Ca mD hen Rg
     gi_wp2_with fail
     refine⟨λ _=>an,YZ.mono ?_⟩;rintro e w5 (⟨rfl,hJ5,Mw⟩|⟨rfl,BO,Mw⟩)
     ·gi_wp2_with fail
      go_roundw
      case rel=>exact⟨i+1,Iu++[(q+i,x)],by simp,an,an,ag (by rw[ade.O,Hx.O];simp[bh]),ag hJ5,ag (adf.O.T Mw)⟩
      case measure=>simp[intOf];omega
     ·gi_wp2_with fail
      refine bodyPost_ret (results_none rfl _ _ _) rfl ?_;exact⟨⟨_,rfl⟩,.inr ⟨_,ag4.O,BO⟩,trivial⟩
    ·have hie:i=m:=an;subst hie
     gi_wp2_with fail
     go_roundw
     case rel=>exact⟨q+64,Iu,by simp,by have:=adb.O;omega,an,an,ag (by rw[ade.O,ag3.O]),afa,ag (ue.O.T adf.O)⟩
     case measure=>simp[intOf];omega
  ·have he:gL all (max at_ q)=[]:=Kl all _ (by rw[<-HN.O];omega);have qw:=ag (show J (gL all at_) wr by rw[Ko.O,he,cj];exact hJp.O);clear he;gi_wp2;go_end0;exact⟨⟨_,rfl⟩,.inl qw.O,trivial⟩
end
section
open Go.MapKept (IsKey)
def sL(W:World)(M:Nat)(l:List (Value×Value)):Prop:=∃(es:Array MapEntry) (clock:Nat),W.heap[M]? =some (.map es clock)/\es.toList.map (λ e=>(e.key,e.val))=l
theorem sL.new(W:World):sL (W.alloc (.map #[] 0)) W []:=⟨#[],0,ai _ _,rfl⟩
theorem sL.same{l:List (Value×Value)}(h:sL W M l)(e:W'.heap[M]? =W.heap[M]?):sL W' M l:=by obtain⟨es,c,h1,h2⟩:=h;exact⟨es,c,e.T h1,h2⟩
theorem sL.below{l:List (Value×Value)}(h:sL W M l)(hb:Below W W W'):sL W' M l:=by obtain⟨es,c,h1,h2⟩:=h;exact⟨es,c,(hb.block M (cS h1).1).T h1,h2⟩
section
variable {P : Program} {W : World} {M T K E : Nat} {d : TypeDesc} {l : List (Value × Value)} {key : Value}
theorem Uk(h:sL W M l)(hT:P.underlying T=some (.map K E))(hK:P.underlying K=some d)(hk:IsKey d key)(jB:∀p∈l,IsKey d p.1){z:Value}(hz:(zeroValue E).run P W= .ok z W)(mr:∀p∈l,p.1≠key)(ok:Bool):
 (Instr.lookup T (.map (some M)) key ok).run P W= .ok (if ok then .tuple #[z,.bool false]else z) W:=by
 obtain⟨es,c,hb,hl⟩:=h;subst hl;rcases jr hk es.toList 0 (λ x hx=>jB _ (aM.2 ⟨x,hx,rfl⟩))with⟨h1,h2⟩|⟨j,e,h1,h2,h3⟩
 ·simp[Instr.lookup,run_underlying hT,iN hb,js hK hk,jU hK h1,hz,Result.andThen]
 ·exact absurd h3 (mr _ (aM.2 ⟨e,ak h2,rfl⟩))
theorem Ul(h:sL W M l)(hT:P.underlying T=some (.map K E))(hK:P.underlying K=some d)(hk:IsKey d key)(jB:∀p∈l,IsKey d p.1)(DQ:∀p∈l,p.1=key->p.2=v)(ve:∃p∈l,p.1=key)(ok:Bool):
 (Instr.lookup T (.map (some M)) key ok).run P W= .ok (if ok then .tuple #[v,.bool true]else v) W:=by
 obtain⟨es,c,hb,hl⟩:=h;subst hl;rcases jr hk es.toList 0 (λ x hx=>jB _ (aM.2 ⟨x,hx,rfl⟩))with⟨h1,h2⟩|⟨j,e,h1,h2,h3⟩
 ·obtain⟨p,hp,hpk⟩:=ve;obtain⟨x,hx,rfl⟩:=aM.1 hp;exact absurd hpk (h2 x hx)
 ·have hv:e.val=v:=DQ (e.key,e.val) (aM.2 ⟨e,ak h2,rfl⟩) h3;simp[Instr.lookup,run_underlying hT,iN hb,js hK hk,jU hK h1,Result.andThen,hv]
theorem aaQ(h:sL W M l)(hT:P.underlying T=some (.map K E))(hK:P.underlying K=some d)(hk:IsKey d key)(jB:∀p∈l,IsKey d p.1)(v:Value)(mr:∀p∈l,p.1≠key):
 ∃o,(Instr.mapUpdate T (.map (some M)) key v).run P W= .ok () (W.putObj M o)/\sL (W.putObj M o) M (l++[(key,v)])/\o.isCells=false/\∃es c,W.heap[M]? =some (.map es c):=by
 obtain⟨es,c,hb,hl⟩:=h;subst hl;rcases jr hk es.toList 0 (λ x hx=>jB _ (aM.2 ⟨x,hx,rfl⟩))with⟨h1,h2⟩|⟨j,e,h1,h2,h3⟩
 ·refine⟨.map (es.push ⟨key,v,c⟩) (c+1),?_,⟨_,_,(MapKept.heap_set hb).1,by simp⟩,rfl,_,_,hb⟩;simp[Instr.mapUpdate,run_underlying hT,iN hb,js hK hk,jU hK h1,MapKept.run_setObj_map _ hb,Result.andThen,World.putObj]
 ·exact absurd h3 (mr _ (aM.2 ⟨e,ak h2,rfl⟩))
end
end
end Go.Proofs.YtbiififbfefkjaaGreatDoor

/- FeedTells: for every row of deeds, every text and every whole number the law returns true, and its arguments read behind the call as they read before; conditions: none but the statement's own. -/
import Derived.Test.YtkgapncajjafoaaGreatDoorMAa
import Derived.Test.YtkgapncajjafoaaGreatDoorMAs
import Derived.Laws.BytesString
import Derived.Laws.Concat
import Derived.Deep.RegionHeld3
import Derived.Test.YtkgapncajjafoaaGreatDoorMAt
import Derived.Test.YtkgapncajjafoaaGreatDoorMAv
import Derived.Carry
set_option linter.unusedSimpArgs false
set_option linter.unusedVariables false
set_option maxRecDepth 100000
set_option maxHeartbeats 16000000
namespace Go.Proofs.YtkgapncajjafoaaGreatDoor
open Go.RowKit Go.Shelf
variable{n:Nat}{s:ByteArray}
theorem aes(c:Nat)(hc:c<16)(w:World):Calls Tryz.prog 25 #[.int .u32 (c:Int)] w λ e w'=>e= .returned (.int .u8 (qD c:Nat))/\w'=w:=by
 by_cases h:(c:Int)<10
 ·have e:qD c=48+c:=by unfold qD;rw[if_pos ag]
  have e2:((qD c:Nat):Int)=48+(c:Int):=ag
  have He:=af e2
  clear e e2
  go_enter Tryz.func25,Tryz.ntmps25
  go_wp2
  go_ret
  exact⟨congrArg (λ v:Int=>Ending.returned (.int .u8 v)) He.O.symm,rfl⟩
 ·have h:(10:Int)<=c:=ag
  have e:qD c=87+c:=by unfold qD;rw[if_neg ag]
  have e2:((qD c:Nat):Int)=97+((c:Int) - 10):=ag
  have He:=af e2
  clear e e2
  go_enter Tryz.func25,Tryz.ntmps25
  go_wp2
  go_ret
  exact⟨congrArg (λ v:Int=>Ending.returned (.int .u8 v)) He.O.symm,rfl⟩
def aez(s x:Nat):Nat:=if s%2=x then s/2 else(s/2)^^^2197175160
theorem afm{s x:Nat}(h:s<4294967296):aez s x<4294967296:=by
 unfold aez;split
 ·omega
 ·exact Nat.xor_lt_two_pow (n:=32) ag bd
theorem afn(s x:Nat)(hs:s<4294967296)(w:World):Calls Tryz.prog 50 (cP s x) w λ e w'=>e= .returned (.int .u32 (aez s x:Nat))/\w'=w:=by
 have hxo:bits .xor .u32 ((s:Int)/2) 2197175160=((s/2^^^2197175160:Nat):Int):=u32_xor_nat (s/2) 2197175160 ag bd
 by_cases h:s%2=x
 ·have h2:(s:Int)%2=x:=ag
  have e:((aez s x:Nat):Int)=(s:Int)/2:=by unfold aez;rw[if_pos h];omega
  have He:=af e
  clear e h hxo
  go_enter Tryz.func50,Tryz.ntmps50
  go_wp2
  go_ret
  exact⟨congrArg (λ v:Int=>Ending.returned (.int .u32 v)) He.O.symm,rfl⟩
 ·have h2:¬ (s:Int)%2=x:=ag
  have e:((aez s x:Nat):Int)=((s/2^^^2197175160:Nat):Int):=by unfold aez;rw[if_neg h]
  have He:=af e
  clear e h
  go_enter Tryz.func50,Tryz.ntmps50
  go_wp2
  go_ret
  exact⟨congrArg (λ v:Int=>Ending.returned (.int .u32 v)) He.O.symm,rfl⟩
def aef(n:Nat):Nat->List UInt8
 |0=>[]
 |k+1=>aef (n/16) k++[UInt8.ofNat (qD (n%16))]
theorem ad7:∀(k n:Nat),(aef n k).length=k
 |0,n=>rfl
 |k+1,n=>by simp[aef,ad7 k]
theorem afH(w:World)(d:Nat):(convert 34 9 (.slice (zp w) 1 1)).run Tryz.prog (w.alloc (.cells (J3 d) 5))= .ok (.string ⟨⟨[UInt8.ofNat d]⟩⟩) (w.alloc (.cells (J3 d) 5)):=by
 have hl:(loadCells ⟨w.heap.size,0,none⟩ 1).run Tryz.prog (w.alloc (.cells (J3 d) 5))= .ok (([(d:Int)].map (Value.int .u8)).toArray) (w.alloc (.cells (J3 d) 5)):=by
  refine run_loadCells_list (P:=Tryz.prog) _ ⟨w.heap.size,0,none⟩ [.int .u8 (d:Int)] λ j v hj=>?_
  match j,hj with
  |0,hj=>
   simp only[List.getElem?_cons_zero,Option.some.injEq]at hj
   subst hj
   have hh:(w.alloc (.cells (J3 d) 5)).heap[w.heap.size]? =some (.cells (J3 d) 5):=by
    show(w.heap.push _)[w.heap.size]? =_
    rw[Array.getElem?_push_size]
   have:=cell_of_one (b:=w.heap.size) hh
   exact this
 rw[run_convert_bytes_string _ 34 9 5 _ 1 1 Tryz.underlying34 Tryz.underlying5 Tryz.underlying9,run_bytesToString _ _ 1 1 [(d:Int)] hl]
 rfl
theorem aem:∀(k n:Nat) (w:World),k<=20->n<18446744073709551616->Calls Tryz.prog 22 #[.int .u64 (n:Int),.int .i64 (k:Int)] w λ e w'=>e= .returned (.string ⟨⟨aef n k⟩⟩)/\Below w w w'
 |0,n,w,_,hn=>by
  have h0:((0:Nat):Int)=0:=rfl
  rw[h0]
  go_enter Tryz.func22,Tryz.ntmps22
  go_wp2
  go_ret
  exact⟨rfl,dp⟩
 |k+1,n,w,hk,hn=>by
  obtain⟨k1,zq⟩:=aK (k+1)
  have hm:(n:Int)/16=((n/16:Nat):Int):=ag
  have hr:(n:Int)%16=((n%16:Nat):Int):=ag
  have ih:∀w:World,Calls Tryz.prog 22 #[.int .u64 ((n:Int)/16),.int .i64 (k:Int)] w λ e w'=>e= .returned (.string ⟨⟨aef (n/16) k⟩⟩)/\Below w w w':= λ w=>by
   rw[hm];exact aem k (n/16) w ag ag
  have hsg:∀w:World,Calls Tryz.prog 25 #[.int .u32 ((n:Int)%16)] w λ e w'=>e= .returned (.int .u8 (qD (n%16):Nat))/\w'=w:= λ w=>by
   rw[hr];exact aes (n%16) ag w
  have hz:(⟨⟨aef (n/16) k⟩⟩:ByteArray).size=k:=ad7 k _
  have HI:=af ih
  have HS:=af hsg
  have zP:¬ (k1:Int)=0:=ag
  have Hf:=af (show aef n k1=aef (n/16) k++[UInt8.ofNat (qD (n%16))]by rw[zq];rfl)
  rw[<-zq]
  clear ih hsg hm hr
  generalize aef (n/16) k=l at*
  generalize qD (n%16)=d at*
  have Ml:= λ w=>afH w d
  go_enter Tryz.func22,Tryz.ntmps22
  go_wp2_with first
   |(with_reducible refine(HI.O _).mono ?_;rintro e w1 ⟨rfl,aQ⟩)
   |(with_reducible refine(HS.O _).mono ?_;rintro e w2 ⟨rfl,rfl⟩)
   |fail
  go_ret
  refine⟨?_,aQ.alloc aQ.size _⟩
  rw[Hf.O]
  exact congrArg (λ b=>Ending.returned (.string b)) (ByteArray.mk_append_mk l [UInt8.ofNat d])
def ad4(s c:Nat):Nat->Nat
 |0=>s
 |k+1=>aez (ad4 s c k) (c/2^k%2)
def ad5(s:Nat)(xs:List Nat):Nat:=xs.foldl (λ s c=>ad4 s c 8) s
theorem aea{s c:Nat}(h:s<4294967296):∀k,ad4 s c k<4294967296
 |0=>h
 |k+1=>afm (aea h k)
theorem aeb:∀(xs:List Nat) (s:Nat),s<4294967296->ad5 s xs<4294967296
 |[],s,h=>h
 |x::xs,s,h=>aeb xs _ (aea h 8)
theorem aeo(s:Nat)(xs:List Nat)(x:Nat):ad5 s (xs++[x])=ad4 (ad5 s xs) x 8:=by simp[ad5]
theorem aeP(s:Nat)(xs:List Nat)(B o c:Nat)(w:World)(hs:s<4294967296)(hx:∀x∈xs,x<256)(hl:xs.length<1000000)
 (xo:∀(j:Nat) (x:Nat),xs[j]? =some x->w.cell? (za B (o+j))=some (.int .u8 (x:Int))):
 Calls Tryz.prog 34 #[.int .u32 (s:Int),.slice (some ⟨B,o,none⟩) xs.length c] w λ e w'=>e= .returned (.int .u32 (ad5 s xs:Nat))/\w'=w:=by
 have Hc:=af xo
 have Hx:=af hx
 have Hs:=af hs
 clear xo hx hs
 go_enter Tryz.func34,Tryz.ntmps34
 go_wp2
 go_loopw [0,5] (λ v i wr=>∃k:Nat,k<=xs.length/\i= .int .i64 (k:Int)/\v= .int .u32 (ad5 s (xs.take k):Nat)/\wr=w) (λ _ i _=>xs.length - (intOf i).toNat)
 case atStart=>exact⟨0,Nat.zero_le _,rfl,rfl,rfl⟩
 case round=>
  obtain⟨k,hk,rfl,rfl,rfl⟩:=hrel
  have ha:=aeb (xs.take k) s Hs.O
  by_cases bg:k<xs.length
  ·obtain⟨x,Y5⟩:∃x,xs[k]? =some x:=⟨xs[k],by simp[bg]⟩
   have xp:=Hc.O k x Y5
   have M5:x<256:=Hx.O x (List.mem_of_getElem? Y5)
   have Hn:=af (show ad5 s (xs.take (k+1))=ad4 (ad5 s (xs.take k)) x 8 by rw[List.take_add_one,Y5];exact aeo _ _ _)
   clear Y5
   generalize ad5 s (xs.take k)=a at ha Hn
   go_wp2
   go_loopw [0,6,7] (λ v c j Zc=>∃m:Nat,m<=8/\j= .int .i64 (m:Int)/\v= .int .u32 (ad4 a x m:Nat)/\c= .int .u32 (x/2^m:Nat)/\Zc=wr) (λ _ _ j _=>8 - (intOf j).toNat)
   case atStart=>exact⟨0,Nat.zero_le _,rfl,rfl,by simp,rfl⟩
   case round=>
    obtain⟨m,hm,rfl,rfl,rfl,rfl⟩:=hrel
    have hb:=aea (c:=x) ha m
    have hd:x/2^m<256:=Nat.lt_of_le_of_lt (Nat.div_le_self _ _) M5
    have Hm:=af (show ad4 a x (m+1)=aez (ad4 a x m) (x/2^m%2)from rfl)
    have Hd:=af (show x/2^(m+1)=x/2^m/2 by rw[Nat.pow_succ,Nat.div_div_eq_div_mul])
    have h8:m=8->ad4 a x m=ad4 a x 8:= λ h=>by rw[h]
    have H8:=af h8
    clear h8
    generalize ad4 a x m=b at hb Hm H8
    generalize x/2^m=d at hd Hm Hd
    by_cases hm8:m<8
    ·have afN:∀w:World,Calls Tryz.prog 50 #[.int .u32 (b:Int),.int .u32 ((d:Int)%2)] w λ e w'=>e= .returned (.int .u32 (aez b (d%2):Nat))/\w'=w:= λ w=>by
      rw[show(d:Int)%2=((d%2:Nat):Int)by omega];exact afn b (d%2) hb w
     have HB:=af afN
     clear afN
     go_wp2_with first
      |(with_reducible refine(HB.O _).mono ?_;rintro e w2 ⟨rfl,rfl⟩)
      |fail
     exact⟨⟨m+1,ag,rfl,by rw[Hm.O],by rw[Hd.O];rfl,trivial⟩,by simp[intOf];omega⟩
    ·have IV:m=8:=ag
     have Hk:=af IV
     clear IV
     go_wp2
     refine⟨⟨k+1,ag,rfl,?_,trivial⟩,by simp[intOf];omega⟩
     rw[Hn.O,H8.O Hk.O]
  ·have Qc:=af (show xs.take k=xs from List.take_of_length_le ag)
   go_wp2
   go_ret
   exact⟨congrArg (λ v:Nat=>Ending.returned (.int .u32 (v:Int))) (congrArg (ad5 s) Qc.O),rfl⟩
theorem aeF(s c:Nat):∀k,Ke k (s^^^c)=ad4 s c k^^^(c/2^k)
 |0=>by simp[Ke,ad4]
 |k+1=>by
  have ih:=aeF s c k
  have e:c/2^(k+1)=c/2^k/2:=by rw[Nat.pow_succ,Nat.div_div_eq_div_mul]
  show xm (Ke k (s^^^c))=aez (ad4 s c k) (c/2^k%2)^^^(c/2^(k+1))
  rw[ih,e]
  generalize ad4 s c k=b
  generalize c/2^k=r
  have h1:xm (b^^^r)=(b^^^r)/2^^^((b^^^r)%2*2197175160):=rfl
  have h2:(b^^^r)/2=b/2^^^r/2:=by
   have:=Nat.shiftRight_xor_distrib (a:=b) (b:=r) (i:=1)
   simpa[Nat.shiftRight_succ]using this
  have h3:(b^^^r)%2=(b+r)%2:=by
   have h4:(b^^^r)%2=(b%2)^^^(r%2):=by simpa using Nat.xor_mod_two_pow (a:=b) (b:=r) (n:=1)
   rw[h4]
   rcases Nat.mod_two_eq_zero_or_one b with h5|h5<;>rcases Nat.mod_two_eq_zero_or_one r with h6|h6<;>rw[h5,h6]
   ·show 0=(b+r)%2;omega
   ·show 1=(b+r)%2;omega
   ·show 1=(b+r)%2;omega
   ·show 0=(b+r)%2;omega
  rw[h1,h2,h3]
  unfold aez
  by_cases h:b%2=r%2
  ·rw[if_pos h,show(b+r)%2=0 by omega];simp
  ·rw[if_neg h,show(b+r)%2=1 by omega,Nat.one_mul,Nat.xor_assoc,Nat.xor_assoc,Nat.xor_comm (r/2)]
theorem aej:∀(xs:List Nat) (s:Nat),(∀x∈xs,x<256)->ad5 s xs=jM s xs
 |[],s,_=>rfl
 |x::xs,s,h=>by
  have hx:x/2^8=0:=Nat.div_eq_of_lt (h x aR)
  have e:=aeF s x 8
  rw[hx,Nat.xor_zero]at e
  show ad5 (ad4 s x 8) xs=jM (Ke 8 (s^^^x)) xs
  rw[e]
  exact aej xs _ λ y hy=>h y (by simp[hy])
theorem aeQ(s:Nat)(h:s<4294967296):dE s=4294967295 - s:=by
 have e1:(~~~(BitVec.ofNat 32 s)).toNat=4294967295 - s:=by
  rw[BitVec.toNat_not,BitVec.toNat_ofNat,Nat.mod_eq_of_lt h]
 have e2:(BitVec.allOnes 32^^^BitVec.ofNat 32 s).toNat=4294967295^^^s:=by
  rw[BitVec.toNat_xor,BitVec.toNat_allOnes,BitVec.toNat_ofNat,Nat.mod_eq_of_lt h]
 rw[BitVec.not_def,e2]at e1
 exact e1
theorem aeR(xs:List Nat)(B o c:Nat)(w:World)(hx:∀x∈xs,x<256)(hl:xs.length<1000000)
 (xo:∀(j:Nat) (x:Nat),xs[j]? =some x->w.cell? (za B (o+j))=some (.int .u8 (x:Int))):
 Calls Tryz.prog 23 #[.int .u32 0,.slice (some ⟨B,o,none⟩) xs.length c] w λ e w'=>e= .returned (.int .u32 (dE (jM (dE 0) xs):Nat))/\w'=w:=by
 have ht:Calls Tryz.prog 34 #[.int .u32 4294967295,.slice (some ⟨B,o,none⟩) xs.length c] w λ e w'=>e= .returned (.int .u32 (ad5 4294967295 xs:Nat))/\w'=w:=aeP 4294967295 xs B o c w bd hx hl xo
 have bg:=aeb xs 4294967295 bd
 have he:dE (jM (dE 0) xs)=4294967295 - ad5 4294967295 xs:=by
  rw[<-aej xs (dE 0) hx,show dE 0=4294967295 from rfl,aeQ _ bg]
 have he2:((dE (jM (dE 0) xs):Nat):Int)=4294967295 - ((ad5 4294967295 xs:Nat):Int):=by rw[he];omega
 have He:=af he2
 have Ht:=af ht
 clear ht he he2 xo hx
 generalize ad5 4294967295 xs=t at*
 go_enter Tryz.func23,Tryz.ntmps23
 go_wp2_with first
  |(with_reducible refine Ht.O.mono ?_;rintro e w1 ⟨rfl,rfl⟩)
  |fail
 go_ret
 exact⟨congrArg (λ v:Int=>Ending.returned (.int .u32 v)) He.O.symm,rfl⟩
def dvK(b:Nat):Nat->Nat
 |0=>16
 |k+1=>if qD k=b then k else dvK b k
theorem afd(b:Nat):∀k,k<=16->dvK b k<=16
 |0,_=>aW
 |k+1,h=>by
  have:=afd b k ag
  unfold dvK;split<;>omega
def rrd:List UInt8->Nat->Option Nat
 |[],n=>some n
 |b::l,n=>if b.toNat=46 then some n else if dvK b.toNat 16=16\/1099511627776<n then none else rrd l (16*n+dvK b.toNat 16)
theorem afo(s:ByteArray)(k:Nat)(h:k<s.size):s.data.toList.drop k=(s[k]'h)::s.data.toList.drop (k+1):=by
 have h':k<s.data.toList.length:=by rw[Array.length_toList];exact h
 rw[List.drop_eq_getElem_cons h']
 rfl
theorem ae7(s:ByteArray)(k:Nat)(h:¬ k<s.size):s.data.toList.drop k=[]:=
 List.drop_eq_nil_of_le (by rw[Array.length_toList];have:s.data.size=s.size:=rfl;omega)
def ad8(T:Nat->ByteArray)(s:ByteArray):Option Nat->Nat×Bool
 |none=>(0,false)
 |some n=>if n=0\/1099511627776<n then(0,false)else if((T n).toList==s.toList)=true then(n,true)else(0,false)
theorem aee(T:Nat->ByteArray)(s:ByteArray)(hs:s.size<=100)(w:World)
 (hT:∀(n:Nat) (w:World),n≠0->n<=1099511627776->Calls Tryz.prog 11 (vS n) w λ e w'=>e= .returned (.string (T n))/\Below w w w')(bS:¬ s.size=0):
 Calls Tryz.prog 13 #[.string s] w λ e w'=>e= .returned (.tuple #[.int .u64 ((ad8 T s (rrd s.data.toList 0)).1:Nat),.bool (ad8 T s (rrd s.data.toList 0)).2])/\Below w w w':=by
 have hse:(s.toList==([]:List UInt8))=false:=by
  rw[ByteArray.toList_eq]
  cases hq:s.data.toList with
  |nil=>exact absurd (show s.data.size=0 by rw[<-Array.length_toList,hq];rfl) bS
  |cons a l=>rfl
 obtain⟨R,hR⟩:=aK (rrd s.data.toList 0)
 rw[<-hR]
 have HR:=af hR
 have HT:=af hT
 clear hR hT bS
 go_enter Tryz.func13,Tryz.ntmps13
 go_wp2
 go_loopw [4,5] (λ v i wr=>∃k n:Nat,k<=s.size/\i= .int .i64 (k:Int)/\v= .int .u64 (n:Nat)/\rrd (s.data.toList.drop k) n=R/\n<281474976710656/\Hid (Below w w wr)) (λ _ i _=>s.size - (intOf i).toNat)
 case atStart=>exact⟨0,0,Nat.zero_le _,rfl,rfl,HR.O.symm,by decide,af (dp)⟩
 case round=>
  obtain⟨k,n,hk,rfl,rfl,hc,hn,HB⟩:=hrel
  clear HR
  by_cases bg:k<s.size
  ·obtain⟨y,hy⟩:∃y,(s[k]'bg).toNat=y:=⟨_,rfl⟩
   have hd:=afo s k bg
   have afY:y<256:=by rw[<-hy];exact UInt8.toNat_lt _
   rw[hd,rrd,hy]at hc
   clear hd
   by_cases h46:y=46
   ·rw[if_pos h46]at hc
    subst h46
    by_cases MV:n=0
    ·have cu:R=some n->ad8 T s R=(0,false):= λ e=>by rw[e,ad8,if_pos (.inl MV)]
     have Hf:=af (cu hc.symm)
     clear cu hc
     subst MV
     go_wp2
     go_ret2
     exact⟨congrArg (λ p:Nat×Bool=>Ending.returned (.tuple #[.int .u64 (p.1:Nat),.bool p.2])) Hf.O.symm,HB.O⟩
    ·have ou:¬ (n:Int)=0:=ag
     by_cases Q7:1099511627776<n
     ·have cu:R=some n->ad8 T s R=(0,false):= λ e=>by rw[e,ad8,if_pos (.inr Q7)]
      have Hf:=af (cu hc.symm)
      have hib:(1099511627776:Int)<n:=ag
      clear cu hc MV Q7
      go_wp2
      go_ret2
      exact⟨congrArg (λ p:Nat×Bool=>Ending.returned (.tuple #[.int .u64 (p.1:Nat),.bool p.2])) Hf.O.symm,HB.O⟩
     ·have aeB:=HT.O n wr MV ag
      have hib:(n:Int)<=1099511627776:=ag
      have gQ:((n:Int)==0)=false:=bV
      have aft:=af aeB
      cases hts:((T n).toList==s.toList)with
      |true=>
       have cu:R=some n->ad8 T s R=(n,true):= λ e=>by rw[e,ad8,if_neg ag,if_pos hts]
       have Hf:=af (cu hc.symm)
       clear cu hc MV Q7 aeB
       go_wp2_with first
        |(with_reducible refine aft.O.mono ?_;rintro e w5 ⟨rfl,bJ⟩)
        |fail
       go_ret2
       exact⟨congrArg (λ p:Nat×Bool=>Ending.returned (.tuple #[.int .u64 (p.1:Nat),.bool p.2])) Hf.O.symm,HB.O.T (bJ.mono HB.O.size)⟩
      |false=>
       have cu:R=some n->ad8 T s R=(0,false):= λ e=>by rw[e,ad8,if_neg ag,if_neg (by simp[hts])]
       have Hf:=af (cu hc.symm)
       clear cu hc MV Q7 aeB
       go_wp2_with first
        |(with_reducible refine aft.O.mono ?_;rintro e w5 ⟨rfl,bJ⟩)
        |fail
       go_ret2
       exact⟨congrArg (λ p:Nat×Bool=>Ending.returned (.tuple #[.int .u64 (p.1:Nat),.bool p.2])) Hf.O.symm,HB.O.T (bJ.mono HB.O.size)⟩
   ·have adP:¬ (y:Int)=46:=ag
    rw[if_neg h46]at hc
    have Hc2:=af hc
    have acM:((y:Int)!=46)=true:=bV
    have af6:((y:Int)==46)=false:=bV
    clear hc h46
    go_wp2
    go_loopw [6,7] (λ v c Zc=>∃m:Nat,m<=16/\c= .int .u32 (m:Int)/\v= .int .u64 (dvK y m:Nat)/\Hid (Below w w Zc)) (λ _ c _=>16 - (intOf c).toNat)
    case atStart=>exact⟨0,Nat.zero_le _,rfl,rfl,HB⟩
    case round=>
     clear HB
     obtain⟨m,hm,rfl,rfl,HB⟩:=hrel
     by_cases afV:m<16
     ·have hsg:∀w:World,Calls Tryz.prog 25 #[.int .u32 (m:Int)] w λ e w'=>e= .returned (.int .u8 (qD m:Nat))/\w'=w:= λ w=>aes m afV w
      have HS:=af hsg
      have Hm:=af (show dvK y (m+1)=if qD m=y then m else dvK y m from rfl)
      clear hsg
      generalize dvK y m=d at*
      generalize qD m=q at*
      by_cases hqy:q=y
      ·have hi:(q:Int)=(y:Int):=ag
       have hr:Value.int .u64 (m:Int)=Value.int .u64 (dvK y (m+1):Nat):=by rw[Hm.O,if_pos hqy]
       have Hr:=af hr
       clear hqy hr
       go_wp2
       go_region_held3 (λ _=>True) (trivial) (first|(with_reducible refine(HS.O _).mono ?_;rintro e w2 ⟨rfl,rfl⟩))
       all_goals go_wp2
       all_goals go_roundw
       all_goals first
        |exact⟨m+1,ag,rfl,Hr.O,af HB.O.drew⟩
        |(simp[intOf];omega)
      ·have hi:¬ (q:Int)=(y:Int):=ag
       have hr:Value.int .u64 (d:Int)=Value.int .u64 (dvK y (m+1):Nat):=by rw[Hm.O,if_neg hqy]
       have Hr:=af hr
       clear hqy hr
       go_wp2
       go_region_held3 (λ _=>True) (trivial) (first|(with_reducible refine(HS.O _).mono ?_;rintro e w2 ⟨rfl,rfl⟩))
       all_goals go_wp2
       all_goals go_roundw
       all_goals first
        |exact⟨m+1,ag,rfl,Hr.O,af HB.O.drew⟩
        |(simp[intOf];omega)
     ·have hme:m=16:=ag
      have vT:=afd y m ag
      have Hd:=af (show dvK y m=dvK y 16 by rw[hme])
      have af7:=af hme
      clear hme
      have Hc3:Hid ((if dvK y m=16\/1099511627776<n then none else rrd (List.drop (k+1) s.data.toList) (16*n+dvK y m))=R):=af (by rw[Hd.O];exact Hc2.O)
      clear Hc2 Hd
      generalize dvK y m=d at*
      by_cases afu:d=16\/1099511627776<n
      ·have hR0:R=none:=by have:=Hc3.O;rw[if_pos afu]at this;exact this.symm
       have Hf:=af (show ad8 T s R=(0,false)by rw[hR0];rfl)
       clear Hc3 hR0
       by_cases adT:d=16
       ·subst adT
        clear afu
        go_wp2
        go_ret2
        exact⟨congrArg (λ p:Nat×Bool=>Ending.returned (.tuple #[.int .u64 (p.1:Nat),.bool p.2])) Hf.O.symm,HB.O⟩
       ·have hib:(1099511627776:Int)<n:=ag
        have hid:¬ (d:Int)=16:=ag
        have afI:((d:Int)==16)=false:=bV
        clear afu adT
        go_wp2
        go_ret2
        exact⟨congrArg (λ p:Nat×Bool=>Ending.returned (.tuple #[.int .u64 (p.1:Nat),.bool p.2])) Hf.O.symm,HB.O⟩
      ·have hRn:rrd (List.drop (k+1) s.data.toList) (16*n+d)=R:=by have:=Hc3.O;rw[if_neg afu]at this;exact this
       have Hf:=af hRn
       have hib:(n:Int)<=1099511627776:=ag
       have hid:¬ (d:Int)=16:=ag
       have RW:16*n+d<281474976710656:=ag
       have Hnn:=af RW
       clear afu Hc3 hRn RW
       have afI:((d:Int)==16)=false:=bV
       go_wp2
       exact⟨⟨k+1,16*n+d,ag,rfl,rfl,Hf.O,Hnn.O,HB⟩,by simp[intOf];omega⟩
  ·rw[ae7 s k bg,rrd]at hc
   by_cases MV:n=0
   ·have cu:R=some n->ad8 T s R=(0,false):= λ e=>by rw[e,ad8,if_pos (.inl MV)]
    have Hf:=af (cu hc.symm)
    clear cu hc
    subst MV
    go_wp2
    go_ret2
    exact⟨congrArg (λ p:Nat×Bool=>Ending.returned (.tuple #[.int .u64 (p.1:Nat),.bool p.2])) Hf.O.symm,HB.O⟩
   ·have ou:¬ (n:Int)=0:=ag
    by_cases Q7:1099511627776<n
    ·have cu:R=some n->ad8 T s R=(0,false):= λ e=>by rw[e,ad8,if_pos (.inr Q7)]
     have Hf:=af (cu hc.symm)
     have hib:(1099511627776:Int)<n:=ag
     clear cu hc MV Q7
     go_wp2
     go_ret2
     exact⟨congrArg (λ p:Nat×Bool=>Ending.returned (.tuple #[.int .u64 (p.1:Nat),.bool p.2])) Hf.O.symm,HB.O⟩
    ·have aeB:=HT.O n wr MV ag
     have hib:(n:Int)<=1099511627776:=ag
     have gQ:((n:Int)==0)=false:=bV
     have aft:=af aeB
     cases hts:((T n).toList==s.toList)with
     |true=>
      have cu:R=some n->ad8 T s R=(n,true):= λ e=>by rw[e,ad8,if_neg ag,if_pos hts]
      have Hf:=af (cu hc.symm)
      clear cu hc MV Q7 aeB
      go_wp2_with first
       |(with_reducible refine aft.O.mono ?_;rintro e w5 ⟨rfl,bJ⟩)
       |fail
      go_ret2
      exact⟨congrArg (λ p:Nat×Bool=>Ending.returned (.tuple #[.int .u64 (p.1:Nat),.bool p.2])) Hf.O.symm,HB.O.T (bJ.mono HB.O.size)⟩
     |false=>
      have cu:R=some n->ad8 T s R=(0,false):= λ e=>by rw[e,ad8,if_neg ag,if_neg (by simp[hts])]
      have Hf:=af (cu hc.symm)
      clear cu hc MV Q7 aeB
      go_wp2_with first
       |(with_reducible refine aft.O.mono ?_;rintro e w5 ⟨rfl,bJ⟩)
       |fail
      go_ret2
      exact⟨congrArg (λ p:Nat×Bool=>Ending.returned (.tuple #[.int .u64 (p.1:Nat),.bool p.2])) Hf.O.symm,HB.O.T (bJ.mono HB.O.size)⟩
section
attribute [local go_sem] Oper.semAt_some
attribute [-go_sem] Builtin.append_
def hiB:Nat->Nat->List Nat
 |0,_=>[]
 |k+1,n=>hiB k (n/256)++[n%256]
theorem afA(n:Nat):hiB 8 n=e8 n:=by
 have d:∀a:Nat,n/a/256=n/(a*256):= λ a=>Nat.div_div_eq_div_mul n a 256
 simp only[hiB,e8,List.range_succ,List.range_zero,List.map_append,List.map_cons,List.map_nil,List.nil_append,List.cons_append,Nat.div_div_eq_div_mul,Nat.reduceMul,Nat.reduceSub,Nat.reducePow,Nat.div_one]
theorem afe:∀(k n:Nat) (w:World),k<=8->n<18446744073709551616->Calls Tryz.prog 24 #[.int .u64 (n:Int),.int .i64 (k:Int)] w λ e w'=>∃a c,e= .returned (.slice a k c)/\w'.ownsRow w 5 1 (.slice a k c) k (aB (hiB k n))/\Below w w w'
 |0,n,w,_,_=>by
  go_enter Tryz.func24,Tryz.ntmps24
  go_wp2
  go_ret
  exact⟨none,0,rfl,⟨rfl,.inl ⟨rfl,rfl⟩⟩,dp⟩
 |k+1,n,w,hk,hn=>by
  have ih:= λ w=>afe k (n/256) w ag ag
  have e1:((n/256:Nat):Int)=(n:Int)/256:=ag
  simp only[e1]at ih
  have HI:=af ih
  have zP:¬ ((k:Int)+1=0):=ag
  have Tv:(k:Int)<=7:=ag
  clear ih e1
  go_enter Tryz.func24,Tryz.ntmps24
  go_wp2_with first
   |((with_reducible refine(HI.O _).mono ?_);rintro e w2 ⟨a,c,rfl,ax,hb⟩
     obtain⟨g',c',w5,bt,cz,ni⟩:=cN (n₀:=w.heap.size) (n%256) ((n:Int)%256) ag ax ag hb.size
     have HN:=cj cz (hb.T ni.below)
     clear ax hb cz ni)
   |fail
  go_ret
  exact⟨_,_,rfl,HN.O.1,HN.O.2⟩
theorem ae8(hn:n<18446744073709551616)(w:World):Calls Tryz.prog 24 #[.int .u64 (n:Int),.int .i64 8] w λ e w'=>
 ∃B c,e= .returned (.slice (zp B) 8 c)/\(∀(j:Nat) (x:Nat),(e8 n)[j]? =some x->w'.cell? (za B (0+j))=some (.int .u8 (x:Int)))/\Below w w w':=by
 refine(afe 8 n w (aW) hn).mono ?_
 rintro e w' ⟨a,c,rfl,ax,hb⟩
 rw[afA]at ax
 rcases ay ax with⟨rfl,h,_⟩|⟨g,cur,rfl,_⟩
 ·cases h
 ·obtain⟨my, -, -⟩:=cm ax (pG n)
  rcases my.2 with h0|⟨B,o,h,hc⟩
  ·have:=congrArg List.length h0;rw[dC]at this;cases this
  ·cases h;exact⟨_,c,rfl,hc,hb⟩
end
theorem aek:∀(k n:Nat),na n (k+1)=na (n/16) k++[Tc (n%16)]
 |0,n=>by simp[na]
 |k+1,n=>by
  have ih:=aek k n
  rw[na,ih,na]
  rw[Go.Proofs.YtkgapncajjafoaaGreatDoor.UA]
  rfl
theorem aen:∀(k n:Nat),aef n k=na n k
 |0,n=>rfl
 |k+1,n=>by
  rw[aek,aef,aen k];rfl
theorem afW(x y:List UInt8):((⟨⟨x⟩⟩:ByteArray)++⟨#[46]⟩++⟨⟨y⟩⟩)=⟨⟨x++46::y⟩⟩:=by
 have h1:((⟨⟨x⟩⟩:ByteArray)++⟨#[46]⟩)=⟨(x++[46]).toArray⟩:=ByteArray.mk_append_mk x [46]
 have h2:((⟨(x++[46]).toArray⟩:ByteArray)++⟨⟨y⟩⟩)=⟨(x++[46]++y).toArray⟩:=ByteArray.mk_append_mk (x++[46]) y
 rw[h1,h2,List.append_assoc]
 rfl
theorem aeh(h0:n≠0)(hn:n<=1099511627776)(w:World):Calls Tryz.prog 11 (vS n) w λ e w'=>e= .returned (.string (cX n))/\Below w w w':=by
 have hm:Xv n (mw n):=jD 15 n ag
 have hd:=JX hn
 have RH:1<=mw n:=rW _ _
 have bB:∀w:World,Calls Tryz.prog 22 #[.int .u64 (n:Int),.int .i64 (mw n:Nat)] w λ e w'=>e= .returned (.string ⟨⟨aef n (mw n)⟩⟩)/\Below w w w':= λ w=>aem _ n w ag ag
 have ek:∀w:World,Calls Tryz.prog 22 #[.int .u64 (CZ n:Nat),.int .i64 8] w λ e w'=>e= .returned (.string ⟨⟨aef (CZ n) 8⟩⟩)/\Below w w w':= λ w=>aem 8 (CZ n) w ag (aM (Td n))
 have Ra:∀w:World,Calls Tryz.prog 24 #[.int .u64 (n:Int),.int .i64 8] w λ e w'=>∃B c,e= .returned (.slice (zp B) 8 c)/\(∀(j:Nat) (x:Nat),(e8 n)[j]? =some x->w'.cell? (za B (0+j))=some (.int .u8 (x:Int)))/\Below w w w':= λ w=>ae8 ag w
 have zF:∀(B c:Nat) (w:World),(∀(j:Nat) (x:Nat),(e8 n)[j]? =some x->w.cell? (za B (0+j))=some (.int .u8 (x:Int)))->Calls Tryz.prog 23 #[.int .u32 0,.slice (zp B) 8 c] w λ e w'=>e= .returned (.int .u32 (CZ n:Nat))/\w'=w:= λ B c w hc=>aeR (e8 n) B 0 c w (pG n) (by show 8<1000000;decide) hc
 have hc:=Td n
 have jK:cX n=⟨⟨aef n (mw n)++46::aef (CZ n) 8⟩⟩:=by
  unfold cX Xw
  rw[if_neg ag,aen,aen]
 have fq:(⟨⟨aef n (mw n)⟩⟩:ByteArray).size=mw n:=ad7 _ _
 have mx:(⟨⟨aef (CZ n) 8⟩⟩:ByteArray).size=8:=ad7 _ _
 have AM:=af bB
 have Qm:=af ek
 have HH:=af Ra
 have HMO:=af zF
 have afX:=af jK
 have HM:=af hm
 rw[afX.O]
 clear bB ek Ra zF jK hm
 generalize aef n (mw n)=l1 at*
 generalize aef (CZ n) 8=l2 at*
 generalize CZ n=c at*
 generalize mw n=d at*
 have hni:¬ (n:Int)=0:=ag
 go_enter Tryz.func11,Tryz.ntmps11
 go_wp2
 go_loopw [3,4] (λ v i wr=>∃j:Nat,j<=d/\v= .int .i64 (j:Int)/\i= .int .u64 (n/2^(4*j):Nat)/\wr=w) (λ v _ _=>d - (intOf v).toNat)
 case atStart=>exact⟨0,Nat.zero_le _,rfl,by simp,rfl⟩
 case round=>
  obtain⟨j,hj,rfl,rfl,rfl⟩:=hrel
  have hr:n/2^(4*j)<=1099511627776:=Nat.le_trans (Nat.div_le_self _ _) hn
  have G3:j<d->0<n/2^(4*j):= λ bg=>by
   by_cases h1:j=0
   ·subst h1;simp;omega
   ·have:=HM.O.lo j ag bg
    rwa [Nat.blt_eq]at this
  have qz:n/2^(4*(j+1))=n/2^(4*j)/16:=by
   rw[Nat.div_div_eq_div_mul,show 4*(j+1)=4*j+4 by omega,Nat.pow_add]
  have afE:j=d->n/2^(4*j)=0:= λ e=>by
   have h2:=HM.O.hi
   rw[<-e]at h2
   rcases Nat.eq_zero_or_pos (n/2^(4*j))with h3|h3
   ·exact h3
   ·have h4:Nat.blt 0 (n/2^(4*j))=true:=by rw[Nat.blt_eq];exact h3
    rw[h4]at h2;cases h2
  have Hnx:=af qz
  clear qz
  generalize n/2^(4*j)=r at*
  by_cases bg:j<d
  ·have hp:=G3 bg
   clear G3 afE
   go_wp2
   exact⟨⟨j+1,ag,rfl,by rw[Hnx.O];rfl,trivial⟩,by simp[intOf];omega⟩
  ·have hjd:j=d:=ag
   have Tq:=afE hjd
   clear G3 afE bg Hnx hj
   subst hjd Tq
   go_wp2_with first
    |(with_reducible refine(AM.O _).mono ?_;rintro e w1 ⟨rfl,aQ⟩)
    |(with_reducible refine(Qm.O _).mono ?_;rintro e w4 ⟨rfl,bH⟩)
    |(with_reducible refine(HH.O _).mono ?_;rintro e w2 ⟨B,cc,rfl,ng,aC⟩;have Hcl:=af ng;clear ng)
    |(with_reducible refine(HMO.O _ _ _ Hcl.O).mono ?_;rintro e w3 ⟨rfl,rfl⟩)
    |fail
   go_ret
   exact⟨congrArg (λ b=>Ending.returned (.string b)) (afW l1 l2),(aQ.T (aC.mono aQ.size)).T (bH.mono (Nat.le_trans aQ.size aC.size))⟩
theorem afp:∀c<16,dvK (qD c) 16=c:=by decide
theorem aeG{n:Nat}(hn:n<=1099511627776)(tail:List UInt8):∀k,rrd (na n k++46::tail) (n/2^(4*k))=some n
 |0=>by simp[na,rrd]
 |k+1=>by
  have hc:n/2^(4*k)%16<16:=Nat.mod_lt _ bd
  have hb:=oc _ hc
  have h1:n/2^(4*(k+1))<=n:=Nat.div_le_self _ _
  have h2:=Xx n k
  show rrd (Tc (n/2^(4*k)%16)::(na n k++46::tail)) _=_
  rw[rrd,FU _ hc,if_neg ag,afp _ hc,if_neg ag,show 16*(n/2^(4*(k+1)))+n/2^(4*k)%16=n/2^(4*k)by omega]
  exact aeG hn tail k
theorem afq(h0:n≠0)(hn:n<=1099511627776):rrd (cX n).data.toList 0=some n:=by
 have e:cX n=⟨⟨na n (mw n)++46::na (CZ n) 8⟩⟩:=by unfold cX;rw[if_neg ag];rfl
 rw[e]
 have:=aeG hn (na (CZ n) 8) (mw n)
 rwa [PR hn]at this
theorem afr(hs:¬ s.size=0)(h:uU s=0):ad8 cX s (rrd s.data.toList 0)=(uT s,true):=by
 obtain⟨h1,h2⟩:=Xy h
 have hle:=aff h1
 have h0:uT s≠0:= λ e=>by
  rw[e]at h2
  exact hs (by rw[<-h2];rfl)
 have h3:=afq h0 hle
 rw[h2]at h3
 rw[h3,ad8,if_neg ag,if_pos ((eq_iff _ _).2 h2)]
theorem afs(h:¬ uU s=0):ad8 cX s (rrd s.data.toList 0)=(0,false):=by
 cases hr:rrd s.data.toList 0 with
 |none=>rfl
 |some n=>
  unfold ad8
  simp only
  split
  ·rfl
  ·rename_i hn
   split
   ·rename_i ht
    have ht:=(eq_iff _ _).1 ht
    exact absurd (by rw[<-ht];exact(od (n:=n) ag).2) h
   ·rfl
theorem aew(w:World):Calls Tryz.prog 13 IS w λ e w'=>e= .returned (.tuple #[.int .u64 0,.bool true])/\Below w w w':=by
 have hse:((⟨#[]⟩:ByteArray).toList==([]:List UInt8))=true:=by rw[ByteArray.toList_eq];rfl
 go_enter Tryz.func13,Tryz.ntmps13
 go_wp2
 go_ret2
 exact⟨rfl,dp⟩
theorem aeS(w:World):Calls Tryz.prog 11 nq w λ e w'=>e= .returned (.string ⟨#[]⟩)/\Below w w w':=by
 go_enter Tryz.func11,Tryz.ntmps11
 go_wp2
 go_ret
 exact⟨rfl,dp⟩
theorem ae9(hs:s.size<=100)(w:World):Calls Tryz.prog 13 #[.string s] w λ e w'=>e= .returned (.tuple #[.int .u64 (uT s:Nat),.bool (decide (uU s=0))])/\Below w w w':=by
 by_cases h0:s.size=0
 ·have he:s=⟨#[]⟩:=by
   apply ByteArray.ext
   exact Array.size_eq_zero_iff.1 h0
  have hp:uT s=0/\uU s=0:=by
   rw[he];exact od (n:=0) bd
  rw[hp.1,hp.2,he];exact aew w
 ·by_cases h:uU s=0
  ·have:=aee cX s hs w (λ n w h0 hn=>aeh h0 hn w) h0
   rw[afr h0 h]at this
   rw[decide_eq_true h];exact this
  ·have:=aee cX s hs w (λ n w h0 hn=>aeh h0 hn w) h0
   rw[afs h]at this
   rw[afv h,decide_eq_false h];exact this
theorem aex(hn:n<=1099511627776)(w:World):Calls Tryz.prog 11 (vS n) w λ e w'=>e= .returned (.string (cX n))/\Below w w w':=by
 by_cases h0:n=0
 ·subst h0
  have:cX 0=⟨#[]⟩:=by unfold cX;rw[if_pos (.inr rfl)]
  rw[this];exact aeS w
 ·exact aeh h0 hn w
section
attribute [local go_sem] Oper.semAt_some
attribute [-go_sem] Builtin.append_
theorem aep(tok:ByteArray):kj tok []=tok:=rfl
theorem ael(tok:ByteArray)(p:List aG)(x:aG):kj tok (p++[x])=cX x.s:=by unfold kj;simp
theorem aeT{w:World}{a:Option Addr}{c:Nat}{ds:List gr}(h:bj BB 4 w a ds)(hc:ds.length<=c)(Da:c<140737488355328)(gW:∀d∈ds,IH d)(s:ByteArray)(bX:Int):
 Calls Tryz.prog 4 #[.slice a ds.length c,.string s,.int .i64 bX] w λ e w'=>e= .returned (.bool true)/\Below w w w':=by
 have Fq:=af (λ (V:World) (hV:Below w w V)=>BC (h.below hV) hc Da gW)
 obtain⟨K,hK⟩:=aK ds.length
 rw[<-hK]at Fq⊢
 obtain⟨tok,aeB⟩:=aK (s.extract 0 (min ((s.size:Nat):Int) 100).toNat)
 have ht:tok.size<=100:=by rw[aeB,ByteArray.size_extract];omega
 have JA:=af aeB
 have HT:=af ht
 clear h hc Da gW hK aeB ht
 go_enter Tryz.func4,Tryz.ntmps4
 go_wp2_with first
  |((with_reducible refine(Mg _).mono ?_);rintro e w1 ⟨rfl,aQ⟩;have HL1:=af (Fq.O w1 aQ);have cZ:=af aQ;clear aQ)
  |((with_reducible refine HL1.O.mono ?_);rintro e w2 ⟨b,la,cf,ps,a1,d1,c1,a2,d2,c2,q,lc,es,rfl,hL,hA,hr,aC⟩
    obtain⟨L,PJ⟩:=aK es.length
    rw[<-PJ]
    obtain⟨w3,cL⟩:=aK (w2.alloc (.cells (uR b ps.length cf a1 d1 c1 a2 d2 c2 q la L lc) 46))
    have aL:Below w2 w2 w3:=by rw[cL];go_grown
    have C1:w3.heap[w2.heap.size]? =some (.cells (uR b ps.length cf a1 d1 c1 a2 d2 c2 q la L lc) 46):=jJ cL
    have wZ:=hA.below aL
    have fG:=hL.small
    have ko:q<=1099511627776:=by have h1:q<=_:=fG.1;rw[List.length_take]at h1;omega
    have PH:es.length<=32:=wZ.oI.many
    have hle:∀x∈es,x.s<=q:= λ x hx=>(wZ.oI.ok x hx).le
    obtain⟨Mo,uK, -, -⟩:=ad6 C1
    obtain⟨k,hk⟩:=aK (uT tok)
    have HP:=af (λ V=>ae9 HT.O V)
    rw[<-hk]at HP
    have H3:=cj C1 (cZ.O.T ((aC.T (aL.mono aC.size)).mono cZ.O.size))
    have mL:=af cL
    rw[cL]at Mo uK
    focus
     rcases(show bX<1\/(1<=bX/\¬ uU tok=0)\/(1<=bX/\uU tok=0/\q<k)\/(1<=bX/\uU tok=0/\k<=q)by omega)with hm|⟨hm,hz⟩|⟨hm,hz,hq⟩|⟨hm,hz,hq⟩
     all_goals first
      |(have dm:=aeJ wZ.file wZ.marks wZ.oI ko (tok:=tok) hm
        unfold aE cU at dm
        rw[cL]at dm
        have Ty:=af dm
        have hmd:decide (bX<1)=true:=decide_eq_true hm
        clear dm hk C1 wZ fG ko PH hle hL hA hr aC PJ cL aL)
      |(have dm:=IL wZ.file wZ.marks wZ.oI ko HT.O hz hm
        unfold aE cU at dm
        rw[cL]at dm
        have Ty:=af dm
        rw[decide_eq_false hz]at HP
        have hmd:decide (bX<1)=false:=decide_eq_false ag
        clear dm hk hz C1 wZ fG ko PH hle hL hA hr aC PJ cL aL)
      |(have dm:=aet wZ.file wZ.marks wZ.oI ko HT.O hz (by rw[<-hk];exact hq) hm
        unfold aE cU at dm
        rw[cL]at dm
        have Ty:=af dm
        rw[decide_eq_true hz]at HP
        have hmd:decide (bX<1)=false:=decide_eq_false ag
        have XL:(q:Int)<(k:Int):=ag
        clear dm hk hz hq C1 wZ fG ko PH hle hL hA hr aC PJ cL aL)
      |(have dm:=zl wZ.file wZ.marks wZ.oI ko HT.O hz hk.symm hq hm
        unfold aE cU at dm
        rw[cL]at dm
        rw[decide_eq_true hz]at HP
        have hmd:decide (bX<1)=false:=decide_eq_false ag
        have XL:(k:Int)<=(q:Int):=ag
        have kO:=hr.below aL
        have hbh:= λ (V:World) (hV:Below w3 w3 V)=>aeY (c:=lc) (n:=k) (bX:=bX) (kO.below hV) ag hm
        rw[<-PJ]at hbh
        have qw:∀x∈eS es k bX,x.s<=q:= λ x hx=>hle x (FH x hx).1
        have hlf:(eS es k bX).length<=1000:=by
         have:=List.length_filter_le (λ x:aG=>decide (k<x.s)) es
         unfold eS;rw[List.length_take];omega
        obtain⟨F,hF⟩:=aK (eS es k bX)
        simp only[<-hF]at dm hbh qw hlf
        have hsa:= λ (V:World) (b1 b2:Option Addr) (e1 e2:Nat) (h1:bj eQ 5 V b1 F) (h2:bj eQ 5 V b2 F)=>aeI (c:=e1) (c2:=e2) h1 h2 hlf
        rcases og F with h0|⟨A,x,h0⟩
        all_goals subst h0
        all_goals first
         |(simp only[aep,List.length_nil]at dm hbh hsa
           have Ty:=af dm
           have HBH:=af hbh
           have HSA:=af hsa
           clear dm hbh hsa hF qw hlf kO hk hz hq C1 wZ fG ko PH hle hL hA hr aC PJ cL aL)
         |(have hxq:x.s<=1099511627776:=Nat.le_trans (qw x aR) ko
           have HTT:=af (λ V=>aex hxq V)
           obtain⟨m,hmA⟩:=aK A.length
           simp only[ael,List.length_append,List.length_cons,List.length_nil,Nat.zero_add,<-hmA]at dm hbh hsa hlf
           have zO:(m:Int)<=1000:=ag
           have Ty:=af dm
           have HBH:=af hbh
           have HSA:=af hsa
           have HX:Hid ((A++[x])[m]? =some x):=af (by rw[hmA];simp)
           clear dm hbh hsa hF qw hlf hxq hmA kO hk hz hq C1 wZ fG ko PH hle hL hA hr aC PJ cL aL)))
  |(refine et 46 ?_)
  |(refine bh 37 ?_)
  |(refine bh 43 ?_)
  |((rw[<-JA.O];with_reducible refine Ty.O.mono ?_);rintro e w4 ⟨rfl,bH⟩
    rw[<-mL.O]at bH
    have iJ:=af bH
    clear bH Mo uK)
  |((rw[<-JA.O];with_reducible refine Ty.O.mono ?_);rintro e w4 ⟨x4,k4,rfl,o8,bH⟩
    rw[<-mL.O]at bH
    have iJ:=af bH
    have HG4:=af (bj.gX o8 iG bd)
    clear o8 bH Mo uK)
  |((with_reducible refine(HP.O _).mono ?_);rintro e w5 ⟨rfl,bJ⟩
    have eN:=af (iJ.O.T (bJ.mono iJ.O.size))
    obtain⟨-, -,x21,x22⟩:=ad6 ((eN.O.block _ (aX H3.O.1).1).T H3.O.1)
    have afO:=af bJ
    clear bJ)
  |((with_reducible refine(HBH.O _ eN.O).mono ?_);rintro e w6 ⟨a6,k6,rfl,Qh,fD⟩
    have hx:=HX.O
    have HR6:=cj Qh fD
    obtain⟨B2,o2,rfl⟩:=Qh.some_ aR
    obtain⟨c0, -, -, -, -⟩:=uP (Qh.get hx)
    clear hx Qh fD x21 x22)
  |((with_reducible refine(HBH.O _ eN.O).mono ?_);rintro e w6 ⟨a6,k6,rfl,Qh,fD⟩
    have HR6:=cj Qh fD
    clear Qh fD x21 x22)
  |((with_reducible refine(HTT.O _).mono ?_);rintro e w7 ⟨rfl,mv⟩
    have Mm:=cj (HR6.O.1.below mv) (HR6.O.2.T (mv.mono HR6.O.2.size))
    clear mv c0)
  |((with_reducible refine(HSA.O _ _ _ _ _ ((HG4.O.below afO.O).below Mm.O.2) Mm.O.1).mono ?_);rintro e w8 ⟨rfl,qt⟩
    have HE:=af (Mm.O.2.T (qt.mono Mm.O.2.size))
    clear qt)
  |((with_reducible refine(HSA.O _ _ _ _ _ ((HG4.O.below afO.O).below HR6.O.2) HR6.O.1).mono ?_);rintro e w8 ⟨rfl,qt⟩
    have HE:=af (HR6.O.2.T (qt.mono HR6.O.2.size))
    clear qt)
  |fail
 ·go_ret
  exact⟨rfl,H3.O.2.T (eN.O.mono H3.O.2.size)⟩
 ·go_ret
  exact⟨rfl,H3.O.2.T (eN.O.mono H3.O.2.size)⟩
 ·go_ret
  exact⟨rfl,H3.O.2.T (eN.O.mono H3.O.2.size)⟩
 ·go_ret
  exact⟨rfl,H3.O.2.T ((eN.O.T (HE.O.mono eN.O.size)).mono H3.O.2.size)⟩
 ·go_ret
  exact⟨rfl,H3.O.2.T ((eN.O.T (HE.O.mono eN.O.size)).mono H3.O.2.size)⟩
end
section
open Go.ChangeShapes Go.WideShapes Go.ChangeAt Go.RowKit
namespace fTel
theorem laidOut:laidOutB Tryz.prog=true:=aO
theorem params7:Tryz.f4.params.toList=[33,9,3]:=aO
theorem P6(H:Type)(enc:TypeId×Value->H)(W:World)(base:Nat)(args:Array Value)(ds gs:List (DataW H))(before:List MemPlace)
 (Am:∀(j:Nat) t v,Tryz.f4.params[j]? =some t->args[j]? =some v->Value.okWide Tryz.prog W .any base t v)
 (hW:DataW.Whole enc Tryz.prog Tryz.f4.params.toList Rows.feedTellsSpec.vars false W args.toList ds gs before)
 (jr:(DataW.weightsEach Tryz.prog (Tryz.f4.params.toList++(OpenSpec.ofChange Rows.feedTellsSpec).bare.plain.varTypes Tryz.prog) (ds++gs)).all (·<=reachBytes)=true):
 Calls Tryz.prog 4 args W λ e W'=>∃v,e= .returned v/\Rows.feedTellsSpec.post enc Tryz.prog Tryz.f4 false true false false W args v W':=by
 have hW':=hW
 have bg:= λ x hx=>hW.lt x hx
 obtain⟨p,q,hA0,hV,rfl,hfz,CV⟩:=hW
 have hA:DataW.TrodAll enc Tryz.prog W 0 (λ _=>true) true Tryz.f4.params.toList args.toList ds p:=hA0
 have acS:Tryz.f4.params=#[33,9,3]:=aO
 rw[params7]at hA jr
 rw[acS]at Am
 obtain⟨v0,vs0,d0,ds0,p0,q0,To,rfl,rfl,h0,r0⟩:=trodAll_cons hA
 obtain⟨v1,vs1,d1,ds1,p1,q1,abB,rfl,rfl,h1,r1⟩:=trodAll_cons r0
 obtain⟨v2,vs2,d2,ds2,p2,q2,abC,rfl,rfl,h2,r2⟩:=trodAll_cons r1
 obtain⟨rfl,rfl,rfl⟩:=trodAll_nil r2
 obtain rfl:args=#[v0,v1,v2]:=by cases args;simp_all
 obtain⟨rfl,rfl⟩:=trodVars_none hV
 obtain⟨s1,rfl,rfl,rfl,aH⟩:=Go.ChangeMaps.open_string Tryz.underlying9 (Am 1 _ v1 rfl rfl) h1
 obtain⟨n2,rfl,rfl,rfl,da⟩:=open_int Tryz.underlying3 (Am 2 _ v2 rfl rfl) h2
 obtain⟨a0,c0,l0,rfl,Tq,hc0,hd0,afa⟩:=II (Am 0 _ v0 rfl rfl) h0 (λ n hn=>by
  have:=List.all_eq_true.1 jr n (by
   simp only[List.cons_append,DataW.weightsEach]
   exact List.mem_append_left _ hn)
  simpa using this)
 clear hA0
 refine(aeT Tq hc0 hd0 afa s1 n2).mono λ e W' ⟨he,hb⟩=>?_
 subst he
 have hsh:DataW.TrodAll enc Tryz.prog W' 0 (λ b=>decide (b<W.heap.size)) true Tryz.f4.params.toList [.slice a0 l0.length c0,.string s1,.int .i64 n2] [d0,.lit (.string s1.data.toList),.lit (.int .i64 n2)] (p0++([]++([]++[]))):=by
  rw[params7]
  exact trodAll_cons_mk (Below.trod laidOut aO (of_decide_eq_true aO) h0 hb (λ x hx=>bg x (by simp[hx]))) (trodAll_cons_mk (Go.ChangeMaps.shut_string Tryz.underlying9 aH) (trodAll_cons_mk (shut_int Tryz.underlying3 da) trodAll_mk0))
 refine⟨_,rfl,MQ hW' (λ _ _ _=>trodAll_cons_mk (shut_bool Tryz.underlying4 _) trodAll_mk0) ?_ rfl hb⟩
 rw[show p0++([]++([]++[]))++[]=p0++([]++([]++[]))from List.append_nil _]
 exact hsh
end fTel
namespace fTel
noncomputable def J2:Array Value:=#[.slice none 0 0,.string ⟨#[]⟩,.int .i64 0]
theorem P7(os:Os):laidMet Tryz.prog Rows.feedTellsRow.laid ((tR os).forCall (λ _ _=>0) ⟨#[],J2,[]⟩).memory:=
 laidMet_of_run' 8 aO aO
theorem reads(os:Os){H:Type}(enc:TypeId×Value->H):∃places,DataW.whole enc Tryz.prog ((tR os).forCall (λ _ _=>0) ⟨#[],J2,[]⟩).memory Tryz.f4.params.toList Rows.feedTellsSpec.vars false J2.toList 8=some ([.nil,.lit (.string []),.lit (.int .i64 0)],[],places):=
 ⟨[],aO⟩
theorem lifted(os:Os)(started:os.Started)(H:Type)(enc:TypeId×Value->H)(F:Stop.Interp):
 ReturnsInHanded {} Tryz.checked os 4 .any ((OpenSpec.ofChange Rows.feedTellsSpec).preRow enc Tryz.prog Tryz.f4 Rows.feedTellsRow.domain false Rows.feedTellsRow.laid) (((OpenSpec.ofChange Rows.feedTellsSpec).at F).post enc Tryz.prog Tryz.f4 false true false false):=by
 obtain⟨places,hx⟩:=reads os enc
 refine returnsInHanded_of_row (C:=Tryz.checked) (s:=OpenSpec.ofChange Rows.feedTellsSpec) own started aO Tryz.func4
  (witness_row_at (enc:=enc) (C:=Tryz.checked) false (tR os) J2 rfl aO aO aO
    (OpenSpec.preRow_of_cond 8 hx aO (λ k hk=>by cases hk) aO (P7 os))) ?_
 intro W base args ds gs before Am hW _ _ jr _ _ _
 exact P6 H enc W base args ds gs before Am hW jr
theorem aas:Tryz.pinned.checked.prog.funcNamed Rows.feedTellsRow.func=some 4:=aO
theorem Tl:joinedFacts Tryz.pinned.checked.prog 4 Tryz.f4 (OpenSpec.ofChange Rows.feedTellsSpec).bare Rows.feedTellsRow=true:=aO
theorem aat:Tryz.f4.isInstance Tryz.pinned.checked.prog Rows.feedTellsRow.origin Rows.feedTellsRow.targs:=of_decide_eq_true aO
theorem aau:Tryz.f4.isWrapper Tryz.pinned.checked.prog Rows.feedTellsRow.wrapper Rows.feedTellsRow.mainSum:=by
 unfold Func.isWrapper;first|(rw[if_pos (by decide+kernel)];kernel_rfl)|(rw[if_neg (by decide+kernel)];exact⟨rfl,rfl⟩)
theorem said:Rows.FeedTellsSaid:=
 OpenClaim.holds_of_cond 4 Tryz.f4 rfl rfl rfl rfl rfl rfl rfl ⟨rfl,rfl,rfl,rfl,rfl⟩ rfl rfl rfl rfl rfl aas Tryz.func4 Tl aat aau
  (λ os started H enc _ F=>by rw[OpenClaim.pre_eq_preRow];exact lifted os started H enc F)
theorem plain(f:FuncId)(fn:Func)(hf:Tryz.pinned.checked.prog.funcNamed "davenport/davenportlaw21.FeedTells" =some f)(Za:Tryz.pinned.checked.prog.funcs[f]? =some fn):
 true=Tryz.pinned.checked.prog.looks []/\∀(j:Nat) t,fn.params[j]? =some t->Tryz.pinned.checked.prog.wantsStandIn t=false:=by
 obtain rfl:f=4:=Option.some.inj ((show Tryz.prog.funcNamed "davenport/davenportlaw21.FeedTells" =some 4 by kernel_rfl).symm.T hf)|>.symm
 obtain rfl:fn=Tryz.f4:=(Option.some.inj (Tryz.func4.symm.T Za)).symm
 refine⟨aO, λ j t ht=>?_⟩
 rw[show Tryz.f4.params=#[33,9,3]by kernel_rfl]at ht
 have ht':t=33\/t=9\/t=3:=by simpa using Array.mem_of_getElem? ht
 rcases ht' with rfl|rfl|rfl
 ·exact(show Tryz.prog.wantsStandIn 33=false by kernel_rfl)
 ·exact(show Tryz.prog.wantsStandIn 9=false by kernel_rfl)
 ·exact(show Tryz.prog.wantsStandIn 3=false by kernel_rfl)
theorem acT:Rows.FeedTellsCardSaid:=
 Claim7.holds_tied_plain_at .later [] _ _ _ _ said (λ _ h=>by cases h) aO (λ _ h=>by cases h) feedTells_row_tie rfl ⟨rfl,rfl⟩ aO rfl plain aO
end fTel
theorem feedTells_holds:Rows.FeedTellsCardSaid:=fTel.acT
#print axioms feedTells_holds
end
end Go.Proofs.YtkgapncajjafoaaGreatDoor

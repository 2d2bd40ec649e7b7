/- The store, part 1. -/
import Derived.Carry
import Derived.ControlIn
import Derived.Deep.DeepHandedRow
import Derived.Deep.RegionHeld
import Derived.Deep.RegionHeld3
import Derived.Deep.Slices
import Derived.Deep.Strs
import Derived.Defers
import Derived.Handy
import Derived.Laws.AppendOwn
import Derived.Laws.Bits64
import Derived.Laws.BitsAllLaws
import Derived.Laws.BytesArg
import Derived.Laws.EntriesVeiled
import Derived.Laws.Externs
import Derived.Laws.OwnMore
import Derived.Laws.ResultCell
import Derived.Laws.StructEq
import Derived.Lib.AppendZeros
import Derived.Lib.Bytealg
import Derived.Lib.BytesEntry
import Derived.Lib.ConvBytes
import Derived.Lib.LaidTab
import Derived.Lib.SmallJoins
import Derived.Lib.UnsafeStr
import Derived.LoopIn
import Derived.LoopNIn
import Derived.LoopTactic
import Derived.MapKept
import Derived.Maps.AppendAt
import Derived.OneCell
import Derived.OpenShut
import Derived.OrdersHeld
import Derived.OrdersIn
import Derived.OwnWalk
import Derived.OwnWalkIn
import Derived.ProofKit
import Derived.RangeFuncBound
import Derived.RangeFuncBox
import Derived.RangeFuncCalls
import Derived.RangeFuncLeaves
import Derived.RangeFuncNested
import Derived.Recover
import Derived.Shelf.Abstract
import Derived.Shelf.RegionOpen
import Derived.Shelf.Strings.Builder1
import Derived.Shelf.Strings.Builder2
import Derived.SizedLaws
import Derived.Sort.Walk7a
import Derived.TacticsIn
import Derived.TacticsInMore
import Derived.WalkMore
import Derived.WalkKit
import Derived.IntWalk
import Derived.Lib.Hide
import Derived.RangeFuncFrom
import Derived.RangeFuncWrites
import Derived.Deep.MidRow
import Derived.Test.YtbiififbfefkjaaGreatDoorChecked
set_option linter.unusedSimpArgs false
set_option linter.defProp false
set_option linter.unusedVariables false
set_option maxRecDepth 100000
set_option maxHeartbeats 16000000
namespace Go.Proofs.YtbiififbfefkjaaGreatDoor
open Go.RowKit Go.Shelf
variable{p q b d e f h:Prop}{i B c n k at_ n₀ gf m fuel id j n0 D:Nat}{P:Program}{ops:Array Oper}{a:Act}{w W A w' w2 W' w0:World}{Q:Exit -> Act -> World -> Prop}{o oi:Oper}{u v:Value}{xs dead bs:List Nat}{cs lb:Array Value}{t:TypeId}{assign body:Code}{listed:Array Bool}{E:World -> Prop}
abbrev az:=Option Addr
universe u
theorem bU(h:p:=by kernel_rfl):p:=h
theorem an(h:p:=by omega):p:=h
theorem cP(h:p:=by simp):p:=h
theorem byA(h:p:=by assumption):p:=h
theorem ag(h:p):Hid p:=Lib.hid h
theorem Sm(h:p)(g:q):p/\q:=⟨h,g⟩
theorem cS{α:Type u}{xs:Array α}{a:α}(h:xs[i]? =some a):∃g:i<xs.size,xs[i]=a:=Array.getElem?_eq_some_iff.1 h
theorem jX:(∀{α:Type u} (l:List α) (i:Nat) (a:α),l.toArray.setIfInBounds i a=(l.set i a).toArray)/\(∀{α:Type u} (x:α) (l:List α) (a:α),(x::l).set 0 a=a::l)/\(∀{α:Type u} (x:α) (l:List α) (n:Nat) (a:α),(x::l).set (n+1) a=x::l.set n a):=⟨λ _ _ _=>List.setIfInBounds_toArray .., λ _ _ _=>rfl, λ _ _ _ _=>rfl⟩
theorem UD:(∀{α:Type u} (l:List α),l.toArray.size=l.length)/\(∀{α:Type u} (a:α) (l:List α),(a::l).length=l.length+1)/\(∀{α:Type u},([]:List α).length=0)/\(∀{α:Type u} (n:Nat) (a:α),Array.replicate (n+1) a=(Array.replicate n a).push a)/\(∀{α:Type u} (a:α),Array.replicate 0 a=#[])/\(∀{α:Type u} (l:List α) (a:α),l.toArray.push a=(l++[a]).toArray)/\(∀{α:Type u} (l l':List α),l.toArray++l'.toArray=(l++l').toArray)/\(∀{α:Type u} (l:List α),[]++l=l)/\∀{α:Type u} (a:α) (l l':List α),a::l++l'=a::(l++l'):=⟨λ _=>by simp, λ _ _=>rfl,rfl, λ _ _=>Array.replicate_succ, λ _=>Array.replicate_zero, λ _ _=>by simp, λ _ _=>by simp, λ _=>rfl, λ _ _ _=>rfl⟩
theorem cW:(∀{α:Type u} (l:List α) (i:Nat),l.toArray[i]? =l[i]?)/\(∀{α:Type u} (x:α) (l:List α),(x::l)[0]? =some x)/\(∀{α:Type u} (x:α) (l:List α) (n:Nat),(x::l)[n+1]? =l[n]?):=⟨λ _ _=>List.getElem?_toArray .., λ _ _=>List.getElem?_cons_zero .., λ _ _ _=>List.getElem?_cons_succ ..⟩
theorem dG{rest:List Oper}{op:Oper}(ty:TypeId){x:Operand}{b o:Nat}{cs:List Value}(h:wpList P ops Q rest (a.put op.dst (.agg cs.toArray)) w)(Sn:op.guard=none:=by exact rfl)(ho:op.op= .load ty x:=by exact rfl)(hx:a.eval x= .pointer (some ⟨b,o,none⟩):=by exact rfl)(hc:w.rangeAt b o cs:=by assumption)(hu:(P.underlying ty).any TypeDesc.isRow=true:=by kernel_rfl)(hi:(P.info? ty).map (·.size)=some cs.length:=by kernel_rfl):wpList P ops Q (op::rest) a w:=by
 cases hd:P.underlying ty with
 |none=>rw[hd]at hu;cases hu
 |some d=>rw[hd]at hu;exact wpList_load_mid Sn ty x ho b o hx cs d hc hd hu hi h
theorem U1:(∀{α:Type u} (l:List α) (i:Nat) (h:i<l.toArray.size),l.toArray[i]'h=l[i]'(by simpa using h))/\(∀{α:Type u} (x:α) (l:List α) (h:0<(x::l).length),(x::l)[0]'h=x)/\(∀{α:Type u} (x:α) (l:List α) (n:Nat) (h:n+1<(x::l).length),(x::l)[n+1]'h=l[n]'(Nat.lt_of_succ_lt_succ h)):=⟨λ _ _ _=>rfl, λ _ _ _=>rfl, λ _ _ _ _=>rfl⟩
theorem _root_.Eq.T{α:Sort u}{a b c:α}(h:a=b)(g:b=c):a=c:=h.trans g
theorem _root_.Go.RowKit.Below.T{a b c:World}(h:Below B a b)(k:Below B b c):Below B a c:=Below.trans h k
theorem _root_.Go.RowKit.Hid.O(h:Hid p):p:=h
theorem cm{a:Prop}(x:a)(h:a->p:=by intro _;omega):p:=h x
theorem iX{a:Prop}(x:a)(y:b)(h:a->b->p:=by intro _ _;omega):p:=h x y
theorem Ig{a c:Prop}(x:a)(y:b)(z:c)(h:a->b->c->p:=by intro _ _ _;omega):p:=h x y z
theorem oo4{a c:Prop}(x:a)(y:b)(z:c)(t:d)(h:a->b->c->d->p:=by intro _ _ _ _;omega):p:=h x y z t
theorem oo5{a c:Prop}(x:a)(y:b)(z:c)(t:d)(u:e)(h:a->b->c->d->e->p:=by intro _ _ _ _ _;omega):p:=h x y z t u
theorem oo6{a c:Prop}(x:a)(y:b)(z:c)(t:d)(u:e)(v:f)(h:a->b->c->d->e->f->p:=by intro _ _ _ _ _ _;omega):p:=h x y z t u v
theorem de(h:p:=by decide):p:=h
theorem dU(h:p:=by simp;omega):p:=h
theorem qK{o:Obj}(h:W=w.alloc o):W.heap[w.heap.size]? =some o:=by rw[h];exact World.alloc_heap_new _ _
theorem anx{o:Obj}(h:W=w.alloc o)(g:w.heap.size=n):W.heap[n]? =some o:=by rw[h,<-g];exact World.alloc_heap_new _ _
theorem bL{α:Sort u}(a:α):∃x,x=a:=⟨a,rfl⟩
theorem cH:n<=n:=Nat.le_refl n
theorem gb:Below B w w:=Below.refl B w
structure Mk(α:Type u)where
 x:α
instance{α:Type u}(x:α):CoeDep (Mk α) (Mk.mk x) α:=⟨x⟩
abbrev zp(b:Nat):=Mk.mk (some (Addr.mk b 0 none))
abbrev za(b o:Nat):=Mk.mk (Addr.mk b o none)
theorem _root_.Go.KeepsOthers.T{B C:World}(h:KeepsOthers A B)(k:KeepsOthers B C):KeepsOthers A C:=KeepsOthers.trans h k
theorem _root_.Go.KeepsFrom.T{X Y Z:World}(h:KeepsFrom B X Y)(k:KeepsFrom B Y Z):KeepsFrom B X Z:=KeepsFrom.trans h k
theorem _root_.List.IsPrefix.T{α:Type u}{a b c:List α}(h:a<+:b)(k:b<+:c):a<+:c:=h.trans k
inductive Vz|mk (l:List Value)
instance(l:List Value):CoeDep Vz (Vz.mk l) (List Value):=⟨l⟩
instance(l:List Value):CoeDep Vz (Vz.mk l) (Array Value):=⟨l.toArray⟩
abbrev Q2:=Vz.mk [.int .i64 0,.int .i64 0]
abbrev sg(p0:Option Addr)(p1 p2:Nat):=Vz.mk [.slice p0 p1 p2]
abbrev zq2(p0:Option Addr)(p1 p2:Nat):=Vz.mk [.int .u32 0,.slice p0 p1 p2]
abbrev vk(p0 p1:Nat):=Vz.mk [.int .u32 (p0:Int),.int .u32 (p1:Int)]
abbrev fA(p0:Option Addr)(p1 p2:Nat):=Vz.mk [.slice none 0 0,.slice p0 p1 p2,.int .i64 (-1),.int .i64 (-1),.bool false]
abbrev iS(p0:Option Addr):=Vz.mk [.pointer p0]
abbrev BX(p0:Value):=Vz.mk [p0]
abbrev zq7(p0:Option Addr)(p1 p2:Nat)(p3:Option Addr)(p4 p5:Nat)(p6 p7:Int)(p8:Bool):=Vz.mk [.slice p0 p1 p2,.slice p3 p4 p5,.int .i64 p6,.int .i64 p7,.bool p8]
abbrev Lz(p0:Option Addr)(p1 p2:Nat):=Vz.mk [.slice p0 p1 p2,.int .i64 0]
abbrev Ih(p0:Nat):=Vz.mk [.int .i64 (p0:Int)]
abbrev fP(p0:Option Addr)(p1 p2:Nat)(p3:Option Addr)(p4 p5:Nat):=Vz.mk [.slice p0 p1 p2,.slice p3 p4 p5]
abbrev zk(p0:Nat):=Vz.mk [.int .u8 (p0:Int)]
abbrev acM(p0:Option Addr)(p1 p2:Nat)(p3:Int):=Vz.mk [.slice p0 p1 p2,.int .i64 p3]
abbrev oR(p0 p1:Option Addr):=Vz.mk [.pointer p0,.pointer p1]
abbrev J6:=Vz.mk [.slice none 0 0]
abbrev zl:=Vz.mk [.int .i64 0]
abbrev kF:=Vz.mk [.slice none 0 0,.slice none 0 0,.int .i64 0,.int .i64 0,.bool false]
abbrev ZT(p0 p1 p2 p3:Value):=Vz.mk [p0,p1,p2,p3]
abbrev vm(p0:Value):=Vz.mk [p0,.int .i64 0]
abbrev Sq(p0:Int):=Vz.mk [.int .i64 p0,.int .i64 0,.int .i64 0,.int .u64 0,.int .i64 0,.int .i64 0]
abbrev qp(p0:Nat):=Vz.mk [.int .i64 (p0:Int),.int .i64 0,.int .i64 0,.int .u64 0,.int .i64 0,.int .i64 0]
abbrev jl(p0:Option Addr)(p1 p2 p3 p4:Nat):=Vz.mk [.slice p0 p1 p2,.int .i64 (p3:Int),.int .i64 (p4:Int),.int .i64 0,.int .i64 0,.int .u64 0,.int .i64 0,.int .i64 0]
abbrev il(p0:Option Addr)(p1 p2:Nat)(p3:Option Addr)(p4 p5:Nat):=Vz.mk [.slice p0 p1 p2,.slice p3 p4 p5,.bool false,.int .i64 0]
abbrev zm(p0:Option Addr)(p1 p2:Nat)(p3:Option Addr)(p4 p5:Nat):=Vz.mk [.bool false,.slice p0 p1 p2,.slice p3 p4 p5]
abbrev acN(p0:Option Addr)(p1 p2:Nat)(p3:Option Addr)(p4 p5:Nat):=Vz.mk [.slice p0 p1 p2,.int .i64 1,.slice p3 p4 p5]
abbrev vo:=Vz.mk [.int .u64 0]
abbrev agO:=Vz.mk [.int .u64 0,.int .u64 0,.int .u64 0,.int .u64 0]
abbrev zn:=Vz.mk [.int .i64 0,.int .i64 0,.int .i64 0,.int .u64 0,.int .i64 0,.int .i64 0]
abbrev aeU:=Vz.mk [.int .i64 1,.int .i64 0,.int .i64 0,.int .u64 0,.int .i64 0,.int .i64 0]
abbrev aeV(p0:Nat)(p1 p2:Option Addr):=Vz.mk [.int .i64 (p0:Int),.pointer p1,.pointer p2]
abbrev J7(p0 p1 p2:Option Addr):=Vz.mk [.pointer p0,.pointer p1,.pointer p2]
abbrev oH:=Vz.mk [.slice none 0 0,.slice none 0 0,.bool false,.int .i64 0]
abbrev zo(p0:Value):=Vz.mk [p0,.bool true]
abbrev qq:=Vz.mk [.slice none 0 0,.int .i64 0,.int .i64 0,.int .i64 0,.int .i64 0,.int .u64 0,.int .i64 0,.int .i64 0]
abbrev ZU(p0:Nat)(p1:Value):=Vz.mk [.int .i64 (p0:Int),p1]
abbrev jR:=Vz.mk [.bool false,.slice none 0 0,.slice none 0 0]
abbrev Sr:=Vz.mk [.bool true,.slice none 0 0,.slice none 0 0]
abbrev pF(p0:Option Addr)(p1 p2:Nat):=Vz.mk [.bool true,.slice p0 p1 p2,.slice none 0 0]
abbrev pU(p0:Option Addr)(p1 p2:Nat):=Vz.mk [.bool false,.slice none 0 0,.slice p0 p1 p2]
abbrev U2(p0:Option Addr)(p1 p2:Nat)(p3:Bool)(p4:Option Addr)(p5 p6:Nat):=Vz.mk [.slice p0 p1 p2,.bool p3,.slice p4 p5 p6]
abbrev ZV(p0:Option Addr)(p1:Value)(p2:Nat):=Vz.mk [.pointer p0,p1,.int .i64 (p2:Int)]
abbrev oS(p0:Bool)(p1:Option Addr)(p2 p3:Nat)(p4:Option Addr)(p5 p6:Nat):=Vz.mk [.bool p0,.slice p1 p2 p3,.slice p4 p5 p6]
abbrev Ii(p0 p1:Value):=Vz.mk [p0,p1]
abbrev qt(p0 p1 p2:Nat):=Vz.mk [.int .i64 (p0:Int),.int .i64 (p1:Int),.int .i64 (p2:Int),.int .i64 0,.int .i64 0,.int .u64 0,.int .i64 0,.int .i64 0]
abbrev vp:=Vz.mk [.int .i64 0,.int .i64 0,.int .i64 0,.int .i64 0,.int .i64 0,.int .u64 0,.int .i64 0,.int .i64 0]
abbrev U3(p0:Value):=Vz.mk [p0,.bool false]
abbrev acO(p0:Option Addr)(p1 p2:Nat):=Vz.mk [.slice none 0 0,.slice p0 p1 p2,.int .i64 (-1),.int .i64 (-1),.bool false,.int .i64 0]
abbrev lW(p0:Option Addr)(p1 p2 p3 p4 p5:Nat):=Vz.mk [.slice p0 p1 p2,.int .i64 (p3:Int),.int .i64 (p4:Int),.int .i64 0,.int .i64 0,.int .u64 0,.int .i64 0,.int .i64 0,.int .i64 (p5:Int)]
abbrev BY(p0:Option Addr)(p1:Value):=Vz.mk [.pointer p0,p1]
abbrev U4:=Vz.mk [.slice none 0 0,.int .i64 0,.int .i64 0,.int .i64 0,.int .i64 0,.int .u64 0,.int .i64 0,.int .i64 0,.int .i64 0]
abbrev vq(p0:Option Addr)(p1 p2:Nat)(p3:Bool)(p4:Option Addr)(p5 p6:Nat):=Vz.mk [.slice p0 p1 p2,.bool p3,.slice p4 p5 p6,.bool false,.int .i64 0]
abbrev vM(p0:Option Addr)(p1 p2 p3 p4 p5:Nat):=Vz.mk [.bool true,.slice p0 p1 p2,.int .i64 (p3:Int),.int .i64 (p4:Int),.int .i64 0,.int .i64 0,.int .u64 0,.int .i64 0,.int .i64 0,.int .i64 (p5:Int),.slice none 0 0]
abbrev qu(p0:Option Addr)(p1 p2:Nat):=Vz.mk [.bool false,.slice none 0 0,.int .i64 0,.int .i64 0,.int .i64 0,.int .i64 0,.int .u64 0,.int .i64 0,.int .i64 0,.int .i64 0,.slice p0 p1 p2]
abbrev lG:=Vz.mk [.bool false,.slice none 0 0,.int .i64 0,.int .i64 0,.int .i64 0,.int .i64 0,.int .u64 0,.int .i64 0,.int .i64 0,.int .i64 0,.slice none 0 0]
abbrev J8(p0:Option Addr)(p1:ByteArray):=Vz.mk [.pointer p0,.string p1]
abbrev acP:=Vz.mk [.pointer none,.slice none 0 0]
abbrev qv(p0:Int):=Vz.mk [.int .i64 3,.int .i64 p0,.string ⟨#[]⟩,.slice none 0 0,.slice none 0 0]
abbrev acQ(p0:Option Addr):=Vz.mk [.pointer p0,.slice none 0 0]
abbrev acR(p0:Option Addr)(p1:Nat):=Vz.mk [.pointer p0,.int .i64 (p1:Int)]
abbrev acS(p0:Nat):=Vz.mk [.int .i64 (p0:Int),.int .i64 0]
abbrev acT(p0:Value):=Vz.mk [p0,.int .i64 0,.int .i64 0]
abbrev lX:=Vz.mk [.int .i64 0,.int .i64 0,.string ⟨#[]⟩,.slice none 0 0,.slice none 0 0]
abbrev O8(p0:Option Addr)(p1 p2 p3 p4 p5 p6 p7 p8 p9:Nat):=Vz.mk [.slice none 0 0,.slice p0 p1 p2,.int .i64 (-1),.int .i64 (-1),.bool false,.int .i64 (p3:Int),.int .i64 (p4:Int),.int .i64 (p5:Int),.int .i64 0,.int .i64 0,.int .u64 0,.int .i64 0,.int .i64 0,.int .i64 (p6:Int),.int .i64 (p7:Int),.int .i64 (p8:Int),.int .i64 0,.int .i64 0,.int .u64 0,.int .i64 0,.int .i64 0,.int .u64 (p9:Int)]
abbrev BZ(p0 p1 p2:Nat)(p3:Bool)(p4:Nat):=Vz.mk [.int .u32 (p0:Int),.int .u32 (p1:Int),.int .u64 (p2:Int),.bool p3,.int .i64 (p4:Int)]
abbrev acU(p0 p1 p2 p3:Nat):=Vz.mk [.int .u8 (p0:Int),.int .u8 (p1:Int),.int .u8 (p2:Int),.int .u8 (p3:Int)]
abbrev kh:=Vz.mk [.int .u32 0,.int .u32 0,.int .u64 0,.bool false,.int .i64 0]
abbrev DM(p0:ByteArray)(p1 p2 p3:Nat)(p4:Bool)(p5:Nat)(p6 p7:Int):=Vz.mk [.string p0,.int .u32 (p1:Int),.int .u32 (p2:Int),.int .u64 (p3:Int),.bool p4,.int .i64 (p5:Int),.int .i64 p6,.int .i64 p7,.string ⟨#[]⟩,.slice none 0 0,.slice none 0 0]
abbrev vN:=Vz.mk [.string ⟨#[]⟩,.int .u32 0,.int .u32 0,.int .u64 0,.bool false,.int .i64 0,.int .i64 0,.int .i64 0,.string ⟨#[]⟩,.slice none 0 0,.slice none 0 0]
abbrev acV(p0:ByteArray):=Vz.mk [.string p0,.int .u32 0,.int .u32 0,.int .u64 0,.bool false,.int .i64 0,.int .i64 0,.int .i64 0,.string ⟨#[]⟩,.slice none 0 0,.slice none 0 0]
abbrev acW(p0:ByteArray)(p1 p2 p3 p4:Nat):=Vz.mk [.string p0,.int .u32 (p1:Int),.int .u32 (p2:Int),.int .u64 (p3:Int),.bool true,.int .i64 (p4:Int),.int .i64 0,.int .i64 0,.string ⟨#[]⟩,.slice none 0 0,.slice none 0 0]
abbrev acX(p0 p1 p2 p3:Nat):=Vz.mk [.int .u32 (p0:Int),.int .u32 (p1:Int),.int .u64 (p2:Int),.bool true,.int .i64 (p3:Int)]
abbrev acY(p0:ByteArray)(p1 p2 p3 p4:Nat)(p5:Int):=Vz.mk [.string p0,.int .u32 (p1:Int),.int .u32 (p2:Int),.int .u64 (p3:Int),.bool false,.int .i64 (p4:Int),.int .i64 3,.int .i64 p5,.string ⟨#[]⟩,.slice none 0 0,.slice none 0 0]
abbrev ZW(p0 p1 p2 p3:Nat):=Vz.mk [.int .u32 (p0:Int),.int .u32 (p1:Int),.int .u64 (p2:Int),.bool false,.int .i64 (p3:Int)]
abbrev sN:=Vz.mk [.int .i64 0,.int .u64 0]
abbrev ZX(p0:Option Addr)(p1 p2:Nat)(p3:Value):=Vz.mk [.slice p0 p1 p2,p3]
abbrev sO:=Vz.mk [.int .i64 0,.int .i64 0,.int .i64 0,.int .i64 0,.int .i64 0,.int .u64 0,.int .i64 0,.int .i64 0,.int .i64 0,.int .i64 0,.int .i64 0,.int .i64 0,.int .i64 0,.int .u64 0,.int .i64 0,.int .i64 0,.int .u64 0]
abbrev aeW(p0:Value)(p1:Int):=Vz.mk [p0,.int .i64 p1]
abbrev pG(p0 p1 p2 p3 p4 p5 p6:Nat):=Vz.mk [.int .i64 (p0:Int),.int .i64 (p1:Int),.int .i64 (p2:Int),.int .i64 0,.int .i64 0,.int .u64 0,.int .i64 0,.int .i64 0,.int .i64 (p3:Int),.int .i64 (p4:Int),.int .i64 (p5:Int),.int .i64 0,.int .i64 0,.int .u64 0,.int .i64 0,.int .i64 0,.int .u64 (p6:Int)]
abbrev U5(p0 p1:Int):=Vz.mk [.int .i64 p0,.int .i64 p1,.string ⟨#[]⟩,.slice none 0 0,.slice none 0 0]
abbrev acZ(p0:Value)(p1:Option Addr)(p2 p3:Nat):=Vz.mk [p0,.slice p1 p2 p3]
abbrev aeX(p0:ByteArray)(p1 p2 p3:Nat)(p4 p5:Int):=Vz.mk [.string p0,.int .u32 (p1:Int),.int .u32 (p2:Int),.int .u64 (p3:Int),.bool false,.int .i64 0,.int .i64 p4,.int .i64 p5,.string ⟨#[]⟩,.slice none 0 0,.slice none 0 0]
abbrev agP(p0:ByteArray)(p1 p2:Nat)(p3:Bool)(p4:Int):=Vz.mk [.string p0,.int .u32 (p1:Int),.int .u32 (p2:Int),.bool p3,.int .i64 p4]
abbrev O9(p0:Option Addr)(p1 p2 p3:Nat)(p4:Option Addr)(p5 p6:Nat):=Vz.mk [.slice p0 p1 p2,.int .u64 (p3:Int),.slice p4 p5 p6]
abbrev agQ(p0:ByteArray)(p1 p2:Nat)(p3:Int)(p4:Bool)(p5 p6:Int):=Vz.mk [.string p0,.int .u32 (p1:Int),.int .u32 (p2:Int),.int .u64 p3,.bool p4,.int .i64 0,.int .i64 p5,.int .i64 p6,.string ⟨#[]⟩,.slice none 0 0,.slice none 0 0]
abbrev ZY(p0:ByteArray)(p1 p2:Nat)(p3:Int):=Vz.mk [.string p0,.int .u32 (p1:Int),.int .u32 (p2:Int),.int .u64 p3,.bool false,.int .i64 0,.int .i64 0,.int .i64 0,.string ⟨#[]⟩,.slice none 0 0,.slice none 0 0]
abbrev ac0:=Vz.mk [.slice none 0 0,.slice none 0 0,.int .i64 (-1),.int .i64 (-1),.bool false]
abbrev L7(p0 p1 p2 p3 p4 p5:Nat)(p6:Int):=Vz.mk [.int .i64 (p0:Int),.int .i64 (p1:Int),.int .i64 (p2:Int),.int .i64 0,.int .i64 0,.int .u64 0,.int .i64 0,.int .i64 0,.int .i64 (p3:Int),.int .i64 (p4:Int),.int .i64 (p5:Int),.int .i64 0,.int .i64 0,.int .u64 0,.int .i64 0,.int .i64 0,.int .u64 p6]
abbrev ml:=Vz.mk [.int .u32 0,.int .u32 0]
abbrev Ij(p0:Option Addr)(p1 p2:ByteArray)(p3 p4 p5:Nat)(p6:Bool)(p7:Nat)(p8 p9:Int)(LA:Bool)(p11:ByteArray)(p12 p13 p14:Nat)(p15:Bool)(p16 p17 p18 p19 p20 p21 p22:Nat)(p23:Bool):=Vz.mk [.pointer p0,.string p1,.string p2,.int .u32 (p3:Int),.int .u32 (p4:Int),.int .u64 (p5:Int),.bool p6,.int .i64 (p7:Int),.int .i64 p8,.int .i64 p9,.string ⟨#[]⟩,.slice none 0 0,.slice none 0 0,.bool LA,.string p11,.int .u32 (p12:Int),.int .u32 (p13:Int),.int .u64 (p14:Int),.bool p15,.int .i64 (p16:Int),.int .i64 (p17:Int),.int .i64 (p18:Int),.int .i64 (p19:Int),.int .i64 0,.int .i64 0,.int .u64 0,.int .i64 0,.int .i64 0,.int .i64 (p20:Int),.int .i64 (p21:Int),.int .i64 (p22:Int),.int .i64 0,.int .i64 0,.int .u64 0,.int .i64 0,.int .i64 0,.bool p23]
abbrev ac1(p0:Option Addr):=Vz.mk [.pointer p0,.int .i64 0]
abbrev U6(p0:Option Addr)(p1:ByteArray):=Vz.mk [.pointer p0,.string p1,.string ⟨#[]⟩,.int .u32 0,.int .u32 0,.int .u64 0,.bool false,.int .i64 0,.int .i64 0,.int .i64 0,.string ⟨#[]⟩,.slice none 0 0,.slice none 0 0,.bool false,.string ⟨#[]⟩,.int .u32 0,.int .u32 0,.int .u64 0,.bool false,.int .i64 0,.int .i64 0,.int .i64 0,.int .i64 0,.int .i64 0,.int .i64 0,.int .u64 0,.int .i64 0,.int .i64 0,.int .i64 0,.int .i64 0,.int .i64 0,.int .i64 0,.int .i64 0,.int .u64 0,.int .i64 0,.int .i64 0,.bool false]
abbrev aeY(p0 p1:Option Addr)(p2 p3 p4 p5:Nat)(p6:Bool)(p7:Value):=Vz.mk [.pointer p0,.slice p1 p2 p3,.int .i64 (p4:Int),.int .i64 (p5:Int),.bool p6,p7]
abbrev aeZ(p0:Option Addr)(p1 p2:Nat)(p3:Option Addr)(p4 p5:Nat)(p6:Option Addr)(p7 p8:Nat):=Vz.mk [.slice p0 p1 p2,.slice p3 p4 p5,.slice p6 p7 p8]
abbrev ae0(p0 p1:Option Addr)(p2 p3 p4:Nat)(p5:Value):=Vz.mk [.pointer p0,.slice p1 p2 p3,.int .i64 (p4:Int),p5]
abbrev ae1(p0 p1:Option Addr)(p2 p3 p4:Nat)(p5 p6:Value):=Vz.mk [.pointer p0,.slice p1 p2 p3,.int .i64 (p4:Int),p5,p6]
abbrev ac2(p0:Option Addr)(p1:Value)(p2:Option Addr)(p3 p4:Nat):=Vz.mk [.pointer p0,p1,.slice p2 p3 p4]
abbrev agR(p0 p1 p2:Nat):=Vz.mk [.slice none 0 0,.int .i64 (p0:Int),.int .i64 (p1:Int),.int .i64 0,.int .i64 0,.int .u64 0,.int .i64 0,.int .i64 0,.int .i64 (p2:Int)]
abbrev ZZ(p0 p1:Value):=Vz.mk [p0,p1,.int .i64 0]
abbrev Ik(p0:Option Addr)(p1 p2:Nat)(p3:Option Addr)(p4 p5:Nat):=Vz.mk [.slice p0 p1 p2,.bool true,.slice p3 p4 p5,.bool false,.int .i64 0]
abbrev IZ:=Vz.mk [.slice none 0 0,.bool false,.slice none 0 0,.bool false,.int .i64 0]
abbrev aaZ(p0:Option Addr)(p1 p2:ByteArray)(p3 p4 p5:Nat)(p6:Bool)(p7:Nat)(p8 p9:Int)(LA:ByteArray)(p11 p12 p13:Nat)(p14:Bool)(p15 p16 p17 p18 p19 p20 p21:Nat)(p22:Bool):=Vz.mk [.pointer p0,.string p1,.string p2,.int .u32 (p3:Int),.int .u32 (p4:Int),.int .u64 (p5:Int),.bool p6,.int .i64 (p7:Int),.int .i64 p8,.int .i64 p9,.string ⟨#[]⟩,.slice none 0 0,.slice none 0 0,.bool false,.string LA,.int .u32 (p11:Int),.int .u32 (p12:Int),.int .u64 (p13:Int),.bool p14,.int .i64 (p15:Int),.int .i64 (p16:Int),.int .i64 (p17:Int),.int .i64 (p18:Int),.int .i64 0,.int .i64 0,.int .u64 0,.int .i64 0,.int .i64 0,.int .i64 (p19:Int),.int .i64 (p20:Int),.int .i64 (p21:Int),.int .i64 0,.int .i64 0,.int .u64 0,.int .i64 0,.int .i64 0,.bool p22]
abbrev aa0(p0:Option Addr)(p1 p2:ByteArray)(p3 p4 p5:Nat)(p6:Bool)(p7:Nat)(p8 p9:Int)(LA:ByteArray)(p11 p12 p13:Nat)(p14:Bool)(p15 p16 p17 p18 p19 p20 p21:Nat)(p22:Bool):=Vz.mk [.pointer p0,.string p1,.string p2,.int .u32 (p3:Int),.int .u32 (p4:Int),.int .u64 (p5:Int),.bool p6,.int .i64 (p7:Int),.int .i64 p8,.int .i64 p9,.string ⟨#[]⟩,.slice none 0 0,.slice none 0 0,.bool true,.string LA,.int .u32 (p11:Int),.int .u32 (p12:Int),.int .u64 (p13:Int),.bool p14,.int .i64 (p15:Int),.int .i64 (p16:Int),.int .i64 (p17:Int),.int .i64 (p18:Int),.int .i64 0,.int .i64 0,.int .u64 0,.int .i64 0,.int .i64 0,.int .i64 (p19:Int),.int .i64 (p20:Int),.int .i64 (p21:Int),.int .i64 0,.int .i64 0,.int .u64 0,.int .i64 0,.int .i64 0,.bool p22]
abbrev L9(p0 p1 p2:Value):=Vz.mk [p0,p1,p2]
abbrev U7(p0 p1 p2:Value):=Vz.mk [p0,p1,p2,.int .i64 0]
abbrev U8(p0 p1:Int):=Vz.mk [.int .u32 p0,.int .u32 p1]
abbrev aef(p0 p1 p2:Value):=Vz.mk [p0,p1,p2,.int .i64 300]
abbrev aa2(p0 p1:Value):=Vz.mk [p0,p1,.int .i64 290]
abbrev U9(p0 p1:Value):=Vz.mk [p0,p1,.int .i64 4]
abbrev aa3(p0 p1 p2:Nat):=Vz.mk [.int .u32 (p0:Int),.int .u32 (p1:Int),.int .u64 1,.bool false,.int .i64 (p2:Int)]
abbrev Vg:=Vz.mk [.int .i64 3,.int .i64 7,.string ⟨#[]⟩,.slice none 0 0,.slice none 0 0]
abbrev Q3(p0 p1 p2 p3 p4 p5:Nat):=Vz.mk [.int .i64 (p0:Int),.int .i64 (p1:Int),.int .i64 (p2:Int),.int .i64 0,.int .i64 0,.int .u64 0,.int .i64 0,.int .i64 0,.int .i64 (p3:Int),.int .i64 (p4:Int),.int .i64 (p5:Int),.int .i64 0,.int .i64 0,.int .u64 0,.int .i64 0,.int .i64 0,.int .u64 2]
abbrev aa4(p0:Value)(p1:ByteArray):=Vz.mk [p0,.string p1]
instance(w:World):CoeDep World w Nat:=⟨w.heap.size⟩
theorem dO{a:Prop}(x0:a)(x1:b):Hid (a/\b):=⟨x0,x1⟩
theorem eS{a c:Prop}(x0:a)(x1:b)(x2:c):Hid (a/\b/\c):=⟨x0,x1,x2⟩
theorem oT{a c:Prop}(x0:a)(x1:b)(x2:c)(x3:d):Hid (a/\b/\c/\d):=⟨x0,x1,x2,x3⟩
theorem G2{a c:Prop}(x0:a)(x1:b)(x2:c)(x3:d)(x4:e):Hid (a/\b/\c/\d/\e):=⟨x0,x1,x2,x3,x4⟩
theorem hI6{a c:Prop}(x0:a)(x1:b)(x2:c)(x3:d)(x4:e)(x5:f):Hid (a/\b/\c/\d/\e/\f):=⟨x0,x1,x2,x3,x4,x5⟩
theorem Z0{a c g:Prop}(x0:a)(x1:b)(x2:c)(x3:d)(x4:e)(x5:f)(x6:g):Hid (a/\b/\c/\d/\e/\f/\g):=⟨x0,x1,x2,x3,x4,x5,x6⟩
theorem hI8{a c g:Prop}(x0:a)(x1:b)(x2:c)(x3:d)(x4:e)(x5:f)(x6:g)(x7:h):Hid (a/\b/\c/\d/\e/\f/\g/\h):=⟨x0,x1,x2,x3,x4,x5,x6,x7⟩
theorem hI9{a c g i:Prop}(x0:a)(x1:b)(x2:c)(x3:d)(x4:e)(x5:f)(x6:g)(x7:h)(x8:i):Hid (a/\b/\c/\d/\e/\f/\g/\h/\i):=⟨x0,x1,x2,x3,x4,x5,x6,x7,x8⟩
theorem agS(w:World)(o1 o2 o3 o4 o5 o6:Obj):∃u,u=((((((w.alloc o1).alloc o2).alloc o3).alloc o4).alloc o5).alloc o6)/\Below w.heap.size w u/\u.heap.size=w.heap.size+1+1+1+1+1+1/\u.heap[w.heap.size]? =some o1/\u.heap[w.heap.size+1]? =some o2/\u.heap[w.heap.size+1+1]? =some o3/\u.heap[w.heap.size+1+1+1]? =some o4/\u.heap[w.heap.size+1+1+1+1]? =some o5/\u.heap[w.heap.size+1+1+1+1+1]? =some o6:=by
 obtain⟨u1,J9⟩:∃u1,u1=w.alloc o1:=⟨_,rfl⟩;have gC:u1.heap.size=w.heap.size+1:=by rw[J9];simp
 obtain⟨u2,Ss⟩:∃u2,u2=u1.alloc o2:=⟨_,rfl⟩;have lH:u2.heap.size=w.heap.size+1+1:=by rw[Ss];simp[gC]
 obtain⟨u3,Z1⟩:∃u3,u3=u2.alloc o3:=⟨_,rfl⟩;have mK:u3.heap.size=w.heap.size+1+1+1:=by rw[Z1];simp[lH]
 obtain⟨u4,Z3⟩:∃u4,u4=u3.alloc o4:=⟨_,rfl⟩;have uh:u4.heap.size=w.heap.size+1+1+1+1:=by rw[Z3];simp[mK]
 obtain⟨u5,Z4⟩:∃u5,u5=u4.alloc o5:=⟨_,rfl⟩;have B6:u5.heap.size=w.heap.size+1+1+1+1+1:=by rw[Z4];simp[uh]
 obtain⟨u6,Z5⟩:∃u6,u6=u5.alloc o6:=⟨_,rfl⟩;have uV:u6.heap.size=w.heap.size+1+1+1+1+1+1:=by rw[Z5];simp[B6]
 have Vh:Below u6.heap.size u6 u6:=Below.refl _ _;have uW:u6.heap[w.heap.size+1+1+1+1+1]? =some o6:=(Vh.block _ (by omega)).T (by rw[Z5,<-B6];exact World.alloc_heap_new _ _);have Vi:Below u5.heap.size u5 u6:=(show Below u5.heap.size u5 u6 by rw[Z5];exact(Below.refl _ _).alloc (Nat.le_refl _) _).T (Vh.mono (by omega));have BO:u6.heap[w.heap.size+1+1+1+1]? =some o5:=(Vi.block _ (by omega)).T (by rw[Z4,<-uh];exact World.alloc_heap_new _ _);have Vj:Below u4.heap.size u4 u6:=(show Below u4.heap.size u4 u5 by rw[Z4];exact(Below.refl _ _).alloc (Nat.le_refl _) _).T (Vi.mono (by omega));have zq:u6.heap[w.heap.size+1+1+1]? =some o4:=(Vj.block _ (by omega)).T (by rw[Z3,<-mK];exact World.alloc_heap_new _ _);have Vk:Below u3.heap.size u3 u6:=(show Below u3.heap.size u3 u4 by rw[Z3];exact(Below.refl _ _).alloc (Nat.le_refl _) _).T (Vj.mono (by omega));have uX:u6.heap[w.heap.size+1+1]? =some o3:=(Vk.block _ (by omega)).T (by rw[Z1,<-lH];exact World.alloc_heap_new _ _);have Vl:Below u2.heap.size u2 u6:=(show Below u2.heap.size u2 u3 by rw[Z1];exact(Below.refl _ _).alloc (Nat.le_refl _) _).T (Vk.mono (by omega));have jP:u6.heap[w.heap.size+1]? =some o2:=(Vl.block _ (by omega)).T (by rw[Ss,<-gC];exact World.alloc_heap_new _ _);have Vm:Below u1.heap.size u1 u6:=(show Below u1.heap.size u1 u2 by rw[Ss];exact(Below.refl _ _).alloc (Nat.le_refl _) _).T (Vl.mono (by omega));have eb:u6.heap[w.heap.size]? =some o1:=(Vm.block _ (by omega)).T (by rw[J9];exact World.alloc_heap_new _ _);refine⟨u6,by rw[Z5,Z4,Z3,Z1,Ss,J9],(show Below w.heap.size w u1 by rw[J9];exact(Below.refl _ _).alloc (Nat.le_refl _) _).T (Vm.mono (by omega)),uV,eb,jP,uX,zq,BO,uW⟩
theorem ae2(w:World)(o1 o2 o3 o4 o5 o6 o7:Obj):∃u,u=(((((((w.alloc o1).alloc o2).alloc o3).alloc o4).alloc o5).alloc o6).alloc o7)/\Below w.heap.size w u/\u.heap.size=w.heap.size+1+1+1+1+1+1+1/\u.heap[w.heap.size]? =some o1/\u.heap[w.heap.size+1]? =some o2/\u.heap[w.heap.size+1+1]? =some o3/\u.heap[w.heap.size+1+1+1]? =some o4/\u.heap[w.heap.size+1+1+1+1]? =some o5/\u.heap[w.heap.size+1+1+1+1+1]? =some o6/\u.heap[w.heap.size+1+1+1+1+1+1]? =some o7:=by
 obtain⟨u1,J9⟩:∃u1,u1=w.alloc o1:=⟨_,rfl⟩;have gC:u1.heap.size=w.heap.size+1:=by rw[J9];simp
 obtain⟨u2,Ss⟩:∃u2,u2=u1.alloc o2:=⟨_,rfl⟩;have lH:u2.heap.size=w.heap.size+1+1:=by rw[Ss];simp[gC]
 obtain⟨u3,Z1⟩:∃u3,u3=u2.alloc o3:=⟨_,rfl⟩;have mK:u3.heap.size=w.heap.size+1+1+1:=by rw[Z1];simp[lH]
 obtain⟨u4,Z3⟩:∃u4,u4=u3.alloc o4:=⟨_,rfl⟩;have uh:u4.heap.size=w.heap.size+1+1+1+1:=by rw[Z3];simp[mK]
 obtain⟨u5,Z4⟩:∃u5,u5=u4.alloc o5:=⟨_,rfl⟩;have B6:u5.heap.size=w.heap.size+1+1+1+1+1:=by rw[Z4];simp[uh]
 obtain⟨u6,Z5⟩:∃u6,u6=u5.alloc o6:=⟨_,rfl⟩;have uV:u6.heap.size=w.heap.size+1+1+1+1+1+1:=by rw[Z5];simp[B6]
 obtain⟨u7,hu7⟩:∃u7,u7=u6.alloc o7:=⟨_,rfl⟩;have Ka:u7.heap.size=w.heap.size+1+1+1+1+1+1+1:=by rw[hu7];simp[uV]
 have ae3:Below u7.heap.size u7 u7:=Below.refl _ _;have El:u7.heap[w.heap.size+1+1+1+1+1+1]? =some o7:=(ae3.block _ (by omega)).T (by rw[hu7,<-uV];exact World.alloc_heap_new _ _);have Vh:Below u6.heap.size u6 u7:=(show Below u6.heap.size u6 u7 by rw[hu7];exact(Below.refl _ _).alloc (Nat.le_refl _) _).T (ae3.mono (by omega));have uW:u7.heap[w.heap.size+1+1+1+1+1]? =some o6:=(Vh.block _ (by omega)).T (by rw[Z5,<-B6];exact World.alloc_heap_new _ _);have Vi:Below u5.heap.size u5 u7:=(show Below u5.heap.size u5 u6 by rw[Z5];exact(Below.refl _ _).alloc (Nat.le_refl _) _).T (Vh.mono (by omega));have BO:u7.heap[w.heap.size+1+1+1+1]? =some o5:=(Vi.block _ (by omega)).T (by rw[Z4,<-uh];exact World.alloc_heap_new _ _);have Vj:Below u4.heap.size u4 u7:=(show Below u4.heap.size u4 u5 by rw[Z4];exact(Below.refl _ _).alloc (Nat.le_refl _) _).T (Vi.mono (by omega));have zq:u7.heap[w.heap.size+1+1+1]? =some o4:=(Vj.block _ (by omega)).T (by rw[Z3,<-mK];exact World.alloc_heap_new _ _);have Vk:Below u3.heap.size u3 u7:=(show Below u3.heap.size u3 u4 by rw[Z3];exact(Below.refl _ _).alloc (Nat.le_refl _) _).T (Vj.mono (by omega));have uX:u7.heap[w.heap.size+1+1]? =some o3:=(Vk.block _ (by omega)).T (by rw[Z1,<-lH];exact World.alloc_heap_new _ _);have Vl:Below u2.heap.size u2 u7:=(show Below u2.heap.size u2 u3 by rw[Z1];exact(Below.refl _ _).alloc (Nat.le_refl _) _).T (Vk.mono (by omega));have jP:u7.heap[w.heap.size+1]? =some o2:=(Vl.block _ (by omega)).T (by rw[Ss,<-gC];exact World.alloc_heap_new _ _);have Vm:Below u1.heap.size u1 u7:=(show Below u1.heap.size u1 u2 by rw[Ss];exact(Below.refl _ _).alloc (Nat.le_refl _) _).T (Vl.mono (by omega));have eb:u7.heap[w.heap.size]? =some o1:=(Vm.block _ (by omega)).T (by rw[J9];exact World.alloc_heap_new _ _);refine⟨u7,by rw[hu7,Z5,Z4,Z3,Z1,Ss,J9],(show Below w.heap.size w u1 by rw[J9];exact(Below.refl _ _).alloc (Nat.le_refl _) _).T (Vm.mono (by omega)),Ka,eb,jP,uX,zq,BO,uW,El⟩
def kQ:= @Addr.add_mid
def iI:= @Array.any_eq_true
def br:= @Array.getElem?_eq_getElem
def ei:= @Array.getElem?_eq_none
def cT:= @Array.getElem?_setIfInBounds_ne
def bZ:= @Array.getElem?_setIfInBounds_self_of_lt
def iJ:= @Array.getElem_mem
def jS:= @Array.length_toList
def dR:= @Array.mem_of_getElem?
def ng:= @Array.size_append
def eN:= @Array.size_setIfInBounds
def aT:= @Below.heap_alloc
def aq:= @Below.heap_setCell
def ah:= @Below.refl
def jY:= @Below.T
def bQ:= @Bool.and_eq_true
def ez:= @Bool.false_eq_true
def du:= @Boxed.cell
def fe:= @Boxed.frozen
def lp:= @Boxed.new
def kC:= @Boxed.not_row
def gS:= @Boxed.set
def gW:= @ByteArray.toList_eq
def jm:= @Calls.mono
def jJ:= @CallsIn.inRound
def iD:= @DataW.trod_int
def fo:= @Exit.noGoto_ret
def iY:= @Int.natCast_zero
def gF:= @Int.tdiv_eq_ediv_of_nonneg
def dm:= @Int.tmod_eq_emod_of_nonneg
def aI:= @IntKind.wrap_i64
def eo:= @IntKind.wrap_u32
def bR:= @IntKind.wrap_u64
def jK:= @IntKind.wrap_u8
def gX:= @KeepsOthers.setCell
def gO:= @Lib.alloc_old
def iZ:= @Lib.cell_of_heap
def ja:= @List.Pairwise.sublist
def fI:= @List.all_eq_true
def aS:= @List.append_assoc
def cj:= @List.append_nil
def eF:= @List.concat_eq_append
def eK:= @List.cons.injEq
def bS:= @List.cons_append
def eO:= @List.contains_eq_mem
def gG:= @List.countP_cons
def jT:= @List.countP_eq_zero
def gY:= @List.dropWhile_cons
def kR:= @List.drop_append
def ji:= @List.drop_append_of_le_length
def lY:= @List.drop_drop
def bI:= @List.drop_eq_getElem_cons
def dJ:= @List.drop_eq_nil_iff
def dM:= @List.drop_eq_nil_of_le
def gH:= @List.drop_length
def dh:= @List.drop_of_length_le
def eT:= @List.eq_nil_of_length_eq_zero
def dD:= @List.eq_nil_or_concat
def bV:= @List.flatMap_append
def bf:= @List.flatMap_cons
def kG:= @List.flatten_cons
def dY:= @List.foldl_append
def cD:= @List.foldl_cons
def cO:= @List.getElem?_append_left
def bJ:= @List.getElem?_append_right
def eV:= @List.getElem?_cons_succ
def eW:= @List.getElem?_cons_zero
def fi:= @List.getElem?_drop
def aB:= @List.getElem?_eq_getElem
def aC:= @List.getElem?_eq_some_iff
def aW:= @List.getElem?_map
def gI:= @List.getElem?_of_mem
def bB:= @List.getElem?_take
def gq:= @List.getElem?_toArray
def gd:= @List.getElem_cons_succ
def gg:= @List.getElem_cons_zero
def gJ:= @List.getElem_toArray
def ar:= @List.length_append
def aK:= @List.length_cons
def bC:= @List.length_drop
def cw:= @List.length_eq_zero_iff
def aR:= @List.length_map
def bK:= @List.length_nil
def gZ:= @List.length_pos_iff
def gu:= @List.length_singleton
def aX:= @List.length_take
def aJ:= @List.map_append
def bF:= @List.map_cons
def jo:= @List.map_eq_cons_iff
def jq:= @List.map_map
def kS:= @List.map_nil
def fj:= @List.map_singleton
def aG:= @List.mem_append
def cG:= @List.mem_append_left
def cM:= @List.mem_append_right
def aO:= @List.mem_cons
def bM:= @List.mem_cons_of_mem
def bD:= @List.mem_cons_self
def bT:= @List.mem_filter
def ck:= @List.mem_flatMap
def dE:= @List.mem_iff_getElem?
def aM:= @List.mem_map
def ak:= @List.mem_of_getElem?
def bm:= @List.mem_of_mem_drop
def aP:= @List.mem_of_mem_take
def dw:= @List.mem_range
def aE:= @List.mem_singleton
def bn:= @List.nil_append
def dn:= @List.not_mem_nil
def dp:= @List.pairwise_append
def dH:= @List.pairwise_cons
def gU:= @List.pairwise_iff_getElem
def cU:= @List.pairwise_map
def gw:= @List.perm_append_comm
def lI:= @List.range_succ
def dq:= @List.setIfInBounds_toArray
def fk:= @List.set_cons_succ
def eA:= @List.set_cons_zero
def jL:= @List.sum_append
def iT:= @List.sum_cons
def ic:= @List.takeWhile_cons
def aL:= @List.take_add_one
def bj:= @List.take_append_drop
def df:= @List.take_append_of_le_length
def bd:= @List.take_length
def aY:= @List.take_of_length_le
def jr:= @MapKept.findNow_spec
def js:= @MapKept.run_checkKey
def jU:= @MapKept.run_findKey
def iN:= @MapKept.run_getObj_map
def bh:= @Nat.add_assoc
def jt:= @Nat.add_comm
def fB:= @Nat.add_mul
def fU:= @Nat.add_sub_cancel_left
def bb:= @Nat.add_zero
def cQ:= @Nat.div_div_eq_div_mul
def jb:= @Nat.div_eq_of_lt
def jM:= @Nat.div_le_self
def gy:= @Nat.div_lt_iff_lt_mul
def eB:= @Nat.eq_zero_or_pos
def gz:= @Nat.le_div_iff_mul_le
def eC:= @Nat.le_of_eq
def ff:= @Nat.le_of_lt
def jc:= @Nat.le_of_not_lt
def lK:= @Nat.le_refl
def bk:= @Nat.le_succ
def aj:= @Nat.le_trans
def aA:= @Nat.lt_of_lt_of_le
def kT:= @Nat.lt_of_not_le
def cX:= @Nat.lt_or_ge
def fJ:= @Nat.lt_succ_self
def iK:= @Nat.lt_trichotomy
def eL:= @Nat.min_eq_left
def cl:= @Nat.mod_eq_of_lt
def lL:= @Nat.mod_one
def gK:= @Nat.mod_two_eq_zero_or_one
def dr:= @Nat.mul_comm
def eX:= @Nat.mul_le_mul
def fG:= @Nat.mul_le_mul_right
def ju:= @Nat.mul_succ
def kU:= @Nat.ne_of_gt
def lM:= @Nat.pow_pos
def cK:= @Nat.pow_succ
def jv:= @Nat.sub_self
def jw:= @Nat.succ_mul
def fX:= @Nat.xor_lt_two_pow
def aN:= @Nat.zero_add
def aD:= @Nat.zero_le
def cY:= @Nat.zero_mul
def dy:= @Ne.symm
def nF:= @Oper.semAt_plain
def lJ:= @Oper.upon_value
def gh:= @Option.map_eq_some_iff
def eM:= @Option.map_some
def fp:= @Option.some.inj
def dz:= @Option.some.injEq
def fY:= @Option.toList_some
def lN:= @OwnFrom.and
def kV:= @Region.free_spec
def jx:= @Region.noSelect_spec
def eD:= @Sem.run_bind
def ai:= @World.alloc_heap_new
def aZ:= @World.block_lt_of_cell?
def bO:= @World.cell?_alloc_new
def bq:= @World.cell?_of_block
def ki:= @World.ownsRow_made
def dA:= @World.ownsRow_nil
def aV:= @World.putObj_heap_other
def gi:= @World.putObj_heap_same
def bt:= @World.size_alloc
theorem kj(h:p:=by simp[hy]):p:=h
theorem ui(h:p:=by have:=(cS h).1;omega):p:=h
theorem bW(h:p:=by go_grown):p:=h
theorem qL(h:p:=by rw[vr];omega):p:=h
theorem kt(h:p:=by simp[maxLen];omega):p:=h
theorem mN(h:p:=by simp[s5];omega):p:=h
theorem bz(h:p:=by simp[Value.oneCell']):p:=h
theorem uj(h:p:=by simpa[Q4]using qw.O.1):p:=h
theorem jy(h:p:=by simpa using h):p:=h
theorem uk(h:p:=by rw[sQ];simp):p:=h
theorem bp(h:p:=by rfl):p:=h
theorem oU(h:p:=by rw[qM];omega):p:=h
theorem um(h:p:=by rw[h0.1,h0.2.1];kernel_rfl):p:=h
theorem EI(h:p:=by rw[h1.1,h1.2.1];kernel_rfl):p:=h
theorem iq(h:p:=by rw[lC rfl];go_simp):p:=h
theorem jz(h:p:=by simp[hx]):p:=h
theorem zt(h:p:=by have:=hB.O.size;simp;omega):p:=h
theorem EJ(h:p:=by rcases bg bA with⟨_,h,_⟩|⟨g,_,rfl,_⟩<;>first|omega|exact⟨_,rfl⟩):p:=h
theorem uo(h:p:=by intro j x;rcases j with _|_|_|_|j<;>simp):p:=h
theorem lZ(h:p:=by simp[fK]):p:=h
theorem EK(h:p:=by obtain⟨h1,h2⟩:=aC.1 hx;rw[<-h2];exact bI h1):p:=h
theorem dt(h:p:=by simp<;>omega):p:=h
theorem oV(h:p:=by rw[ae4];omega):p:=h
theorem EL(h:p:=by have:=congrArg List.length gC;simpa using this):p:=h
theorem oW(h:p:=by intro j x;rcases j with _|_|_|j<;>simp):p:=h
theorem zu(h:p:=by rw[hW,hA];exact ai w3 _):p:=h
theorem zv(h:p:=by rw[hW];exact ek.O.alloc ek.O.size _):p:=h
theorem EM(h:p:=by rw[hW];exact qb.O.below ((ah _ w3).alloc (cH) _)):p:=h
theorem fS(h:p:=by cases e):p:=h
theorem qN(h:p:=by first|trivial|rfl):p:=h
theorem fq(h:p:=by rw[bY];exact gb):p:=h
theorem zw(h:p:=by have:=hk.O;have:=hm.O;(try simp only[aK]at*);omega):p:=h
theorem oX(h:p:=by have:=HDE.O;rw[pH]at this;simpa using this):p:=h
theorem EN(h:p:=by rw[<-hE.O,HT.O.2,Ma (by intro y2 r2 e;cases e;exact cL)];simp[uq,ae5.O]):p:=h
theorem EO(h:p:=by intro u hu;obtain⟨y,_,hy⟩:=ck.1 hu;exact Pc.one y u hy):p:=h
theorem mO(h:p:=by rw[fH];exact gb):p:=h
theorem qO(h:p:=by simp[<-hn]):p:=h
theorem EP(h:p:=by rw[gy de];rw[cK]at h;exact h):p:=h
theorem qP(h:p:=by simp[<-hB]):p:=h
theorem ur(h:p:=by rw[hx];simp[fK]):p:=h
theorem qQ(h:p:=by simp[dS,fK]):p:=h
theorem ir(h:p:=by rw[H1.O.2.1];omega):p:=h
theorem uu(h:p:=by rw[results_cell_tmp rfl];go_simp):p:=h
theorem qR(h:p:=by rw[gV];exact gb):p:=h
theorem zx(h:p:=by rw[vO];exact((gb).alloc (cH) _).drew):p:=h
theorem oY(h:p:=by rw[mu];exact gb):p:=h
theorem uv(h:p:=by rw[vO];exact(gb).alloc (cH) _):p:=h
theorem zy(h:p:=by have:=(cS ((h2 (w+1+1+1+1) (iX gm.O.1 nE.O.lt)).T lq.O.rk)).1;omega):p:=h
theorem ER(h:p:=by rw[HT.O,ES,aJ,Il.O];rfl):p:=h
theorem zz(h:p:=by rw[ar,BP.O];rfl):p:=h
theorem mP(h:p:=by rw[C0];rfl):p:=h
theorem mQ(h:p:=by cases h):p:=h
theorem ET(h:p:=by unfold nG;rw[aW,hm];rfl):p:=h
theorem EU(h:p:=by rw[iu,vJ.O.2.1];exact yj G3.O.marks _):p:=h
theorem EV(h:p:=by rw[ar,<-HL1.O];exact h1):p:=h
theorem uw(h:p:=by rw[kd,<-mu];exact gb):p:=h
theorem EW(h:p:=by have e6:L 5=false:=e5;rw[h5]at e6;cases e6):p:=h
theorem ux(h:p:=by rw[if_neg an];omega):p:=h
theorem EX(h:p:=by rw[ho];intro c hc';cases hc'):p:=h
theorem EY(h:p:=by rw[HTK.O];exact⟨ds.drop (i+1),bj _ _⟩):p:=h
theorem zB(h:p:=by rw[aR];omega):p:=h
theorem oZ(h:p:=by simp+contextual [eq_comm]):p:=h
theorem o8(h:p:=by rw[HS1.O,kD.O,HP.O];simp;omega):p:=h
theorem uy(h:p:=by rw[G4.O];omega):p:=h
theorem EZ(h:p:=by rw[ng,size_zeroCells,size_zeroCells];show n*11+(cp - n)*11=cp*11;omega):p:=h
theorem E0(h:p:=by rw[HW.O]at kW hbg;exact⟨hbg,kW, λ p hp=>by cases hp⟩):p:=h
theorem uz(h:p:=by rw[hlen];have:=HI.O;have:=HML.O;omega):p:=h
theorem zC(h:p:=by rw[ar,I0.O];rfl):p:=h
theorem qS(h:p:=by rw[mR];(simp[UE]<;>omega)):p:=h
theorem zD(h:p:=by rw[mR,UE];omega):p:=h
theorem E1(h:p:=by have:=Z6.O;rw[uV]at this;simp only[ar]at this;omega):p:=h
theorem E2(h:p:=by have h:=HQ.O.2.1.Pa;have e:=I1.O;rw[e];exact h):p:=h
theorem E3(h:p:=by have h:=E4.O;rw[Q5.O.1]at h;exact h):p:=h
theorem zE(h:p:=by rw[<-aJ,bj]):p:=h
theorem zF(h:p:=by rw[Su];have:=sh.O.2.2.2.2;omega):p:=h
theorem zG(h:p:=by rw[ajP rfl];go_simp):p:=h
theorem Pb(h:p:=by rw[gV];exact(H1.O.1.T (bG.mono H1.O.1.size)).setCell (p:=(za X 18)) (show w.heap.size<=X by have:=H1.O.2.1;omega) _):p:=h
theorem E5(h:p:=by rw[B6];have:=pV.size;have:=H2.O.2.2.2.2.2.size;have:=H1.O.2.1;omega):p:=h
theorem E6(h:p:=by rw[B6];have:=pV.size;have:=(cS H2.O.2.2.2.1).1;omega):p:=h
theorem E7(h:p:=by rw[HO.O.2.2.2.2.2.2];have:=HO.O.2.2.1.size;have:=H2.O.2.2.2.2.2.size;have:=H1.O.2.1;omega):p:=h
theorem E8(h:p:=by have:=(aC.1 hj).1;have:=HL.O.2;omega):p:=h
def AD(n:Nat):Nat:=Nat.xor (Nat.div n 2) (Nat.mul (Nat.mod n 2) 2197175160)
def Mb:Nat->Nat->Nat
 |0,m=>m
 |k+1,m=>AD (Mb k m)
theorem Vo(n:Nat)(h:n<4294967296):AD n<4294967296:=by
 have h1:Nat.div n 2<2^32:=by show n/2<_;omega
 have h2:Nat.mul (Nat.mod n 2) 2197175160<2^32:=by show n%2*2197175160<_;omega
 exact fX h1 h2
theorem Pd(n:Nat)(h:n<4294967296):∀k,Mb k n<4294967296
 |0=>h
 |k+1=>Vo _ (Pd n h k)
theorem Sv(m:Nat)(h:m%2=0):AD m=m/2:=by have:AD m=(m/2)^^^(m%2*2197175160):=rfl;rw[this,h];simp
theorem Vp(m:Nat)(h:m%2=1):AD m=(m/2)^^^2197175160:=by have:AD m=(m/2)^^^(m%2*2197175160):=rfl;rw[this,h]
theorem Im{a:Addr}(h:w.cell? a=some u)(v:Value):(w.setCell a v).cell? a=some v:=World.cell?_setCell_same _ _ _ h
theorem Sw(b o:Nat)(n c:Nat)(w:World)(hc:w.cell? ⟨b,o,none⟩=some (.int .u32 (n:Int)))(hf:w.frozen? ⟨b,o,none⟩=false)(hn:n<4294967296)(Vq:c<256):
 Calls Tryz.prog 112 #[.pointer (some ⟨b,o,none⟩),.int .u8 (c:Int)] w λ e w'=>e= .returned (.tuple #[])/\w'=w.setCell ⟨b,o,none⟩ (.int .u32 (Mb 8 (n^^^c):Nat)):=by
 have hx:bits .xor .u32 (n:Int) (c:Int)=((n^^^c:Nat):Int):=u32_xor_nat n c hn an;have zH:n^^^c<4294967296:=fX (n:=32) hn an;generalize hgm:n^^^c=m0 at hx zH⊢;clear hgm;go_enter Tryz.func112,Tryz.ntmps112;go_wp2
 go_loopw [16] (λ i wr=>∃k:Nat,k<=8/\i= .int .i64 (k:Int)/\wr=w.setCell ⟨b,o,none⟩ (.int .u32 (Mb k m0:Nat))) (λ i _=>8 - (intOf i).toNat)
 case atStart=>exact⟨0,an,rfl,rfl⟩
 case round=>
  obtain⟨k,hk,rfl,hw⟩:=hrel;have hcr:wr.cell? ⟨b,o,none⟩=some (.int .u32 (Mb k m0:Nat)):=by rw[hw];exact Im hc _
  have nH:wr.frozen? ⟨b,o,none⟩=false:=by rw[hw];simpa using hf
  have Hw:=ag hw;clear hw;have hm:=Pd m0 zH k;have hs:Mb (k+1) m0=AD (Mb k m0):=rfl;have he:k=8->Mb 8 m0=Mb k m0:= λ h=>by rw[h]
  have He:=ag he;clear he;generalize Mb k m0=m at hcr hm hs Hw He;have Hs:=ag hs;clear hs hc hf hx;by_cases YW:k<8
  ·rcases gK m with hp|hp
   ·have hand:bits .and .u32 (m:Int) 1=0:=by
     have:=u32_and_nat m 1 hm de;rw[Nat.and_one_is_mod,hp]at this;exact this
    have Hp:=ag (Sv m hp);clear hp;go_wp2;refine⟨⟨k+1,an,by go_num,?_⟩,by simp[intOf];omega⟩;rw[Hs.O,Hp.O,Hw.O,setCell_setCell];rfl
   ·have hand:bits .and .u32 (m:Int) 1=1:=by
     have:=u32_and_nat m 1 hm de;rw[Nat.and_one_is_mod,hp]at this;exact this
    have hxo:bits .xor .u32 ((m:Int)/2) 2197175160=((m/2^^^2197175160:Nat):Int):=u32_xor_nat (m/2) 2197175160 an de;have Hp:=ag (Vp m hp);clear hp;go_wp2;refine⟨⟨k+1,an,by go_num,?_⟩,by simp[intOf];omega⟩;rw[Hs.O,Hp.O,Hw.O,setCell_setCell,setCell_setCell]
  ·have h8:k=8:=an;have H8:=ag h8;clear h8;go_wp2;go_end0;refine⟨rfl,?_⟩;rw[Hw.O,He.O H8.O]
def fm(n:Nat):Nat:=4294967295^^^n
def mv(a:Nat)(xs:List Nat):Nat:=xs.foldl (λ a x=>Mb 8 (a^^^x)) a
theorem jZ(n:Nat)(h:n<4294967296):fm n<4294967296:=fX (n:=32) de h
theorem qx:∀(xs:List Nat) (a:Nat),a<4294967296->(∀x∈xs,x<256)->mv a xs<4294967296
 |[],a,h,_=>h
 |x::xs,a,h,hx=>qx xs _ (Pd _ (fX (n:=32) h (cm (hx x cP))) 8) (λ y hy=>hx y kj)
theorem Sx(a:Nat)(xs:List Nat)(x:Nat):mv a (xs++[x])=Mb 8 (mv a xs^^^x):=by simp[mv]
theorem E9(s:Nat)(xs:List Nat)(B o c:Nat)(w:World)(hs:s<4294967296)(hx:∀x∈xs,x<256)(hl:xs.length<1000000)
 (qT:∀(j:Nat) (x:Nat),xs[j]? =some x->w.cell? (za B (o+j))=some (.int .u8 (x:Int))):
 Calls Tryz.prog 85 #[.int .u32 (s:Int),.slice (some ⟨B,o,none⟩) xs.length c] w λ e w'=>e= .returned (.int .u32 (fm (mv (fm s) xs):Nat))/\Below w w w':=by
 have Sy:bits .xor .u32 4294967295 (s:Int)=((fm s:Nat):Int):=u32_xor_nat 4294967295 s de hs;have hsg:IntKind.u32.signed=false:=rfl;have Kb:IntKind.u32.max=4294967295:=rfl;have Hc:=ag qT;have Hx:=ag hx;clear qT hx;go_enter Tryz.func85,Tryz.ntmps85;go_wp2
 go_loopw [16] (λ i wr=>∃k:Nat,k<=xs.length/\i= .int .i64 (k:Int)/\Hid (wr.heap[w.heap.size]? =some (.cells #[.int .u32 (mv (fm s) (xs.take k):Nat)] 215 (0,0)))/\Hid (Below w w wr)) (λ i _=>xs.length - (intOf i).toNat)
 case atStart=>
  refine⟨0,aD _,rfl,?_,?_⟩
  ·exact ag (by show(w.heap.push _)[w.heap.size]? =_;rw[Array.getElem?_push_size];rfl)
  ·exact ag ((gb).alloc (cH) _)
 case round=>
  obtain⟨k,hk,rfl,dK,B9⟩:=hrel;by_cases cL:k<xs.length
  ·have h1:=cell_of_one dK.O;have h2:=free_of_one dK.O;obtain⟨x,Pe⟩:∃x,xs[k]? =some x:=⟨xs[k],by simp[cL]⟩;have Ca:wr.cell? (za B (o+k))=some (.int .u8 (x:Int)):=by
    have:=Hc.O k x Pe;have hB:B<w.heap.size:=by
     rcases cX B w with h|h
     ·exact h
     ·simp[World.cell?,ei h]at this
    rw[B9.O.cell (p:=(za B (o+k))) hB];exact this
   have Mc:x<256:=Hx.O x (ak Pe);have fh:mv (fm s) (xs.take k)<4294967296:=qx _ _ (jZ s hs) (λ y hy=>Hx.O y (aP hy));have Hn:Hid (mv (fm s) (xs.take (k+1))=Mb 8 (mv (fm s) (xs.take k)^^^x)):=ag (by rw[aL,Pe];exact Sx _ _ _)
   clear Pe Sy;generalize mv (fm s) (xs.take k)=a at h1 fh Hn dK
   go_wp2_with((with_reducible refine(Sw _ _ a x _ h1 h2 fh Mc).mono ?_);rintro e w' ⟨rfl,rfl⟩)
   exact⟨⟨k+1,an,by go_num,ag (by rw[Hn.O];exact one_setCell dK.O),ag (B9.O.setCell (cH) _)⟩,by simp[intOf];omega⟩
  ·have h1:=cell_of_one dK.O;have YX:Hid (xs.take k=xs):=ag (aY an);have fh:mv (fm s) (xs.take k)<4294967296:=qx _ _ (jZ s hs) (λ y hy=>Hx.O y (aP hy));have pI:bits .xor .u32 4294967295 ((mv (fm s) (xs.take k):Nat):Int)=((fm (mv (fm s) (xs.take k)):Nat):Int):=u32_xor_nat 4294967295 _ de fh;have He:Hid (fm (mv (fm s) (xs.take k))=fm (mv (fm s) xs)):=ag (by rw[YX.O]);clear Sy;generalize mv (fm s) (xs.take k)=a at h1 fh pI dK He;go_wp2;go_ret;exact⟨congrArg (λ v:Nat=>Ending.returned (.int .u32 (v:Int))) He.O,B9.O⟩
theorem Q6(xs:List Nat)(B o c:Nat)(w:World)(hx:∀x∈xs,x<256)(hl:xs.length<1000000)
 (qT:∀(j:Nat) (x:Nat),xs[j]? =some x->w.cell? (za B (o+j))=some (.int .u8 (x:Int))):
 Calls Tryz.prog 84 (sg (some ⟨B,o,none⟩) xs.length c) w λ e w'=>e= .returned (.int .u32 (fm (mv (fm 0) xs):Nat))/\Below w w w':=by
 have hm:Calls Tryz.prog 85 (zq2 (some ⟨B,o,none⟩) xs.length c) w λ e w'=>e= .returned (.int .u32 (fm (mv (fm 0) xs):Nat))/\Below w w w':=E9 0 xs B o c w de hx hl qT;have Hm:=ag hm;clear hm qT hx;go_enter Tryz.func84,Tryz.ntmps84
 go_wp2_with((with_reducible refine Hm.O.mono ?_);rintro e w' ⟨rfl,hb⟩)
 go_ret;exact⟨rfl,hb⟩
def ay(w:World)(a:az)(xs:List Nat):Prop:=
 (∀x∈xs,x<256)/\(xs=[]\/∃B o,a=some ⟨B,o,none⟩/\∀(j:Nat) (x:Nat),xs[j]? =some x->w.cell? (za B (o+j))=some (.int .u8 (x:Int)))
theorem ay.below{a:az}(h:ay w a xs)(hb:Below w w w'):ay w' a xs:=by
 refine⟨h.1,?_⟩;rcases h.2 with h0|⟨B,o,ha,hc⟩
 ·exact .inl h0
 ·exact .inr ⟨B,o,ha, λ j x hx=>(hb.cell (p:=(za B (o+j))) (aZ w _ (hc j x hx))).T (hc j x hx)⟩
theorem ay.nil(w:World)(a:az):ay w a []:=⟨by simp,.inl rfl⟩
structure YY where
 at_:Nat
 a:az
 bs:List Nat
 cap:Nat
def ep:Nat->List (az×List Nat×Nat)->List YY
 |_,[]=>[]
 |n,(a,bs,c)::l=>⟨n,a,bs,c⟩::ep (n+bs.length) l
abbrev Piece:=az×List Nat×Nat
def aw(ps:List Piece):List Nat:=ps.flatMap λ p=>p.2.1
def qV(w:World)(b:az)(ps:List Piece):Prop:=
 (ps=[]\/∃B o,b=some ⟨B,o,none⟩/\∀(j:Nat) (p:Piece),ps[j]? =some p->w.cell? (za B (o+j))=some (.slice p.1 p.2.1.length p.2.2))/\
 ∀p∈ps,p.2.1≠[]/\p.2.1.length<=p.2.2/\ay w p.1 p.2.1
theorem qV.below{w w':World}{b:az}{ps:List Piece}(h:qV w b ps)(hb:Below w w w'):qV w' b ps:=by
 refine⟨?_, λ p hp=>⟨(h.2 p hp).1,(h.2 p hp).2.1,(h.2 p hp).2.2.below hb⟩⟩;rcases h.1 with h0|⟨B,o,ha,hc⟩
 ·exact .inl h0
 ·exact .inr ⟨B,o,ha, λ j p hx=>(hb.cell (p:=(za B (o+j))) (aZ w _ (hc j p hx))).T (hc j p hx)⟩
def bN(b:az)(k c:Nat):Value:=.agg (fA b k c)
structure aQ(w:World)(b:az)(c:Nat)(ps:List Piece):Prop where
 pieces:qV w b ps
 small:(aw ps).length<=524288
 room:ps.length<=c
theorem aQ.below{w w':World}{b:az}{c:Nat}{ps:List Piece}(h:aQ w b c ps)(hb:Below w w w'):aQ w' b c ps:=⟨h.pieces.below hb,h.small,h.room⟩
theorem I3:∀(ps:List Piece),(∀p∈ps,p.2.1≠[])->ps.length<=(aw ps).length
 |[],_=>by simp
 |p::ps,h=>by
  have h1:=I3 ps (λ q hq=>h q (by simp[hq]));have h2:=h p cP;have:0<p.2.1.length:=by
   cases hp:p.2.1 with
   |nil=>exact absurd hp h2
   |cons a l=>simp
  simp[aw]at h1⊢;omega
theorem aQ.LB{b:az}{ps:List Piece}(h:aQ w b c ps):ps.length<=524288:=aj (I3 ps λ p hp=>(h.pieces.2 p hp).1) h.small
theorem uY(ps:List Piece)(j:Nat)(p:Piece)(h:ps[j]? =some p):(aw (ps.take (j+1))).length=(aw (ps.take j)).length+p.2.1.length:=by rw[aL,h];simp[aw]
theorem lD(ps:List Piece)(j:Nat):(aw (ps.take j)).length<=(aw ps).length:=by
 have:aw ps=aw (ps.take j)++aw (ps.drop j):=by
  conv=>lhs;rw[<-bj j ps]
  exact bV
 rw[this,ar];exact Nat.le_add_right _ _
theorem Me(m:Nat)(ps:List Piece)(j:Nat)(p:Piece)(h:ps[j]? =some p):ep m (ps.drop j)=⟨m,p.1,p.2.1,p.2.2⟩::ep (m+p.2.1.length) (ps.drop (j+1)):=by obtain⟨h1,h2⟩:=aC.1 h;rw[bI h1,h2];obtain⟨a,bs,c⟩:=p;rfl
theorem l7(h:Below (w.alloc (.cells cs t)).heap.size (w.alloc (.cells cs t)) w2)(j:Nat)(v:Value)(hj:cs[j]? =some v):w2.cell? ⟨w.heap.size,j,none⟩=some v:=by rw[h.cell (p:=⟨w.heap.size,j,none⟩) (by rw[bt];exact fJ _),bO];exact hj
theorem vP{b:az}(h:Below (w.alloc (.cells (fA b k c) t)).heap.size (w.alloc (.cells (fA b k c) t)) w2):
 w2.cell? (za w 0)=some (.slice none 0 0)/\w2.cell? (za w 1)=some (.slice b k c)/\w2.cell? (za w 2)=some (.int .i64 (-1))/\w2.cell? (za w 3)=some (.int .i64 (-1))/\w2.cell? (za w 4)=some (.bool false):=
 ⟨l7 h 0 _ rfl,l7 h 1 _ rfl,l7 h 2 _ rfl,l7 h 3 _ rfl,l7 h 4 _ rfl⟩
theorem carry{p:Addr}(h:Below w w w')(c:w.cell? p=some v):w'.cell? p=some v:=(h.cell (aZ w _ c)).T c
theorem ae7{ds es:Array Value}{u v:TypeId}(h:Below (((w.alloc (.cells cs t)).alloc (.cells ds u)).alloc (.cells es v)).heap.size (((w.alloc (.cells cs t)).alloc (.cells ds u)).alloc (.cells es v)) w2):
 (∀j x,cs[j]? =some x->w2.cell? ⟨w.heap.size,j,none⟩=some x)/\(∀j x,ds[j]? =some x->w2.cell? ⟨w.heap.size+1,j,none⟩=some x)/\(∀j x,es[j]? =some x->w2.cell? ⟨w.heap.size+1+1,j,none⟩=some x):=by
 have h2:=h.mono (B':=((w.alloc (.cells cs t)).alloc (.cells ds u)).heap.size) cP;have e3:=((ah _ ((w.alloc (.cells cs t)).alloc (.cells ds u))).alloc (cH) (.cells es v)).T h2;have e2:=((ah _ (w.alloc (.cells cs t))).alloc (cH) (.cells ds u)).T (e3.mono cP);refine⟨λ j x hj=>l7 e2 j x hj, λ j x hj=>?_, λ j x hj=>?_⟩
 ·have:=l7 e3 j x hj;rwa [bt]at this
 ·have:=l7 h j x hj;rwa [bt,bt]at this
def lO(at_ n:Nat)(x:YY):List Nat:=(x.bs.take (at_+n - x.at_)).drop (at_ - x.at_)
theorem Io(bs r:List Nat)(k j:Nat):((bs++r).take k).drop j=(bs.take k).drop j++(r.take (k - bs.length)).drop (j - bs.length):=by
 rw[List.take_append,kR,aX];by_cases h:bs.length<=k
 ·rw[Nat.min_eq_right h]
 ·rw[show k - bs.length=0 by omega];simp
theorem aa6(at_ n:Nat):∀(ps:List Piece) (m:Nat),(ep m ps).flatMap (lO at_ n)=((aw ps).take (at_+n - m)).drop (at_ - m)
 |[],m=>by simp[ep,aw]
 |(a,bs,c)::ps,m=>by
  have h1:aw ((a,bs,c)::ps)=bs++aw ps:=by simp[aw]
  rw[h1,Io,ep,bf,aa6 at_ n ps];rw[show at_+n - (m+bs.length)=at_+n - m - bs.length by omega,show at_ - (m+bs.length)=at_ - m - bs.length by omega];rfl
theorem I4{x:YY}(h:at_+n<=x.at_):lO at_ n x=[]:=by unfold lO;rw[show at_+n - x.at_=0 by omega];simp
theorem Pf{x:YY}(h:x.at_+x.bs.length<=at_):lO at_ n x=[]:=by unfold lO;exact dM (by rw[aX];omega)
theorem Mf(ps:List Piece):∀(m:Nat),∀x∈ep m ps,m<=x.at_:=by
 induction ps with
 |nil=>intro m x hx;simp[ep]at hx
 |cons p ps ih=>
  obtain⟨a,bs,c⟩:=p;intro m x hx;rcases aO.1 hx with rfl|hx
  ·exact cH
  ·have:=ih _ x hx;omega
theorem Pg(at_ n:Nat)(ps:List Piece):∀(m:Nat) (pre rest:List YY) (x:YY),ep m ps=pre++x::rest->at_+n<=x.at_->(ep m ps).flatMap (lO at_ n)=pre.flatMap (lO at_ n):=by
 induction ps with
 |nil=>intro m pre rest x h;simp[ep]at h
 |cons p ps ih=>
  obtain⟨a,bs,c⟩:=p;intro m pre rest x h hx;cases pre with
  |nil=>
   have h':=h;rw[ep,bn]at h';obtain⟨e1,e2⟩:=List.cons.inj h';rw[h];simp only[bn,bf,List.flatMap_nil,I4 hx];rw[<-e2];refine List.flatMap_eq_nil_iff.2 λ y hy=>I4 ?_;have:=Mf ps _ y hy;rw[<-e1]at hx;simp at hx;omega
  |cons y pre=>
   rw[ep,bS]at h;obtain⟨e1,e2⟩:=List.cons.inj h;rw[ep,bf,bf,ih _ _ _ _ e2 hx,e1]
structure oM(n₀:Nat)(S:Nat->Prop)(W W':World):Prop where
 below:Below n₀ W W'
 same:∀k,S k->W'.heap[k]? =W.heap[k]?
theorem oM.refl(n₀:Nat)(S:Nat->Prop)(W:World):oM n₀ S W W:=⟨gb, λ _ _=>rfl⟩
theorem oM.T{n₀:Nat}{S:Nat->Prop}{A B C:World}(h:oM n₀ S A B)(k:oM n₀ S B C):oM n₀ S A C:=⟨h.below.T k.below, λ j hj=>(k.same j hj).T (h.same j hj)⟩
theorem oM.cell{S:Nat->Prop}{B:World}(h:oM n₀ S A B){p:Addr}(hp:S p.block):B.cell? p=A.cell? p:=bq (w:=A) (h.same p.block hp)
theorem oM.putObj{n₀:Nat}{S:Nat->Prop}{w:World}(hn:n₀<=w.heap.size)(hS:∀k,S k->k<w.heap.size)(W:World)(l:Nat)(o o':Obj)(hl:w.heap.size<=l)(h:W.heap[l]? =some o)(_:o.isCells=false)(_:o.isWalk=false):oM n₀ S W (W.putObj l o'):=
 ⟨(ah n₀ W).grown (grownBy_putObj' W l o') ui (λ k e=>by cases e;omega), λ k hk=>aV (cm (hS k hk))⟩
theorem oM.bH{S:Nat->Prop}(h:Below W W W')(hn:n₀<=W.heap.size)(hS:∀k,S k->k<W.heap.size):oM n₀ S W W':=⟨h.mono hn, λ k hk=>h.block k (hS k hk)⟩
section
attribute [local go_sem] Oper.semAt_some
theorem Vr(b:az)(k c:Nat)(w:World):
 Calls Tryz.prog 210 #[bN b k c] w λ e w'=>e= .returned (.func (.func 236) #[] (iS (zp w)))/\w'=w.alloc (.cells (fA b k c) 31):=by
 unfold bN;go_enter Tryz.func210,Tryz.ntmps210;go_wp2;go_ret;exact⟨rfl,rfl⟩
def iE:YY:=⟨0,none,[],0⟩
def Vs(w:World)(x:YY):Prop:=ay w x.a x.bs/\x.bs.length<=x.cap/\x.at_<=524288/\x.bs.length<=524288/\(x.bs=[]->x.at_=0)
abbrev qd(w:World):={x:YY//Vs w x}
def SB{w:World}(x:qd w):Array Value:=#[.int .i64 (x.1.at_:Int),.slice x.1.a x.1.bs.length x.1.cap]
theorem Vt(F:Fence)(n:Nat)(hF:F.fn 236)(BQ:F.round=none)(hn:1<=n)(w0:World)(l Bn n₀:Nat)(b:az)(c:Nat)(ps:List Piece)(rs:List (qd w0))(J Jx:List (qd w0)->World->Prop)
 (Ce:rs.map Subtype.val=iE::ep 0 ps)
 (hY:∀pre x W,J pre W->pre.length<rs.length->YieldAt F (n - 1) Tryz.prog l (SB x) W λ e W'=>
   (e= .returned (.bool true)/\J (pre++[x]) W'/\oM n₀ (·=Bn) W W')\/(e= .returned (.bool false)/\Jx (pre++[x]) W'))
 (W:World)(nt:W.cell? (za Bn 0)=some (.slice none 0 0))(cN:W.cell? (za Bn 1)=some (.slice b ps.length c))
 (hP:aQ W b c ps)(sc:ps≠[]->∀B o,b=some ⟨B,o,none⟩->B<n₀)(h0:J [] W):
 CallsIn F n Tryz.prog 236 #[.func (.yield l) #[] #[],.pointer (zp Bn)] W λ e W'=>(∃v,e= .returned v)/\
  ((∃ys,ys=rs/\J ys W')\/(∃pre,pre<+:rs/\Jx pre W')):=by
 obtain⟨x0,rs',rfl⟩:∃x0 rs',rs=x0::rs':=by
  cases rs with
  |nil=>simp at Ce
  |cons x l=>exact⟨x,l,rfl⟩
 obtain⟨h0v,agT⟩:x0.1=iE/\rs'.map Subtype.val=ep 0 ps:=by simpa using Ce
 have he0:SB x0=#[.int .i64 0,.slice none 0 0]:=by simp[SB,h0v,iE]
 have BP:=hP.LB;have jN:=hP.small;have Hc:=ag hP.pieces;have Hbb:=ag sc;clear hP sc;refine callsIn_of_wp Tryz.func236 rfl hF ?_ BQ;simp only[Tryz.ntmps236,UD,Nat.reduceAdd,Nat.reduceSub];obtain⟨f1,t1,a1,b1,tt,YZ⟩:=hY [] x0 W h0 cP;rw[he0]at tt;gi_wp2;refine YZ.mono ?_;rintro e W1 (⟨rfl,hJ1,C1⟩|⟨rfl,eb⟩)
 ·have aiN:W1.cell? (za Bn 1)=some (.slice b ps.length c):=(C1.cell (p:=(za Bn 1)) rfl).T cN;gi_wp2
  gi_loopw [3,17] (λ a i wr=>∃(pre rest:List (qd w0)) (m:Nat),rs'=pre++rest/\i= .int .i64 (pre.length:Int)/\a= .int .i64 (m:Int)/\m=(aw (ps.take pre.length)).length/\rest.map Subtype.val=ep m (ps.drop pre.length)/\J (x0::pre) wr/\Hid (Below n₀ W wr)) (λ _ i _=>ps.length - (intOf i).toNat)
  case atStart=>exact⟨[],rs',0,rfl,rfl,rfl,by simp[aw],by simpa using agT,hJ1,ag C1.below⟩
  case round=>
   obtain⟨pre,rest,m,hpr,rfl,rfl,hm,sj,hJs,hB⟩:=hrel;have Mg:m<=524288:=cm (lD ps pre.length);by_cases cL:pre.length<ps.length
   ·obtain⟨p,hp⟩:∃p,ps[pre.length]? =some p:=⟨ps[pre.length],by simp[cL]⟩;rw[Me m ps _ p hp]at sj;have SC:=uY ps _ p hp;have hm3:=lD ps (pre.length+1);obtain⟨x,Mh,rfl⟩:∃x Mh,rest=x::Mh:=by
     cases rest with
     |nil=>simp at sj
     |cons x l=>exact⟨x,l,rfl⟩
    obtain⟨hxv,Vu⟩:x.1=⟨m,p.1,p.2.1,p.2.2⟩/\Mh.map Subtype.val=ep (m+p.2.1.length) (ps.drop (pre.length+1)):=by simpa using sj
    have hex:SB x=#[.int .i64 (m:Int),.slice p.1 p.2.1.length p.2.2]:=by simp[SB,hxv]
    obtain⟨B,o,rfl,dK⟩:∃B o,b=some ⟨B,o,none⟩/\wr.cell? (za B (o+pre.length))=some (.slice p.1 p.2.1.length p.2.2):=by
     rcases Hc.O.1 with h|⟨B,o,hb,hc⟩
     ·rw[h]at cL;simp at cL
     ·exact⟨B,o,hb,(hB.O.cell (p:=(za B (o+pre.length))) (Hbb.O (λ e=>by rw[e]at cL;simp at cL) B o hb)).T (hc _ p hp)⟩
    obtain⟨f2,t2,a2,b2,I5,hR2⟩:=hY (x0::pre) x wr hJs (by simp[hpr]);rw[hex]at I5;have hpb:p.2.1.length<=524288:=an;have hmb:(m:Int)+(p.2.1.length:Int)<=524288:=an;have Hm:=ag hm;have Hm2:=ag SC;have Hr:=ag Vu;clear sj Vu hm SC hm3 hp hxv hex;gi_wp2;refine hR2.mono ?_;rintro e W3 (⟨rfl,hJ3,oN⟩|⟨rfl,agU⟩)
    ·gi_wp2
     go_roundw
     case rel=>exact⟨pre++[x],Mh,m+p.2.1.length,by simp[hpr],by simp,by simp,by rw[ar,gu,Hm2.O,<-Hm.O],by simpa using Hr.O,hJ3,ag (hB.O.T oN.below)⟩
     case measure=>simp[intOf];omega
    ·gi_wp2;refine bodyPost_ret (results_none rfl _ _ _) rfl ?_;exact⟨⟨_,rfl⟩,.inr ⟨x0::(pre++[x]),⟨Mh,by simp[hpr]⟩,agU⟩⟩
   ·have Vx:rest=[]:=by
     rw[dM an]at sj;exact List.map_eq_nil_iff.1 sj
    subst Vx;gi_wp2;go_end0;exact⟨⟨_,rfl⟩,.inl ⟨_,rfl,by rw[hpr];simpa using hJs⟩⟩
 ·gi_wp2;refine bodyPost_ret (results_none rfl _ _ _) rfl ?_;exact⟨⟨_,rfl⟩,.inr ⟨_,⟨rs',rfl⟩,eb⟩⟩
theorem uZ:∀(ps:List Piece) (m:Nat),(ep m ps).length=ps.length
 |[],_=>rfl
 |(_,_,_)::ps,m=>by simp[ep,uZ ps]
theorem C2{w:World}:∀(ps:List Piece) (m:Nat),(∀p∈ps,p.2.1≠[]/\p.2.1.length<=p.2.2/\ay w p.1 p.2.1)->m+(aw ps).length<=524288->∀x∈ep m ps,Vs w x/\m<=x.at_
 |[],_,_,_,x,hx=>by simp[ep]at hx
 |(a,bs,c)::ps,m,h,hm,x,hx=>by
  have h2:(aw ((a,bs,c)::ps)).length=bs.length+(aw ps).length:=by simp[aw]
  rw[h2]at hm;rcases aO.1 hx with rfl|hx
  ·have:=h (a,bs,c) cP;exact⟨⟨this.2.2,this.2.1,show m<=_ by omega,show bs.length<=_ by omega, λ e=>absurd e this.1⟩,cH⟩
  ·have:=C2 ps (m+bs.length) (λ p hp=>h p (by simp[hp])) an x hx;exact⟨this.1,an⟩
theorem SD{b:az}{ps:List Piece}(h:aQ w b c ps):∃rs:List (qd w),rs.map Subtype.val=iE::ep 0 ps:=by
 have H:∀x∈iE::ep 0 ps,Vs w x:= λ x hx=>by
  rcases aO.1 hx with rfl|hx
  ·exact⟨ay.nil _ _,by simp[iE],by simp[iE],by simp[iE], λ _=>rfl⟩
  ·exact(C2 ps 0 h.pieces.2 (cm h.small) x hx).1
 exact⟨(iE::ep 0 ps).pmap Subtype.mk H,by rw[List.map_pmap];simp⟩
theorem Ph(F:Fence)(n:Nat)(hF:F.fn 236)(BQ:F.round=none)(hn:1<=n)(w0 w:World)(Bn n₀:Nat)(b:az)(c:Nat)(ps:List Piece)(rs:List (qd w0))
 (Ce:rs.map Subtype.val=iE::ep 0 ps)(hBn:Bn<w.heap.size)(hn0:n₀<=w.heap.size)
 (nt:w.cell? (za Bn 0)=some (.slice none 0 0))(cN:w.cell? (za Bn 1)=some (.slice b ps.length c))(hP:aQ w b c ps)(sc:ps≠[]->∀B o,b=some ⟨B,o,none⟩->B<n₀):
 SeqStopsK F n Tryz.prog 236 (iS (zp Bn)) (SB (w:=w0)) (oM n₀ (·=Bn)) (λ ys=>ys=rs) (λ pre=>pre<+:rs) rs.length w:= λ l J Jx W hW _ _ hY h0=>
 Vt F n hF BQ hn w0 l Bn n₀ b c ps rs J Jx Ce hY W ((hW.cell (p:=(za Bn 0)) hBn).T nt) ((hW.cell (p:=(za Bn 1)) hBn).T cN) (hP.below hW) sc h0
end
def yH:Nat->List Nat->Option Nat
 |n,[]=>if 524288<n then none else some n
 |n,k::l=>if k=0\/524288<n+k then none else yH (n+k) l
def ace:Option Nat->Int
 |none=> -1
 |some n=>(n:Int)
def ac3(w:World)(base:az)(ls:List Nat):Prop:=ls=[]\/∃B o,base=some ⟨B,o,none⟩/\∀(j:Nat) (k:Nat),ls[j]? =some k->∃a c,w.cell? (za B (o+j))=some (.slice a k c)
theorem Fa(a:az)(n c:Nat)(b:az)(ls:List Nat)(c2:Nat)(x y z:Value)(w:World)(hn:n<140737488355328)(hl:ls.length<140737488355328)(Pj:∀k∈ls,k<140737488355328)(hc:ac3 w b ls):
 Calls Tryz.prog 89 #[.agg #[.slice a n c,.slice b ls.length c2,x,y,z]] w λ e w'=>e= .returned (.int .i64 (ace (yH n ls)))/\Below w w w':=by
 obtain⟨R,hR⟩:=bL (yH n ls);rw[<-hR];have HR:=ag hR;have Hc:=ag hc;have Hls:=ag Pj;clear hR hc Pj;go_enter Tryz.func89,Tryz.ntmps89;go_wp2
 go_loopw [3,12] (λ v i wr=>∃j m:Nat,j<=ls.length/\i= .int .i64 (j:Int)/\v= .int .i64 (m:Int)/\yH m (ls.drop j)=R/\m<140737489000000/\(1<=j->m<=524288)/\Hid (Below w w wr)) (λ _ i _=>ls.length - (intOf i).toNat)
 case atStart=>
  refine⟨0,n,aD _,rfl,rfl,by simpa using HR.O.symm,an,an,ag ?_⟩;go_grown
 case round=>
  obtain⟨j,m,hj,rfl,rfl,hr,hm,Mg,HB⟩:=hrel;by_cases cL:j<ls.length
  ·obtain⟨k,hk⟩:∃k,ls[j]? =some k:=⟨ls[j],by simp[cL]⟩;have aa7:ls.drop j=k::ls.drop (j+1):=by
    obtain⟨h1,h2⟩:=aC.1 hk;rw[bI h1,h2]
   have Mi:=Hls.O k (ak hk);obtain⟨B,o,hb,dK⟩:∃B o,b=some ⟨B,o,none⟩/\∃a c,wr.cell? (za B (o+j))=some (.slice a k c):=by
    rcases Hc.O with h0|⟨B,o,hb,h1⟩
    ·rw[h0]at cL;simp at cL
    ·obtain⟨a,c,h2⟩:=h1 j k hk;have hB:=aZ w _ h2;exact⟨B,o,hb,a,c,(HB.O.cell (p:=(za B (o+j))) hB).T h2⟩
   obtain⟨a2,c3,dK⟩:=dK;subst hb;rw[aa7]at hr;clear aa7 hk;by_cases As:k=0
   ·have hf:R=none:=by rw[<-hr,yH,if_pos (.inl As)]
    have Hf:=ag hf;subst As;clear hr hf;go_wp2;go_ret;exact⟨by rw[Hf.O];rfl,HB.O⟩
   ·by_cases Ip:524288<m+k
    ·have hf:R=none:=by rw[<-hr,yH,if_pos (.inr Ip)]
     have Hf:=ag hf;have Vy:¬ (k:Int)=0:=an;have hbi:(524288:Int)<(m:Int)+(k:Int):=an;clear hr hf;go_wp2;go_ret;exact⟨by rw[Hf.O];rfl,HB.O⟩
    ·have hf:yH (m+k) (ls.drop (j+1))=R:=by rw[<-hr,yH,if_neg an]
     have Hf:=ag hf;have Vy:((k:Int)==0)=false:=dU;have hbi:(m:Int)+(k:Int)<=524288:=an;have G5:=ag (show m+k<=524288 by omega);clear hr hf;go_wp2;exact⟨⟨j+1,m+k,an,rfl,rfl,Hf.O,by have:=G5.O;omega, λ _=>G5.O,HB⟩,by simp[intOf];omega⟩
  ·rw[dM an,yH]at hr;by_cases Ip:524288<m
   ·have hf:R=none:=by rw[<-hr,if_pos Ip]
    have Hf:=ag hf;have hbi:(524288:Int)<(m:Int):=an;clear hr hf;go_wp2;go_ret;exact⟨by rw[Hf.O];rfl,HB.O⟩
   ·have hf:R=some m:=by rw[<-hr,if_neg Ip]
    have Hf:=ag hf;have hbi:(m:Int)<=524288:=an;clear hr hf;go_wp2;go_ret;exact⟨by rw[Hf.O];rfl,HB.O⟩
def sR(qW fault:Int)(off:Bool)(n:Nat)(ls:List Nat):Bool:= !(decide (qW< -1)||decide (fault< -1)||(off&&decide (qW≠ -1))||(yH n ls).isNone)
def ckI(b:Bool):Int:=if b then 0 else 200
theorem qX(h:p:=by
 go_enter Tryz.func48,Tryz.ntmps48;go_wp2;go_ret;exact⟨congrArg (λ v:Int=>Ending.returned (.int .i64 v)) Hf.O.symm,j4.O⟩
 ):p:=h
theorem nJ(h:p:=by
 go_enter Tryz.func48,Tryz.ntmps48
 go_wp2_with first
  |(with_reducible refine(HI'.O _ j4.O).mono ?_;rintro e w2 ⟨rfl,bG⟩)
  |fail
 go_ret;exact⟨congrArg (λ v:Int=>Ending.returned (.int .i64 v)) Hf.O.symm,j4.O.T (bG.mono j4.O.size)⟩
 ):p:=h
theorem SE(a:az)(n c:Nat)(b:az)(ls:List Nat)(c2:Nat)(qW fault:Int)(off:Bool)(w:World)(hn:n<140737488355328)(hl:ls.length<140737488355328)(Pj:∀k∈ls,k<140737488355328)(hc:ac3 w b ls):
 Calls Tryz.prog 48 (BX (.agg (zq7 a n c b ls.length c2 qW fault off))) w λ e w'=>e= .returned (.int .i64 (ckI (sR qW fault off n ls)))/\Below w w w':=by
 have hlen:∀w2:World,Below w w w2->Calls Tryz.prog 89 (BX (.agg (zq7 a n c b ls.length c2 qW fault off))) w2 λ e w'=>e= .returned (.int .i64 (ace (yH n ls)))/\Below w2 w2 w':= λ w2 hb=>by
  refine Fa a n c b ls c2 _ _ _ w2 hn hl Pj ?_;rcases hc with h|⟨B,o,h1,h2⟩
  ·exact .inl h
  ·refine .inr ⟨B,o,h1, λ j k hk=>?_⟩;obtain⟨a3,c3,h3⟩:=h2 j k hk;exact⟨a3,c3,(hb.cell (p:=(za B (o+j))) (aZ w _ h3)).T h3⟩
 have HL:=ag hlen;clear hlen hc Pj;obtain⟨r,hr⟩:=bL (yH n ls);have Hr:=ag hr;have hI:∀w2:World,Below w w w2->Calls Tryz.prog 89 (BX (.agg (zq7 a n c b ls.length c2 qW fault off))) w2 λ e w'=>e= .returned (.int .i64 (ace r))/\Below w2 w2 w':= λ w2 hb=>by rw[hr];exact HL.O w2 hb
 have HI:=ag hI;clear hI HL hr;have hB0:Below w w (w.alloc (.cells (zq7 a n c b ls.length c2 qW fault off) 31)):=by go_grown
 have j4:=ag hB0;clear hB0;by_cases h1:qW< -1
 ·have Hf:=ag (show ckI (sR qW fault off n ls)=200 by simp[sR,ckI,h1]);exact qX
 ·have h1b: -1<=qW:=an;by_cases h2:fault< -1
  ·have Hf:=ag (show ckI (sR qW fault off n ls)=200 by simp[sR,ckI,h2]);exact qX
  ·have h2b: -1<=fault:=an;by_cases h3:off=true/\qW≠ -1
   ·obtain⟨h3,h4⟩:=h3;subst h3;have Hf:=ag (show ckI (sR qW fault true n ls)=200 by simp[sR,ckI,h4]);have h4b:(qW != -1)=true:=by simp[h4]
    exact qX
   ·have hof:(off&&(qW != -1))=false:=by
     cases off with
     |false=>rfl
     |true=>simp at h3⊢;exact h3
    have Hf:=ag (show ckI (sR qW fault off n ls)=if r=none then 200 else 0 by
     have hd:(off&&decide (qW≠ -1))=false:=by
      cases off with
      |false=>rfl
      |true=>simp at h3⊢;exact h3
     rw[sR,<-Hr.O,hd];simp only[show¬ qW< -1 from h1,show¬ fault< -1 from h2,decide_false,Bool.false_or];cases r<;>rfl)
    cases r with
    |none=>
     have HI':Hid (∀w2:World,Below w w w2->Calls Tryz.prog 89 (BX (.agg (zq7 a n c b ls.length c2 qW fault off))) w2 λ e w'=>e= .returned (.int .i64 (-1))/\Below w2 w2 w'):=HI;clear HI;cases off with
     |false=>
      exact nJ
     |true=>
      have hfu:qW= -1:=by simp at hof;exact hof
      subst hfu;exact nJ
    |some k=>
     have HI':Hid (∀w2:World,Below w w w2->Calls Tryz.prog 89 (BX (.agg (zq7 a n c b ls.length c2 qW fault off))) w2 λ e w'=>e= .returned (.int .i64 (k:Int))/\Below w2 w2 w'):=HI;clear HI;cases off with
     |false=>
      exact nJ
     |true=>
      have hfu:qW= -1:=by simp at hof;exact hof
      subst hfu;exact nJ
def mS(ps:List Piece):List Nat:=ps.map λ p=>p.2.1.length
theorem Kc:∀(ps:List Piece) (n:Nat),(∀p∈ps,p.2.1≠[])->n+(aw ps).length<=524288->yH n (mS ps)=some (n+(aw ps).length)
 |[],n,_,h=>by simp[aw]at h;simp[mS,yH,aw];omega
 |p::ps,n,hn,h=>by
  have h1:p.2.1.length≠0:= λ e=>hn p cP (eT e);have h2:(aw (p::ps)).length=p.2.1.length+(aw ps).length:=by simp[aw]
  rw[h2]at h⊢;show yH n (p.2.1.length::mS ps)=_;rw[yH,if_neg an,Kc ps _ (λ q hq=>hn q (by simp[hq])) an];congr 1;omega
theorem Q8{b:az}{ps:List Piece}(h:qV w b ps):ac3 w b (mS ps):=by
 rcases h.1 with h0|⟨B,o,hb,hc⟩
 ·exact .inl (by rw[h0];rfl)
 ·refine .inr ⟨B,o,hb, λ j k hk=>?_⟩;obtain⟨p,hp,rfl⟩:∃p,ps[j]? =some p/\p.2.1.length=k:=by simpa[mS]using hk
  exact⟨p.1,p.2.2,hc j p hp⟩
theorem vQ(h:p:=by
 obtain⟨p,hp,rfl⟩:=aM.1 hk;obtain⟨j,hj⟩:=dE.1 hp;have h1:=uY ps j p hj;have h2:=lD ps (j+1);have h3:=h.small;omega
 ):p:=h
theorem Cf{b:az}{ps:List Piece}(h:aQ w b c ps):
 Calls Tryz.prog 89 #[bN b ps.length c] w λ e w'=>e= .returned (.int .i64 ((aw ps).length:Nat))/\Below w w w':=by
 have hl:∀k∈mS ps,k<140737488355328:= λ k hk=>by exact vQ
 have:=Fa none 0 0 b (mS ps) c (.int .i64 (-1)) (.int .i64 (-1)) (.bool false) w an (by simp[mS];have:=h.LB;omega) hl (Q8 h.pieces);rw[Kc ps 0 (λ p hp=>(h.pieces.2 p hp).1) (cm h.small),show(mS ps).length=ps.length by simp[mS]]at this;refine this.mono ?_;rintro e w' ⟨rfl,hb⟩;exact⟨by simp[ace],hb⟩
theorem mA{b:az}{ps:List Piece}(h:aQ w b c ps):
 Calls Tryz.prog 48 #[bN b ps.length c] w λ e w'=>e= .returned (.int .i64 0)/\Below w w w':=by
 have hl:∀k∈mS ps,k<140737488355328:= λ k hk=>by exact vQ
 have:=SE none 0 0 b (mS ps) c (-1) (-1) false w an (by simp[mS];have:=h.LB;omega) hl (Q8 h.pieces);rw[show(mS ps).length=ps.length by simp[mS]]at this;refine this.mono ?_;rintro e w' ⟨rfl,hb⟩;refine⟨?_,hb⟩;simp[sR,ckI,Kc ps 0 (λ p hp=>(h.pieces.2 p hp).1) (cm h.small)]
theorem VA{b:az}{ps:List Piece}(h:aQ w b c ps):
 Calls Tryz.prog 149 #[bN b ps.length c] w λ e w'=>e= .returned (.int .i64 ((aw ps).length:Nat))/\Below w w w':=by
 have h1:= λ (w2:World) (hb:Below w w w2)=>mA (h.below hb);have h2:= λ (w2:World) (hb:Below w w w2)=>Cf (h.below hb);have H1:=ag h1;have H2:=ag h2;unfold bN at*;clear h1 h2 h;generalize((aw ps).length:Int)=N at*;have H0:Hid (Below w w (w.alloc (.cells (fA b ps.length c) 31))):=ag bW;go_enter Tryz.func149,Tryz.ntmps149
 go_wp2_with first
  |(with_reducible refine(H1.O _ H0.O).mono ?_;rintro e w2 ⟨rfl,bG⟩;have H3:=ag (H0.O.T (bG.mono H0.O.size));obtain⟨c0,c1,c2,c3,c4⟩:=vP bG;clear bG)
  |(with_reducible refine(H2.O _ H3.O).mono ?_;rintro e w2 ⟨rfl,bG⟩)
  |fail
 go_ret;exact⟨rfl,H3.O.T (bG.mono H3.O.size)⟩
variable {F : Fence} {n : Nat} {P : Program}
abbrev ac4(a:Act)(p1 p2 d1 d2:Tmp)(u v:Value):Act:={tmps:=(((a.tmps.setIfInBounds p1 u).setIfInBounds p2 v).setIfInBounds d1 u).setIfInBounds d2 v,defers:=[]}
theorem abF{α:Type}{g:Operand}{p1 p2:Tmp}(d1 d2:Tmp)
 (BQ:F.round=none)(h1:1<=n)(hg:a.eval g= .func (.func gf) #[] lb)(hFg:F.fn gf)(eg:∀args w,(callFunc gf args).run P w= .ok (.enter gf args) w)
 {e1 e2:α->Value}{Kp:World->World->Prop}{S Sp:List α->Prop}{N:Nat}(sS:SeqStopsK F (n - 1) P gf lb (λ x=>#[e1 x,e2 x]) Kp S Sp N w0)
 (Au:∀{A B C:World},Kp A B->Kp B C->Kp A C)(Fb:∀(W:World) (l:Nat) (o o':Obj),w.heap.size<=l->W.heap[l]? =some o->o.isCells=false->o.isWalk=false->Kp W (W.putObj l o'))(nt:Below w0 w0 w)
 (I:List α->World->Prop)(Ix:Code->List α->World->Prop)(hI:OwnFrom w I)(hIx:∀c,OwnFrom w (Ix c))(h0:I [] w)
 (kX:∀(l:Nat) (x:α) (W:World) (K:Act->World->Prop),K (ac4 a p1 p2 d1 d2 (e1 x) (e2 x)) W->
   assign.wpIn (F.inRound l) (n - 1 - 1) P (Exit.then K (λ _ _ _=>False)) {tmps:=(a.tmps.setIfInBounds p1 (e1 x)).setIfInBounds p2 (e2 x),defers:=[]} W)
 (qY:∀(l:Nat) (pre:List α) (x:α) (W:World),I pre W->pre.length<N->body.wpIn (F.inRound l) (n - 1 - 1) P (ownPostG w Kp I Ix (pre++[x]) W) (ac4 a p1 p2 d1 d2 (e1 x) (e2 x)) W)
 (qZ:∀(D:Nat) (xs:List α) (W:World),w.heap.size<=D->S xs->I xs W->W.heap[D]? =some (.deferred (some []))->Q .normal {a with defers:={target:=.collected D,args:=#[]}::a.defers} W)
 (q9:∀(D:Nat) (c:Code) (pre:List α) (W:World),w.heap.size<=D->Sp pre->Ix c pre W->W.heap[D]? =some (.deferred (some []))->c.wpIn F n P Q {a with defers:={target:=.collected D,args:=#[]}::a.defers} W):
 (Code.rangeFunc g #[p1,p2] assign body).wpIn F n P Q a w:=
 wpIn_rangeFunc_ownG BQ h1 hg hFg eg sS Au Fb nt (λ _=>rfl) I Ix hI hIx h0 (λ x=>ac4 a p1 p2 d1 d2 (e1 x) (e2 x)) (λ l x W K hK=>by simpa using kX l x W K hK) qY qZ q9
theorem Fc{w1:World}{e:TypeId}{size:Nat}{v':Value}{xs ys:List Value}
 (hv:Boxed W B t v)(Iq:t≠e)(bA:W.ownsRow n₀ e size v k xs)(aeh:n₀<=W.heap.size)(hB:n₀<=B)
 (gp:w1.ownsRow n₀ e size v' m ys)(jQ:W.grownBy w1 v.ownBlock):
 Boxed w1 B t v/\Boxed (w1.setCell (za B 0) v') B t v'/\(w1.setCell (za B 0) v').ownsRow n₀ e size v' m ys/\KeepsOthers W (w1.setCell (za B 0) v')/\Below n₀ W w1:=by
 have yI:Boxed w1 B t v:=hv.kept jQ (hv.not_row Iq bA);refine⟨yI,yI.set v',gp.kept (grownBy_setCell' w1 B v') (.inr (yI.not_row Iq gp).symm),?_,?_⟩
 ·refine(KeepsOthers.of_grownBy jQ λ j o ej hj=>?_).T (gX _ _ _);rcases bA.2 with⟨rfl,_⟩|⟨g,cap,cur,rfl,_,hgb,_⟩
  ·simp[Value.ownBlock]at ej
  ·obtain rfl:g=j:=by simpa[Value.ownBlock]using ej
   rw[hgb]at hj;cases hj;rfl
 ·refine(ah n₀ W).grown jQ aeh λ j ej=>?_;rcases bA.2 with⟨rfl,_⟩|⟨g,cap,cur,rfl,hb,_,_⟩
  ·simp[Value.ownBlock]at ej
  ·obtain rfl:g=j:=by simpa[Value.ownBlock]using ej
   exact hb
theorem Mj{β:Type}(B:Nat)(o:Obj)(ho:o.isCells=true):Own (λ (_:β) W=>W.heap[B]? =some o):= λ s A C row hs hg hr=>
 (hg.block B (cS hs).1 (λ e=>by obtain⟨o',h1,h2⟩:=hr B e.symm;rw[hs]at h1;cases h1;rw[ho]at h2;cases h2)).T hs
theorem uC{e:TypeId}{fz:Nat×Nat}(h:W.heap[B]? =some (.cells cs t fz))(Iq:t≠e){base size:Nat}{xs:List Value}(hr:W.ownsRow base e size v k xs):some B≠v.ownBlock:=by
 rcases hr.2 with⟨rfl,_⟩|⟨g,cap,cur,rfl,_,hgb,_⟩
 ·simp[Value.ownBlock]
 ·intro e';obtain rfl:B=g:=by simpa[Value.ownBlock]using e'
  have:=h.symm.T hgb;simp at this;exact Iq this.2.1
section
variable {P : Program} {ops : Array Oper} {Q : Exit -> Act -> World -> Prop} {md : Region.Mode} {S : World -> Prop} {L : Nat}
def jA(P:Program)(md:Region.Mode)(ops:Array Oper)(Q:Exit->Act->World->Prop)(S:World->Prop)(L:Nat):Nat->Array Bool->Act->World->Prop
 |0,listed,a,w=>Region.ready md ops listed=[]/\Q .normal a w
 |fuel+1,listed,a,w=>
  (Region.ready md ops listed=[]->Q .normal a w)/\
  ∀i∈Region.ready md ops listed,wpOp P ops Q i (λ a' w'=>(i≠L->S w')/\jA P md ops Q S L fuel (listed.setIfInBounds i true) a' w') a w
theorem Fe:∀(fuel:Nat) (listed:Array Bool) (a:Act) (w:World),jA P md ops Q S L fuel listed a w->wpAny P md ops Q fuel listed a w
 |0,_,_,_,h=>h
 |fuel+1,_,_,_,h=>⟨h.1, λ i hi=>wpOp_mono (λ a' w' h'=>Fe fuel _ a' w' h'.2) (h.2 i hi)⟩
def eY(md:Region.Mode)(ops:Array Oper)(L i:Nat):Bool:=match ops[L]? with
 |some o=>o.after.any λ e=>Region.binds md e&&e.on==i
 |none=>true
theorem Kd(h:eY md ops L i=true)(hi:listed.getD i true=false):L∉Region.ready md ops listed:=by
 intro hL;obtain⟨h0,oL,hoL,jB⟩:=mem_ready.1 hL;unfold eY at h;rw[hoL]at h;obtain⟨j,hj,hb⟩:=iI.1 h;simp only[bQ,beq_iff_eq]at hb;have h2:=jB _ (iJ hj) hb.1;rw[hb.2]at h2;rcases cX i listed.size with h'|h'
 ·simp[h']at hi h2;rw[hi]at h2;cases h2
 ·simp[ei h']at hi
theorem Ke(hi:ops[i]? =some oi)(VB:∀(j:Nat) (o:Oper) cs b,ops[j]? =some o->o.op≠.select cs b)
 (hQ:∀c a w,Q (.panic c) (a.put oi.dst v) w->Q (.panic c) a w)(hwL:eY md ops L i=true):
 ∀(fuel:Nat) (listed:Array Bool) (a:Act) (w:World),
  (∀j oj,ops[j]? =some oj->j≠i->listed.getD j true=false->(∀e∈oj.after,Region.binds md e=true->e.on≠i)->oi.apart ops oj=true)->
  i∈Region.ready md ops listed->YieldsIf P ops S oi v a->S w->
  jA P md ops Q S L fuel (listed.setIfInBounds i true) (a.put oi.dst v) w->jA P md ops Q S L (fuel+1) listed a w:=by
 intro fuel
 induction fuel with
 |zero=>
  intro listed a w _ hr hy hS H;refine⟨λ h=>(by rw[h]at hr;cases hr), λ j hj=>?_⟩;by_cases mn:j=i
  ·subst mn;exact hy.wpOp hi hS ⟨λ _=>hS,H⟩
  ·have:=ready_mono hj mn;rw[H.1]at this;cases this
 |succ fuel ih=>
  intro listed a w Ml hr hy hS H;refine⟨λ h=>(by rw[h]at hr;cases hr), λ j hj=>?_⟩;by_cases mn:j=i
  ·subst mn;exact hy.wpOp hi hS ⟨λ _=>hS,H⟩
  ·have hjL:j≠L:= λ e=>Kd hwL (mem_ready.1 hr).1 (e▸hj);have h1:=H.2 j (ready_mono hj mn);obtain⟨VC,oj,hoj,jB⟩:=mem_ready.1 hj;have Sy:∀e∈oj.after,Region.binds md e=true->e.on≠i:= λ e he hb heq=>by
    have h1:=jB e he hb;have h0:=(mem_ready.1 hr).1;rw[heq]at h1;rcases cX i listed.size with h'|h'
    ·simp[h']at h0 h1;rw[h0]at h1;cases h1
    ·simp[ei h']at h1
   have h2:=wpOp_putIf hoj (Ml j oj hoj mn VC Sy) (λ cs b=>VB i oi cs b hi) (λ cs b=>VB j oj cs b hoj) hQ hy h1;have Pk:∀k ok,ops[k]? =some ok->k≠i->(listed.setIfInBounds j true).getD k true=false->
    (∀e∈ok.after,Region.binds md e=true->e.on≠i)->oi.apart ops ok=true:= λ k ok hk Vy hun mr=>by
    refine Ml k ok hk Vy ?_ mr;by_cases Y0:j=k
    ·subst Y0;exact VC
    ·rw[getD_set_ne true Y0]at hun;exact hun
   refine wpOp_mono (λ a' w' h3=>⟨h3.2.1,ih (listed.setIfInBounds j true) a' w' Pk (ready_mono hr (dy mn)) h3.1 (h3.2.1 hjL) ?_⟩) h2;rw[Array.setIfInBounds_comm _ _ mn];exact h3.2.2
theorem aa8(i:Nat)(hS:S w)(hi:ops[i]? =some oi)
 (hs:(Region.noSelect ops&&Region.free md ops listed i&&(Region.ready md ops listed).contains i&&eY md ops L i)=true)
 (hQ:∀c a w,Q (.panic c) (a.put oi.dst v) w->Q (.panic c) a w)(hy:YieldsIf P ops S oi v a)
 (h:jA P md ops Q S L fuel (listed.setIfInBounds i true) (a.put oi.dst v) w):jA P md ops Q S L (fuel+1) listed a w:=by
 simp only[bQ]at hs;exact Ke hi (jx hs.1.1.1) hQ hs.2 fuel listed a w (kV hi hs.1.1.2) (by simpa using hs.1.2) hy hS h
theorem stepT(i:Nat)(hr:Region.ready md ops listed=[i])(ho:ops[i]? =some o)
 (h:∀K':Act->World->Prop,Shut (∀a w,(i≠L->S w)->jA P md ops Q S L fuel (listed.setIfInBounds i true) a w->K' a w)->if Region.wanted o (yielded ops a.tmps)=true then Oper.wp P o a w K' Q else K' (a.put o.dst undef) w):
 jA P md ops Q S L (fuel+1) listed a w:=
 ⟨(λ h0=>by rw[hr]at h0;cases h0), λ j hj=>by rw[hr,aE]at hj;subst hj;exact wpOp_step ho (λ K' hK=>h K' (λ a w hS hW=>hK a w ⟨hS,hW⟩))⟩
theorem Pm(i j:Nat){u:Oper}(hr:Region.ready md ops listed=[i,j])(ho:ops[i]? =some o)(hu:ops[j]? =some u)
 (h:∀K':Act->World->Prop,Shut (∀a w,(i≠L->S w)->jA P md ops Q S L fuel (listed.setIfInBounds i true) a w->K' a w)->if Region.wanted o (yielded ops a.tmps)=true then Oper.wp P o a w K' Q else K' (a.put o.dst undef) w)
 (h':∀K':Act->World->Prop,Shut (∀a w,(j≠L->S w)->jA P md ops Q S L fuel (listed.setIfInBounds j true) a w->K' a w)->if Region.wanted u (yielded ops a.tmps)=true then Oper.wp P u a w K' Q else K' (a.put u.dst undef) w):
 jA P md ops Q S L (fuel+1) listed a w:=
 ⟨(λ h0=>by rw[hr]at h0;cases h0), λ m hm=>by
   rw[hr]at hm;simp only[aO,dn,or_false]at hm;rcases hm with rfl|rfl
   ·exact wpOp_step ho (λ K' hK=>h K' (λ a w hS hW=>hK a w ⟨hS,hW⟩))
   ·exact wpOp_step hu (λ K' hK=>h' K' (λ a w hS hW=>hK a w ⟨hS,hW⟩))⟩
theorem et{K':Act->World->Prop}(hK:Shut (∀a w,(i≠L->S w)->jA P md ops Q S L fuel listed a w->K' a w))(hS:S w)(h:S w->jA P md ops Q S L fuel listed a w):K' a w:=hK.out a w (λ _=>hS) (h hS)
theorem ra{K':Act->World->Prop}(hK:Shut (∀a w,(L≠L->S w)->jA P md ops Q S L fuel listed a w->K' a w))(h:jA P md ops Q S L fuel listed a w):K' a w:=hK.out a w (λ e=>absurd rfl e) h
theorem nK(hr:Region.ready md ops listed=[])(h:Q .normal a w):∀fuel,jA P md ops Q S L fuel listed a w
 |0=>⟨hr,h⟩
 |_+1=>⟨λ _=>h,by rw[hr];simp⟩
theorem ku(L:Nat)(S:World->Prop)(hm:P.follows .mixedOrders=true)(hS:S w.drew)
 (h:S w.drew->jA P .any ops Q S L ops.size (Array.replicate ops.size false) a w.drew):(Code.region id ops true).wp P Q a w:=
 wp_region_any hm (Fe _ _ _ _ (h hS))
end
section
variable {P : Program} {Q : Exit -> Act -> World -> Prop}
theorem Kf{row:String}{args:Array Value}{R:Value->World->Prop}(l:Nat)(h:Rows P row args w R):RowsIn (Fence.wide.inRound l) n P row args w R:=
 λ c cs _=>let⟨v,w',r,s⟩:=h c cs;⟨v,w',r,stepsIn_wide.2 s⟩
theorem abG{K K':Act->World->Prop}(l n:Nat)(hd:∀c,o.op≠.defer c)(hk:∀a w,K a w->K' a w)(h:o.wp P a w K Q):o.wpIn (Fence.wide.inRound l) n P a w K' Q:=by
 refine⟨λ _ _=>trivial,?_⟩;rw[show(Fence.wide.inRound l).round=some l from rfl,Oper.semAt_some l _ o hd];unfold Oper.wp at h;generalize(execOp a.eval o).run P w=r at*;cases r with
 |ok nx w'=>
  cases nx with
  |value v=>exact hk _ _ h
  |skip=>exact hk _ _ h
  |defer d=>exact hk _ _ h
  |enter f args=>
   refine⟨(λ e=>by cases e),?_⟩;refine(jJ l (callsIn_wide.2 h)).mono ?_;intro e w2 he;cases e with
   |returned v=>exact hk _ _ he
   |panicked ch=>exact he
   |outgrown=>exact he
  |row r args=>exact⟨(λ e=>by cases e),(Kf l h).mono λ v w2 he=>hk _ _ he⟩
  |round l f t asz b=>exact h.elim
  |_=>exact h.elim
 |halt x w'=>cases x<;>exact h
theorem Q9{ops:Array Oper}(l n:Nat)(hQ:¬ LetsOut Q)(hd:∀(i:Nat) (o:Oper) (c:_),ops[i]? =some o->o.op≠.defer c):∀(is:List Nat) (a:Act) (w:World),wpOps P ops Q is a w->wpOpsIn (Fence.wide.inRound l) n P ops Q is a w
 |[],_,_,h=>h
 |i::is,a,w,h=>by
  unfold wpOps at h;unfold wpOpsIn;cases ho:ops[i]? with
  |none=>rw[ho]at h;exact Q9 l n hQ hd is a w h
  |some o=>
   rw[ho]at h;simp only at h⊢;split
   ·rename_i hw;rw[if_pos hw]at h;rcases h with h|⟨_,h⟩
    ·exact abG l n (λ c=>hd i o c ho) (λ a w hx=>Q9 l n hQ hd is a w hx) h
    ·exact absurd h hQ
   ·rename_i hw;rw[if_neg hw]at h;exact⟨λ _ _=>trivial,Q9 l n hQ hd is _ w h⟩
def I6(ops:Array Oper):Bool:=ops.all λ o=>match o.op with| .defer _=>false|_=>true
theorem Ff(h:I6 ops=true)(i:Nat)(o:Oper)(c:Call)(ho:ops[i]? =some o):o.op≠.defer c:=by obtain⟨hi,rfl⟩:=cS ho;have:=(Array.all_eq_true.1 h) i hi;intro e;rw[e]at this;cases this
end
section
variable {P : Program} {ops : Array Oper} {Q : Exit -> Act -> World -> Prop} {md : Region.Mode} {S : World -> Prop} {L : Nat}
theorem DO{c A B:Prop}[Decidable c](hq:q)(hc:c:=by kernel_rfl)(h:q->A:=by intro h;simp only[Act.put,dq,eA,fk,gJ,gg,gd];exact h):if c then A else B:=by rw[if_pos hc];exact h hq
theorem tT(i:Nat)(hS:S w)(hq:q)(hi:ops[i]? =some oi:=by exact rfl)
 (hs:(Region.noSelect ops&&Region.free md ops listed i&&(Region.ready md ops listed).contains i&&eY md ops L i)=true:=by kernel_rfl)
 (hQ:∀c a w,Q (.panic c) (a.put oi.dst v) w->Q (.panic c) a w:=by exact λ _ _ _ h=>h)(hw:Region.wanted oi (yielded ops a.tmps)=true:=by kernel_rfl)(hv:∀w,S w->(execOp a.eval oi).run P w= .ok (.value v) w:=by(intro w hSw;(try dsimp only at hSw);go_simp)<;>with_reducible rfl)
 (h:q->jA P md ops Q S L fuel (listed.setIfInBounds i true) (a.put oi.dst v) w:=by intro h;(try simp only[Act.put,dq,eA,fk]);exact h):jA P md ops Q S L (fuel+1) listed a w:=aa8 i hS hi hs hQ (Or.inl ⟨hw,hv⟩) (h hq)
theorem tU(i:Nat)(hS:S w)(hq:q)(hi:ops[i]? =some oi:=by exact rfl)
 (hs:(Region.noSelect ops&&Region.free md ops listed i&&(Region.ready md ops listed).contains i&&eY md ops L i)=true:=by kernel_rfl)
 (hQ:∀c a w,Q (.panic c) (a.put oi.dst undef) w->Q (.panic c) a w:=by exact λ _ _ _ h=>h)(hw:Region.wanted oi (yielded ops a.tmps)=false:=by kernel_rfl)
 (h:q->jA P md ops Q S L fuel (listed.setIfInBounds i true) (a.put oi.dst undef) w:=by intro h;(try simp only[Act.put,dq,eA,fk]);exact h):jA P md ops Q S L (fuel+1) listed a w:=aa8 i (v:=undef) hS hi hs hQ (Or.inr ⟨hw,rfl⟩) (h hq)
theorem sT(i:Nat)
 (h:∀K':Act->World->Prop,Shut (∀a w,(i≠L->S w)->jA P md ops Q S L fuel (listed.setIfInBounds i true) a w->K' a w)->if Region.wanted o (yielded ops a.tmps)=true then Oper.wp P o a w K' Q else K' (a.put o.dst undef) w)(hr:Region.ready md ops listed=[i]:=by kernel_rfl)(ho:ops[i]? =some o:=by exact rfl):
 jA P md ops Q S L (fuel+1) listed a w:=stepT i hr ho h
end
abbrev oI:=List (Nat×(World->Prop))
def vu(dead:List Nat):oI->World->Prop
 |[],_=>True
 |p::l,w=>cond (dead.contains p.1) True (p.2 w)/\vu dead l w
def mT(md:Region.Mode)(ops:Array Oper)(i:Nat)(dead:List Nat):List Nat:=
 let l:=(List.range ops.size).reverse.foldl (λ l k=>if l.contains k then(List.range ops.size).filter (eY md ops k)++l else l) ((List.range ops.size).filter (eY md ops i)++dead)
 (List.range ops.size).filter l.contains++dead.filter (λ k=>decide (ops.size<=k))
def AE(md:Region.Mode)(ops:Array Oper)(listed:Array Bool):Bool:=(List.range ops.size).all λ k=> !listed.getD k false||(List.range ops.size).all λ m=> !eY md ops k m||listed.getD m false
section
variable {P : Program} {ops : Array Oper} {Q : Exit -> Act -> World -> Prop} {md : Region.Mode}
theorem yl{dead rb:List Nat}(h:∀k,k∈dead->k∈rb):∀(l:oI) (w:World),vu dead l w->vu rb l w
 |[],_,_=>trivial
 |p::l,w,⟨h1,h2⟩=>by
  refine⟨?_,yl h l w h2⟩;cases hc:rb.contains p.1 with
  |true=>trivial
  |false=>
   cases hd:dead.contains p.1 with
   |true=>rw[eO,decide_eq_true_eq]at hd;rw[eO,decide_eq_false_iff_not]at hc;exact absurd (h _ hd) hc
   |false=>rw[hd]at h1;exact h1
theorem Mm{md:Region.Mode}{ops:Array Oper}{p:Nat->Prop}(hp:∀k,p k->k<ops.size->∀m,eY md ops k m=true->m<ops.size->p m):∀(ks l:List Nat),(∀k∈ks,k<ops.size)->(∀k∈l,p k)->∀k∈ks.foldl (λ l k=>if l.contains k then(List.range ops.size).filter (eY md ops k)++l else l) l,p k
 |[],_,_,hl=>hl
 |k::ks,l,hk,hl=>by
  rw[cD];refine Mm hp ks _ (λ m hm=>hk m (bM _ hm)) λ m hm=>?_;split at hm
  ·rename_i hc;rcases aG.1 hm with h|h
   ·rw[bT,dw]at h;exact hp k (hl k (by simpa using hc)) (hk k bD) m h.2 h.1
   ·exact hl m h
  ·exact hl m hm
theorem I7{md:Region.Mode}{ops:Array Oper}:∀(ks l l':List Nat),(∀k,k∈l->k∈l')->∀k,k∈ks.foldl (λ l k=>if l.contains k then(List.range ops.size).filter (eY md ops k)++l else l) l->k∈ks.foldl (λ l k=>if l.contains k then(List.range ops.size).filter (eY md ops k)++l else l) l'
 |[],_,_,h=>h
 |k::ks,l,l',h=>by
  rw[cD,cD];refine I7 ks _ _ λ m hm=>?_;split at hm
  ·rename_i hc;rw[if_pos (by simpa using h k (by simpa using hc))];rcases aG.1 hm with e|e
   ·exact cG _ e
   ·exact cM _ (h m e)
  ·split
   ·exact cM _ (h m hm)
   ·exact h m hm
theorem I8{md:Region.Mode}{ops:Array Oper}:∀(ks l:List Nat) (k:Nat),k∈l->k∈ks.foldl (λ l k=>if l.contains k then(List.range ops.size).filter (eY md ops k)++l else l) l
 |[],_,_,h=>h
 |j::ks,l,k,h=>by
  rw[cD];refine I8 ks _ k ?_;split
  ·exact cM _ h
  ·exact h
abbrev aa9(md:Region.Mode)(ops:Array Oper)(i:Nat)(d:List Nat):List Nat:=(List.range ops.size).reverse.foldl (λ l k=>if l.contains k then(List.range ops.size).filter (eY md ops k)++l else l) ((List.range ops.size).filter (eY md ops i)++d)
theorem o9{d:List Nat}:k∈mT md ops i d↔(k<ops.size/\k∈aa9 md ops i d)\/(k∈d/\ops.size<=k):=by unfold mT aa9;simp only[eO,aG,bT,dw,decide_eq_true_eq]
theorem C3{d d':List Nat}(h:∀k,k∈d->k∈d')(k:Nat)(hk:k∈mT md ops i d):k∈mT md ops i d':=by
 rcases o9.1 hk with⟨h1,h2⟩|⟨h1,h2⟩
 ·exact o9.2 (.inl ⟨h1,I7 _ _ _ (λ m hm=>(aG.1 hm).elim (λ e=>cG _ e) (λ e=>cM _ (h m e))) k h2⟩)
 ·exact o9.2 (.inr ⟨h k h1,h2⟩)
theorem vR{d:List Nat}(k:Nat)(hk:k∈d):k∈mT md ops i d:=by
 by_cases h:k<ops.size
 ·exact o9.2 (.inl ⟨h,I8 _ _ k (cM _ hk)⟩)
 ·exact o9.2 (.inr ⟨hk,an⟩)
def zI(md:Region.Mode)(ops:Array Oper)(listed:Array Bool):Prop:=∀k,listed.getD k false=true->k<ops.size->∀m,eY md ops k m=true->m<ops.size->listed.getD m false=true
theorem C4(hj:j∈Region.ready md ops listed)(hw:eY md ops j m=true):listed.getD m false=true:=by obtain⟨_,o,ho,jB⟩:=mem_ready.1 hj;unfold eY at hw;rw[ho]at hw;obtain⟨x,hx,hb⟩:=iI.1 hw;simp only[bQ,beq_iff_eq]at hb;rw[<-hb.2];exact jB _ (iJ hx) hb.1
theorem zI.set(hc:zI md ops listed)(hj:j∈Region.ready md ops listed):zI md ops (listed.setIfInBounds j true):= λ k hk hn m hm hmn=>by
 by_cases hkj:j=k
 ·subst hkj;exact getD_set_true (C4 hj hm)
 ·rw[getD_set_ne false hkj]at hk;exact getD_set_true (hc k hk hn m hm hmn)
theorem Ir(hc:zI md ops listed)(hj:j∈Region.ready md ops listed)(hd:∀k∈dead,listed.getD k false=true):∀k∈mT md ops j dead,listed.getD k false=true:= λ k hk=>by
 rcases o9.1 hk with⟨h1,h2⟩|⟨h1,_⟩
 ·refine Mm (md:=md) (p:= λ k=>listed.getD k false=true) hc _ _ (λ m hm=>by simpa using hm) (λ m hm=>?_) k h2;rcases aG.1 hm with e|e
  ·rw[bT]at e;exact C4 hj e.2
  ·exact hd m e
 ·exact hd k h1
theorem Fg(h:listed.getD i true=false):listed.getD i false=false:=by
 rcases cX i listed.size with h'|h'
 ·simpa[h']using h
 ·simp[ei h']at h
theorem Kg(h:AE md ops listed=true):zI md ops listed:= λ k hk hn m hm hmn=>by unfold AE at h;have h1:=fI.1 h k (dw.2 hn);rw[hk]at h1;have h2:=fI.1 ((Bool.or_eq_true _ _▸h1).resolve_left de) m (dw.2 hmn);rw[hm]at h2;simpa using h2
def uD(P:Program)(md:Region.Mode)(ops:Array Oper)(Q:Exit->Act->World->Prop):Nat->List Nat->oI->Array Bool->Act->World->Prop
 |0,_,_,listed,a,w=>Region.ready md ops listed=[]/\Q .normal a w
 |fuel+1,dead,ob,listed,a,w=>
  (Region.ready md ops listed=[]->Q .normal a w)/\
  ∀i∈Region.ready md ops listed,wpOp P ops Q i (λ a' w'=>vu (mT md ops i dead) ob w'/\uD P md ops Q fuel (mT md ops i dead) ob (listed.setIfInBounds i true) a' w') a w
theorem zJ:∀(fuel:Nat) (dead:List Nat) (ob:oI) (listed:Array Bool) (a:Act) (w:World),uD P md ops Q fuel dead ob listed a w->wpAny P md ops Q fuel listed a w
 |0,_,_,_,_,_,h=>h
 |fuel+1,_,_,_,_,_,h=>⟨h.1, λ i hi=>wpOp_mono (λ a' w' h'=>zJ fuel _ _ _ a' w' h'.2) (h.2 i hi)⟩
theorem C5:∀(fuel:Nat) {dead rb:List Nat} (_:∀k,k∈dead->k∈rb) (ob:oI) (listed:Array Bool) (a:Act) (w:World),uD P md ops Q fuel dead ob listed a w->uD P md ops Q fuel rb ob listed a w
 |0,_,_,_,_,_,_,_,h=>h
 |fuel+1,_,_,hd,ob,_,_,_,h=>⟨h.1, λ i hi=>wpOp_mono (λ _ w' h'=>⟨yl (C3 hd) ob w' h'.1,C5 fuel (C3 hd) ob _ _ _ h'.2⟩) (h.2 i hi)⟩
theorem C6:∀(fuel:Nat) (dead:List Nat) (p:Nat×(World->Prop)) (ob:oI) (listed:Array Bool) (a:Act) (w:World),uD P md ops Q fuel dead (p::ob) listed a w->uD P md ops Q fuel dead ob listed a w
 |0,_,_,_,_,_,_,h=>h
 |fuel+1,_,p,ob,_,_,_,h=>⟨h.1, λ i hi=>wpOp_mono (λ _ _ h'=>⟨h'.1.2,C6 fuel _ p ob _ _ _ h'.2⟩) (h.2 i hi)⟩
theorem AF{S:World->Prop}(hi:ops[i]? =some oi)(VB:∀(j:Nat) (o:Oper) cs b,ops[j]? =some o->o.op≠.select cs b)
 (hQ:∀c a w,Q (.panic c) (a.put oi.dst v) w->Q (.panic c) a w):
 ∀(fuel:Nat) (dead:List Nat) (ob:oI) (listed:Array Bool) (a:Act) (w:World),
  (∀j oj,ops[j]? =some oj->j≠i->listed.getD j true=false->(∀e∈oj.after,Region.binds md e=true->e.on≠i)->oi.apart ops oj=true)->
  i∈Region.ready md ops listed->YieldsIf P ops S oi v a->S w->(∀k∈dead,listed.getD k false=true)->zI md ops listed->vu dead ob w->
  uD P md ops Q fuel dead ((i,S)::ob) (listed.setIfInBounds i true) (a.put oi.dst v) w->uD P md ops Q (fuel+1) dead ob listed a w:=by
 intro fuel
 induction fuel with
 |zero=>
  intro dead ob listed a w _ hr hy hS hd fh ho H;refine⟨λ h=>(by rw[h]at hr;cases hr), λ j hj=>?_⟩;by_cases mn:j=i
  ·subst mn;exact hy.wpOp hi hS ⟨yl vR ob w ho,H⟩
  ·have:=ready_mono hj mn;rw[H.1]at this;cases this
 |succ fuel ih=>
  intro dead ob listed a w Ml hr hy hS hd fh ho H;refine⟨λ h=>(by rw[h]at hr;cases hr), λ j hj=>?_⟩;by_cases mn:j=i
  ·subst mn;exact hy.wpOp hi hS ⟨yl vR ob w ho,C5 _ vR _ _ _ _ (C6 _ _ _ _ _ _ _ H)⟩
  ·have h1:=H.2 j (ready_mono hj mn);obtain⟨VC,oj,hoj,jB⟩:=mem_ready.1 hj;have Sy:∀e∈oj.after,Region.binds md e=true->e.on≠i:= λ e he hb heq=>by
    have h1:=jB e he hb;have h0:=(mem_ready.1 hr).1;rw[heq]at h1;rcases cX i listed.size with h'|h'
    ·simp[h']at h0 h1;rw[h0]at h1;cases h1
    ·simp[ei h']at h1
   have th:=Ir fh hj hd;have hd':(mT md ops j dead).contains i=false:=by rw[eO,decide_eq_false_iff_not];intro h;have:=th i h;rw[Fg (mem_ready.1 hr).1]at this;cases this
   have h2:=wpOp_putIf hoj (Ml j oj hoj mn VC Sy) (λ cs b=>VB i oi cs b hi) (λ cs b=>VB j oj cs b hoj) hQ hy h1;have Pk:∀k ok,ops[k]? =some ok->k≠i->(listed.setIfInBounds j true).getD k true=false->
    (∀e∈ok.after,Region.binds md e=true->e.on≠i)->oi.apart ops ok=true:= λ k ok hk Vy hun mr=>by
    refine Ml k ok hk Vy ?_ mr;by_cases Y0:j=k
    ·subst Y0;exact VC
    ·rw[getD_set_ne true Y0]at hun;exact hun
   refine wpOp_mono (λ a' w' h3=>?_) h2;have hS':S w':=by have:=h3.2.1.1;rw[hd']at this;exact this
   refine⟨h3.2.1.2,ih _ _ (listed.setIfInBounds j true) a' w' Pk (ready_mono hr (dy mn)) h3.1 hS' (λ k hk=>getD_set_true (th k hk)) (fh.set hj) h3.2.1.2 ?_⟩;rw[Array.setIfInBounds_comm _ _ mn];exact h3.2.2
def Cg(P:Program)(md:Region.Mode)(ops:Array Oper)(Q:Exit->Act->World->Prop)(fuel:Nat)(dead:List Nat)(ob:oI)(listed:Array Bool)(a:Act)(w:World):Prop:=vu dead ob w->uD P md ops Q fuel dead ob listed a w
def mB(P:Program)(md:Region.Mode)(ops:Array Oper)(Q:Exit->Act->World->Prop)(dead:List Nat):List (Nat×Bool)->Nat->oI->Array Bool->Act->World->Prop
 |[],fuel,ob,listed,a,w=>Cg P md ops Q fuel dead ob listed a w
 |(i,true)::is,fuel,ob,listed,a,w=>match ops[i]? with
  |some o=>∃v,(Region.wanted o (yielded ops a.tmps)=true/\(execOp a.eval o).run P w= .ok (.value v) w)/\mB P md ops Q dead is (fuel - 1) ((i, λ w'=>(execOp a.eval o).run P w'= .ok (.value v) w')::ob) (listed.setIfInBounds i true) (a.put o.dst v) w
  |none=>False
 |(i,false)::is,fuel,ob,listed,a,w=>match ops[i]? with
  |some o=>Region.wanted o (yielded ops a.tmps)=false/\mB P md ops Q dead is (fuel - 1) ((i, λ _=>True)::ob) (listed.setIfInBounds i true) (a.put o.dst undef) w
  |none=>False
def re(md:Region.Mode)(ops:Array Oper)(dead:List Nat):List (Nat×Bool)->Nat->Array Bool->Bool
 |[],_,_=>true
 |(i,_)::is,fuel,listed=>Region.free md ops listed i&&(Region.ready md ops listed).contains i&&decide (1<=fuel)&&re md ops dead is (fuel - 1) (listed.setIfInBounds i true)
theorem Ch(hn:Region.noSelect ops=true)(hQ:∀d v c a w,Q (.panic c) (Act.put a d v) w->Q (.panic c) a w){dead:List Nat}:∀(is:List (Nat×Bool)) (fuel:Nat) (ob:oI) (listed:Array Bool) (a:Act) (w:World),
 re md ops dead is fuel listed=true->(∀k∈dead,listed.getD k false=true)->zI md ops listed->mB P md ops Q dead is fuel ob listed a w->Cg P md ops Q fuel dead ob listed a w
 |[],_,_,_,_,_,_,_,_,h=>h
 |(i,true)::is,fuel,ob,listed,a,w,ht,hd,fh,h=>by
  unfold re at ht;simp only[bQ,decide_eq_true_eq]at ht;obtain⟨⟨⟨t1,t2⟩,t4⟩,t5⟩:=ht;have Em:i∈Region.ready md ops listed:=by simpa using t2
  have t3:dead.contains i=false:=by rw[eO,decide_eq_false_iff_not];intro h;have:=hd i h;rw[Fg (mem_ready.1 Em).1]at this;cases this
  unfold mB at h;cases ho:ops[i]? with
  |none=>rw[ho]at h;exact h.elim
  |some o=>
   rw[ho]at h;obtain⟨v,⟨h1,h2⟩,h3⟩:=h;obtain⟨f,rfl⟩:∃f,fuel=f+1:=⟨fuel - 1,an⟩;intro hO;refine AF ho (jx hn) (hQ _ _) f dead ob listed a w (kV ho t1) (by simpa using t2) (S:= λ w'=>(execOp a.eval o).run P w'= .ok (.value v) w') (Or.inl ⟨h1, λ _ h=>h⟩) h2 hd fh hO ?_;exact Ch hn hQ is _ _ _ _ _ t5 (λ k hk=>getD_set_true (hd k hk)) (fh.set Em) h3 ⟨(by rw[show dead.contains i=false from t3];exact h2),hO⟩
 |(i,false)::is,fuel,ob,listed,a,w,ht,hd,fh,h=>by
  unfold re at ht;simp only[bQ,decide_eq_true_eq]at ht;obtain⟨⟨⟨t1,t2⟩,t4⟩,t5⟩:=ht;have Em:i∈Region.ready md ops listed:=by simpa using t2
  have t3:dead.contains i=false:=by rw[eO,decide_eq_false_iff_not];intro h;have:=hd i h;rw[Fg (mem_ready.1 Em).1]at this;cases this
  unfold mB at h;cases ho:ops[i]? with
  |none=>rw[ho]at h;exact h.elim
  |some o=>
   rw[ho]at h;obtain⟨h1,h3⟩:=h;obtain⟨f,rfl⟩:∃f,fuel=f+1:=⟨fuel - 1,an⟩;intro hO;refine AF ho (jx hn) (hQ _ _) f dead ob listed a w (kV ho t1) (by simpa using t2) (S:= λ _=>True) (Or.inr ⟨h1,rfl⟩) trivial hd fh hO ?_;exact Ch hn hQ is _ _ _ _ _ t5 (λ k hk=>getD_set_true (hd k hk)) (fh.set Em) h3 ⟨(by rw[show dead.contains i=false from t3];trivial),hO⟩
theorem VD(is:List (Nat×Bool)){ob:oI}
 (hs:(Region.noSelect ops&&re md ops dead is fuel listed&&dead.all (listed.getD · false)&&AE md ops listed)=true)(hQ:∀d v c a w,Q (.panic c) (Act.put a d v) w->Q (.panic c) a w)
 (h:mB P md ops Q dead is fuel ob listed a w):Cg P md ops Q fuel dead ob listed a w:=by
 simp only[bQ]at hs;exact Ch hs.1.1.1 hQ is fuel ob listed a w hs.1.1.2 (λ k hk=>fI.1 hs.1.2 k hk) (Kg hs.2) h
theorem rh{is:List (Nat×Bool)}{ob:oI}(ho:ops[i]? =some o)(hw:Region.wanted o (yielded ops a.tmps)=true)(v:Value)(hv:(execOp a.eval o).run P w= .ok (.value v) w)
 (h:mB P md ops Q dead is (fuel - 1) ((i, λ w'=>(execOp a.eval o).run P w'= .ok (.value v) w')::ob) (listed.setIfInBounds i true) (a.put o.dst v) w):mB P md ops Q dead ((i,true)::is) fuel ob listed a w:=by
 unfold mB;rw[ho];exact⟨v,⟨hw,hv⟩,h⟩
theorem SF{is:List (Nat×Bool)}{ob:oI}(ho:ops[i]? =some o)(hw:Region.wanted o (yielded ops a.tmps)=false)
 (h:mB P md ops Q dead is (fuel - 1) ((i, λ _=>True)::ob) (listed.setIfInBounds i true) (a.put o.dst undef) w):mB P md ops Q dead ((i,false)::is) fuel ob listed a w:=by
 unfold mB;rw[ho];exact⟨hw,h⟩
theorem au(f:Nat)(hf:fuel=f){ob:oI}(h:Cg P md ops Q f dead ob listed a w):mB P md ops Q dead [] fuel ob listed a w:=by subst hf;exact h
theorem aei(i:Nat)(rb:List Nat){ob:oI}(hr:Region.ready md ops listed=[i])(hd:mT md ops i dead=rb)(ho:ops[i]? =some o)
 (h:∀K':Act->World->Prop,Shut (∀a w,vu rb ob w->Cg P md ops Q fuel rb ob (listed.setIfInBounds i true) a w->K' a w)->if Region.wanted o (yielded ops a.tmps)=true then Oper.wp P o a w K' Q else K' (a.put o.dst undef) w):
 Cg P md ops Q (fuel+1) dead ob listed a w:= λ _=>
 ⟨(λ h0=>by rw[hr]at h0;cases h0), λ j hj=>by rw[hr,aE]at hj;subst hj;rw[hd];exact wpOp_step ho (λ K' hK=>h K' (λ a w hS hW=>hK a w ⟨hS,hW hS⟩))⟩
theorem abH(i j:Nat)(di dj:List Nat){u:Oper}{ob:oI}(hr:Region.ready md ops listed=[i,j])(hdi:mT md ops i dead=di)(hdj:mT md ops j dead=dj)(ho:ops[i]? =some o)(hu:ops[j]? =some u)
 (h:∀K':Act->World->Prop,Shut (∀a w,vu di ob w->Cg P md ops Q fuel di ob (listed.setIfInBounds i true) a w->K' a w)->if Region.wanted o (yielded ops a.tmps)=true then Oper.wp P o a w K' Q else K' (a.put o.dst undef) w)
 (h':∀K':Act->World->Prop,Shut (∀a w,vu dj ob w->Cg P md ops Q fuel dj ob (listed.setIfInBounds j true) a w->K' a w)->if Region.wanted u (yielded ops a.tmps)=true then Oper.wp P u a w K' Q else K' (a.put u.dst undef) w):
 Cg P md ops Q (fuel+1) dead ob listed a w:= λ _=>
 ⟨(λ h0=>by rw[hr]at h0;cases h0), λ m hm=>by
   rw[hr]at hm;simp only[aO,dn,or_false]at hm;rcases hm with rfl|rfl
   ·rw[hdi];exact wpOp_step ho (λ K' hK=>h K' (λ a w hS hW=>hK a w ⟨hS,hW hS⟩))
   ·rw[hdj];exact wpOp_step hu (λ K' hK=>h' K' (λ a w hS hW=>hK a w ⟨hS,hW hS⟩))⟩
theorem aej{K':Act->World->Prop}{ob:oI}(hK:Shut (∀a w,vu dead ob w->Cg P md ops Q fuel dead ob listed a w->K' a w))(ho:vu dead ob w)(h:Cg P md ops Q fuel dead ob listed a w):K' a w:=hK.out a w ho h
theorem aek{ob:oI}(hr:Region.ready md ops listed=[])(h:Q .normal a w):∀fuel,Cg P md ops Q fuel dead ob listed a w
 |0=> λ _=>⟨hr,h⟩
 |_+1=> λ _=>⟨λ _=>h,by rw[hr];simp⟩
theorem abI(m:Nat)(hm:P.follows .mixedOrders=true)(hs:ops.size=m)(h:Cg P .any ops Q m [] [] (Array.replicate m false) a w.drew):(Code.region id ops true).wp P Q a w:=
 wp_region_any hm (by subst hs;exact zJ _ _ _ _ _ _ (h trivial))
end
section
variable {P : Program} {Q : Exit -> Act -> World -> Prop}
theorem Mn(m:Nat){l:Nat}(hm:P.follows .mixedOrders=true)(hd:I6 ops=true)(hQ:¬ LetsOut Q)(hs:ops.size=m)
 (h:Cg P .any ops Q m [] [] (Array.replicate m false) a w.drew):(Code.region id ops true).wpIn (Fence.wide.inRound l) n P Q a w:=
 wpIn_region_draw λ t=>by refine Q9 l n hQ (Ff hd) _ _ _ ?_;simp only[Region.schedule,hm,Bool.true_or,if_true];subst hs;exact wpAny_sound ops.size t _ a _ (zJ _ _ _ _ _ _ (h trivial))
end
section
variable {P : Program} {ops : Array Oper} {Q : Exit -> Act -> World -> Prop} {md : Region.Mode}
theorem Ra(is:List (Nat×Bool)){ob:oI}(h:mB P md ops Q dead is fuel ob listed a w)
 (hs:(Region.noSelect ops&&re md ops dead is fuel listed&&dead.all (listed.getD · false)&&AE md ops listed)=true:=by kernel_rfl)(hQ:∀d v c a w,Q (.panic c) (Act.put a d v) w->Q (.panic c) a w:=by intro d v c a w h;cases d<;>exact h):Cg P md ops Q fuel dead ob listed a w:=VD is hs hQ h
theorem tP(is:List Nat){ob:oI}(h:mB P md ops Q dead (is.map λ i=>(i,true)) fuel ob listed a w)
 (hs:(Region.noSelect ops&&re md ops dead (is.map λ i=>(i,true)) fuel listed&&dead.all (listed.getD · false)&&AE md ops listed)=true:=by kernel_rfl)(hQ:∀d v c a w,Q (.panic c) (Act.put a d v) w->Q (.panic c) a w:=by intro d v c a w h;cases d<;>exact h):Cg P md ops Q fuel dead ob listed a w:=VD _ hs hQ h
theorem tO{is:List (Nat×Bool)}{ob:oI}(hq:q)(ho:ops[i]? =some o:=by exact rfl)(hw:Region.wanted o (yielded ops a.tmps)=true:=by kernel_rfl)(hv:(execOp a.eval o).run P w= .ok (.value v) w:=by go_simp<;>with_reducible rfl)
 (h:q->mB P md ops Q dead is (fuel - 1) ((i, λ w'=>(execOp a.eval o).run P w'= .ok (.value v) w')::ob) (listed.setIfInBounds i true) (a.put o.dst v) w:=by intro h;(try simp only[Act.put,dq,eA,fk,gJ,gg,gd]);exact h):mB P md ops Q dead ((i,true)::is) fuel ob listed a w:=rh ho hw v hv (h hq)
theorem tF{is:List (Nat×Bool)}{ob:oI}(hq:q)(ho:ops[i]? =some o:=by exact rfl)(hw:Region.wanted o (yielded ops a.tmps)=false:=by kernel_rfl)
 (h:q->mB P md ops Q dead is (fuel - 1) ((i, λ _=>True)::ob) (listed.setIfInBounds i true) (a.put o.dst undef) w:=by intro h;(try simp only[Act.put,dq,eA,fk,gJ,gg,gd]);exact h):mB P md ops Q dead ((i,false)::is) fuel ob listed a w:=SF ho hw (h hq)
theorem sP(i:Nat)(rb:List Nat){ob:oI}
 (h:∀K':Act->World->Prop,Shut (∀a w,vu rb ob w->Cg P md ops Q fuel rb ob (listed.setIfInBounds i true) a w->K' a w)->if Region.wanted o (yielded ops a.tmps)=true then Oper.wp P o a w K' Q else K' (a.put o.dst undef) w)
 (hr:Region.ready md ops listed=[i]:=by kernel_rfl)(hd:mT md ops i dead=rb:=by kernel_rfl)(ho:ops[i]? =some o:=by exact rfl):Cg P md ops Q (fuel+1) dead ob listed a w:=aei i rb hr hd ho h
theorem G6(i j:Nat)(di dj:List Nat){u:Oper}{ob:oI}
 (h:∀K':Act->World->Prop,Shut (∀a w,vu di ob w->Cg P md ops Q fuel di ob (listed.setIfInBounds i true) a w->K' a w)->if Region.wanted o (yielded ops a.tmps)=true then Oper.wp P o a w K' Q else K' (a.put o.dst undef) w)
 (h':∀K':Act->World->Prop,Shut (∀a w,vu dj ob w->Cg P md ops Q fuel dj ob (listed.setIfInBounds j true) a w->K' a w)->if Region.wanted u (yielded ops a.tmps)=true then Oper.wp P u a w K' Q else K' (a.put u.dst undef) w)
 (hr:Region.ready md ops listed=[i,j]:=by kernel_rfl)(hdi:mT md ops i dead=di:=by kernel_rfl)(hdj:mT md ops j dead=dj:=by kernel_rfl)(ho:ops[i]? =some o:=by exact rfl)(hu:ops[j]? =some u:=by exact rfl):
 Cg P md ops Q (fuel+1) dead ob listed a w:=abH i j di dj hr hdi hdj ho hu h h'
theorem nP{K':Act->World->Prop}{ob:oI}(hK:Shut (∀a w,vu dead ob w->Cg P md ops Q fuel dead ob listed a w->K' a w))(h:Cg P md ops Q fuel dead ob listed a w)(ho:vu dead ob w:=by(repeat(refine⟨?_,?_⟩;·(first|exact trivial|((try dsimp only);go_simp))));exact trivial):K' a w:=hK.out a w ho h
theorem dP{ob:oI}(h:Q .normal a w)(hr:Region.ready md ops listed=[]:=by kernel_rfl):Cg P md ops Q fuel dead ob listed a w:=aek hr h fuel
theorem bP(m:Nat)(h:Cg P .any ops Q m [] [] (Array.replicate m false) a w.drew)(hm:P.follows .mixedOrders=true:=by kernel_rfl)(hs:ops.size=m:=by exact rfl):(Code.region id ops true).wp P Q a w:=abI m hm hs h
end
section
attribute [local go_sem] Oper.semAt_some
attribute [-go_sem] Builtin.append_
theorem Tryz.sU:(Tryz.prog.info? 5).map (λ i=>(i.zero,i.size,i.bytes))=some (some (.int .u8 0),1,1):=bU
theorem Tryz.abJ(n:Nat)(hn:n<=524288):∃M:Array Value,M.size=n/\∀W:World,(Instr.makeSlice 28 (.int .i64 0) (.int .i64 (n:Int))).run Tryz.prog W= .ok (.slice (zp W) 0 n) (W.alloc (.cells M 5)):=by obtain⟨i0,hi,l8,j5,vr⟩:=info_parts Tryz.sU;refine⟨madeCells (Value.int .u8 0).cells n,size_madeCells _ _, λ W=>?_⟩;have:=run_make (P:=Tryz.prog) W 28 5 i0 (.int .u8 0) bU hi l8 .i64 .i64 0 (n:Int) (Int.le_refl _) an qL an;simpa[j5]using this
def bE(xs:List Nat):List Value:=xs.map λ x:Nat=>.int .u8 (x:Int)
def l9{w:World}(at_ n:Nat)(pre:List (qd w)):List Nat:=(pre.map Subtype.val).flatMap (lO at_ n)
theorem Ci(at_ n:Nat)(pre:List (qd w))(x:qd w):l9 at_ n (pre++[x])=l9 at_ n pre++lO at_ n x.1:=by simp[l9]
theorem dk{g:Nat}(h:W.ownsRow n₀ 5 1 (.slice (zp g) k c) k (bE xs))(hx:∀x∈xs,x<256):ay W (zp g) xs/\k<=c/\k=xs.length:=by
 have hl:k=xs.length:=by have:=h.1;simpa[bE]using this.symm
 rcases h.2 with⟨h,_⟩|⟨g',cap,cur,hv,_,hg,hk,_,kA,ht⟩
 ·cases h
 ·cases hv;refine⟨⟨hx,.inr ⟨g,0,rfl, λ j x hj=>?_⟩⟩,hk,hl⟩;have h1:(bE xs)[j]? =some (.int .u8 (x:Int)):=by simp[bE,hj]
  rw[<-ht,bB]at h1;split at h1
  ·simp only[World.cell?,hg,aN];simpa using h1
  ·cases h1
theorem Cj{g:Nat}{e:TypeId}{sz:Nat}{xs:List Value}(h:W.ownsRow n₀ e sz (.slice (zp g) k c) j xs):n₀<=g:=by
 rcases h.2 with⟨h,_⟩|⟨g2,cap,cur,h,hb,_⟩
 ·cases h
 ·cases h;exact hb
def eZ(m:Nat)(a:az):Prop:=∀p,a=some p->m<=p.block
theorem eZ.mono{m':Nat}{a:az}(h:eZ m a)(hm:m'<=m):eZ m' a:= λ p e=>aj hm (h p e)
theorem eZ.of{o:Nat}(h:m<=B):eZ m (some ⟨B,o,none⟩):= λ p e=>by cases e;exact h
theorem Pn{b:az}{ps:List Piece}(h:qV w b ps):∀x∈aw ps,x<256:= λ x hx=>by obtain⟨p,hp,hx⟩:=ck.1 hx;exact(h.2 p hp).2.2.1 x hx
theorem AG{ps:List Piece}{rs:List (qd w)}(Ce:rs.map Subtype.val=iE::ep 0 ps):l9 at_ n rs=((aw ps).drop at_).take n:=by
 have h0:lO at_ n iE=[]:=by simp[lO,iE]
 unfold l9;rw[Ce,bf,h0,bn,aa6,Nat.sub_zero,Nat.sub_zero,List.drop_take];congr 1;omega
theorem I9{ps:List Piece}{rs:List (qd w)}(Ce:rs.map Subtype.val=iE::ep 0 ps)(hn:1<=n){pre:List (qd w)}{x:qd w}(hp:pre++[x]<+:rs)(hx:at_+n<=x.1.at_):l9 at_ n pre=((aw ps).drop at_).take n:=by
 obtain⟨rest,hr⟩:=hp;rw[<-AG Ce];rw[<-hr]at Ce;have h0:lO at_ n iE=[]:=by simp[lO,iE]
 cases pre with
 |nil=>
  simp at Ce;rw[Ce.1]at hx;simp[iE]at hx;omega
 |cons y pre=>
  simp only[bS,bF,eK]at Ce;have:=Pg at_ n ps 0 (pre.map Subtype.val) (rest.map Subtype.val) x.1 (by rw[<-Ce.2];simp) hx;rw[<-hr];unfold l9;have e:((y::pre++[x]++rest).map Subtype.val)=y.1::ep 0 ps:=by rw[<-Ce.2];simp
  rw[e,bf,bF,bf,this]
theorem Rb{w:World}(at_ n:Nat):∀(pre:List (qd w)),(l9 at_ n pre).length<=pre.length*524288
 |[]=>by simp[l9]
 |x::pre=>by
  have h1:=Rb at_ n pre;have h2:l9 at_ n (x::pre)=lO at_ n x.1++l9 at_ n pre:=by simp[l9]
  have h3:(lO at_ n x.1).length<=x.1.bs.length:=by unfold lO;rw[bC,aX];omega
  have h4:=x.2.2.2.2.1;rw[h2,ar,aK];omega
theorem Kh(at_ n:Nat)(x:YY)(h1:x.at_<at_+n):(lO at_ n x).length=min (at_+n - x.at_) x.bs.length - (at_ - x.at_):=by unfold lO;rw[bC,aX]
theorem Mo{b:az}{ps:List Piece}(h:aQ w b c ps)(at_ n:Nat)(kH:1<=n)(hn:at_+n<=(aw ps).length):
 Calls Tryz.prog 186 #[bN b ps.length c,.int .i64 (at_:Int),.int .i64 (n:Int)] w λ e w'=>∃a k,e= .returned (.tuple (Lz a n k))/\n<=k/\ay w' a (((aw ps).drop at_).take n)/\eZ w a/\Below w w w':=by
 have h1:= λ (w2:World) (hb:Below w w w2)=>mA (h.below hb);have h2:= λ (w2:World) (hb:Below w w w2)=>Cf (h.below hb);have H1:=ag h1;have H2:=ag h2;have jN:=h.small;have HF:=ag h;unfold bN at*;clear h1 h2 h;obtain⟨N,hN⟩:∃N:Nat,N=(aw ps).length:=⟨_,rfl⟩;rw[<-hN]at H2 jN hn;have HN:=ag hN;clear hN;have mU:(at_:Int)+(n:Int)<=N:=an;have aiO:(n:Int)<=N - at_:=an;have hwr:IntKind.i64.wrap ((N:Int) - (at_:Int))=(N:Int) - (at_:Int):=by rw[aI];omega
 have BQ:Fence.wide.round=none:=rfl;refine(callsIn_wide (n:=5)).1 ?_;refine callsIn_of_wp_marks Tryz.func186 rfl trivial ?_ BQ;simp only[Tryz.ntmps186,UD,Nat.reduceAdd,Nat.reduceSub];refine wpIn_wide.2 ?_;have H0:Hid (Below w w (((w.alloc (.cells (fA b ps.length c) 31)).alloc (.cells (Ih at_) 3)).alloc (.cells (Ih n) 3))):=ag bW;go_wp2
 go_step3
 go_wp2_with first
  |(with_reducible refine(H1.O _ H0.O).mono ?_;rintro e w2 ⟨rfl,bG⟩;have H3:=ag (H0.O.T (bG.mono H0.O.size));obtain⟨p1,p2,p3⟩:=ae7 bG;have c0:=p1 0 _ rfl;have c1:=p1 1 _ rfl;have c2:=p1 2 _ rfl;have c3:=p1 3 _ rfl;have c4:=p1 4 _ rfl;have d0:=p2 0 _ rfl;have e0:=p3 0 _ rfl;clear bG p1 p2 p3)
  |fail
 go_region_held3 (λ w'=>(w'.cell? (za w 0)=some (.slice none 0 0)/\w'.cell? (za w 1)=some (.slice b ps.length c)/\w'.cell? (za w 2)=some (.int .i64 (-1))/\w'.cell? (za w 3)=some (.int .i64 (-1))/\w'.cell? (za w 4)=some (.bool false)/\w'.cell? (za (w+1) 0)=some (.int .i64 (at_:Int))/\w'.cell? (za (w+1+1) 0)=some (.int .i64 (n:Int)))/\Below w w w')
  (first
    |exact⟨⟨c0,c1,c2,c3,c4,d0,e0⟩,H3.O.drew⟩
    |exact⟨⟨carry dX c0,carry dX c1,carry dX c2,carry dX c3,carry dX c4,carry dX d0,carry dX e0⟩,H3.O.drew.T (dX.mono H3.O.size)⟩)
  (first|(with_reducible refine(H2.O _ H3.O.drew).mono ?_;rintro e w4 ⟨rfl,dX⟩))
 rename_i hS;obtain⟨⟨q0,q1,q2,q3,q4,r0,s0⟩,hB4⟩:=hS;have H4:=ag hB4;clear hB4 dX c0 c1 c2 c3 c4 d0 e0 H3;obtain⟨M,hMs,G5⟩:=Tryz.abJ n an;have agV:=G5 w4;have HMs:=ag hMs;clear G5 hMs;go_wp2
 go_step3
 obtain⟨w5,kY⟩:=bL ((w4.alloc (.cells M 5)).alloc (.cells (sg (zp w4) 0 n) 28));rw[<-kY];have B5:Below w4 w4 w5:=by rw[kY];exact((ah _ w4).alloc (cH) _).alloc cP _
 have s5:w5.heap.size=w4.heap.size+1+1:=by rw[kY];simp
 have bx:Boxed w5 (w4+1) 28 (.slice (zp w4) 0 n):=by have:=lp (w4.alloc (.cells M 5)) 28 (.slice (zp w4) 0 n);rw[bt]at this;rw[kY];exact this
 have row:w5.ownsRow w4 5 1 (.slice (zp w4) 0 n) 0 []:=by have:=ki w4 (base:=w4.heap.size) (e:=5) (size:=1) M n (cH) kt (by rw[HMs.O];simp);rw[kY];exact this.alloc _
 have H45:=ag B5;have Bx:=ag bx;have Row:=ag row;have H5:=ag (H4.O.T (B5.mono H4.O.size));have lr:w.heap.size+1<w4.heap.size:=aZ w4 _ r0;have ls:w.heap.size+1+1<w4.heap.size:=aZ w4 _ s0;replace q0:=carry B5 q0;replace q1:=carry B5 q1;replace q2:=carry B5 q2;replace q3:=carry B5 q3;replace q4:=carry B5 q4;replace r0:=carry B5 r0;replace s0:=carry B5 s0;clear kY bx row agV B5
 go_wp2_with first
  |(refine(Vr b ps.length c _).mono ?_;rintro e w6 ⟨rfl,rfl⟩)
  |fail
 have OY:aQ w4 b c ps:=HF.O.below H4.O;obtain⟨rs,Ce⟩:=SD OY;have H56:Below w5 w5 (w5.alloc (.cells (fA b ps.length c) 31)):=(ah _ w5).alloc (cH) _;have hF6:=(HF.O.below H5.O).below H56;have m0:(w5.alloc (.cells (fA b ps.length c) 31)).cell? (za (w4+1+1) 0)=some (.slice none 0 0):=by rw[<-s5,bO];rfl
 have m1:(w5.alloc (.cells (fA b ps.length c) 31)).cell? (za (w4+1+1) 1)=some (.slice b ps.length c):=by rw[<-s5,bO];rfl
 have sc:ps≠[]->∀B o,b=some ⟨B,o,none⟩->B<w4.heap.size:= λ dN B o hb=>by
  rcases OY.pieces.1 with h|⟨B',o',Mp,hc⟩
  ·exact absurd h dN
  ·rw[hb]at Mp;obtain⟨rfl,rfl⟩:B=B'/\o=o':=by simpa using Mp
   obtain⟨p,hp⟩:∃p,ps[0]? =some p:=by cases ps with
    |nil=>exact absurd rfl dN
    |cons p l=>exact⟨p,rfl⟩
   exact aZ w4 _ (hc 0 p hp)
 refine(wpIn_wide (n:=5)).1 ?_;refine abF (n:=5) 10 11 BQ an (gf:=236) (lb:=(iS (zp (w4+1+1)))) rfl trivial (enters_of Tryz.func236 bU rfl)
  (Ph Fence.wide (5 - 1) trivial BQ an w4 _ (w4+1+1) w4 b c ps rs Ce (by simp[s5]) mN m0 m1 hF6 sc) oM.T (oM.putObj mN (by rintro k rfl;simp[s5])) (gb)
  (λ pre W=>(∃v,Boxed W (w4+1) 28 v/\W.ownsRow w4 5 1 v (l9 at_ n pre).length (bE (l9 at_ n pre))/\∃g k,v= .slice (zp g) (l9 at_ n pre).length k)/\W.heap[w4.heap.size+1+1]? =some (.cells (fA b ps.length c) 31)/\Below w4 w5 W)
  (λ cd xs W=>((∃pre x,xs=pre++[x]/\cd= .exit 1/\at_+n<=x.1.at_/\∃v,Boxed W (w4+1) 28 v/\W.ownsRow w4 5 1 v (l9 at_ n pre).length (bE (l9 at_ n pre))/\∃g k,v= .slice (zp g) (l9 at_ n pre).length k)/\W.heap[w4.heap.size+1+1]? =some (.cells (fA b ps.length c) 31)/\Below w4 w5 W))
  ?hI ?hIx ?h0 ?assign ?body ?done ?stop
 case hI=>exact lN (Own.from (holdsRow_own w4 (w4+1) 28 5 1 (λ pre:List (qd w4)=>(l9 at_ n pre).length) (λ pre=>bE (l9 at_ n pre)) (λ pre v=>∃g k,v= .slice (zp g) (l9 at_ n pre).length k)) _) (lN (Own.from (Mj _ _ rfl) _) (ownFrom_below mN mN))
 case hIx=>
  intro cd;refine lN (Own.from (λ s A B row hs hg hr=>?_) _) (lN (Own.from (Mj _ _ rfl) _) (ownFrom_below mN mN));obtain⟨pre,x,h1,h2,h3,h4⟩:=hs;exact⟨pre,x,h1,h2,h3,holdsRow_own w4 (w4+1) 28 5 1 (λ pre:List (qd w4)=>(l9 at_ n pre).length) (λ pre=>bE (l9 at_ n pre)) (λ pre v=>∃g k,v= .slice (zp g) (l9 at_ n pre).length k) pre A B row h4 hg hr⟩
 case h0=>exact⟨⟨_,Bx.O.alloc _,Row.O.alloc _,_,_,rfl⟩,by rw[<-s5];exact ai w5 _,H56.mono mN⟩
 case assign=>
  intro l x W K hK;gi_wp2;exact hK
 case body=>
  rintro l pre x W ⟨⟨_,hv,bA,g,k,rfl⟩,hH,hB⟩ cL;obtain⟨hxb,hxc,hxa,hxl,hxe⟩:=x.2;have r1:W.cell? (za (w+1) 0)=some (.int .i64 (at_:Int)):=(hB.cell (p:=(za (w+1) 0)) lr).T r0;have s1:W.cell? (za (w+1+1) 0)=some (.int .i64 (n:Int)):=(hB.cell (p:=(za (w+1+1) 0)) ls).T s0;have hc:=hv.cell;have hf:=hv.frozen;by_cases eb:at_+n<=x.1.at_
  ·have DP:(at_:Int)+(n:Int)<=(x.1.at_:Int):=an;gi_wp2;exact⟨KeepsFrom.refl _ _,⟨pre,x,rfl,rfl,eb,_,hv,bA,g,k,rfl⟩,hH,hB⟩
  ·have DP:(x.1.at_:Int)<(at_:Int)+(n:Int):=an;have Ja:(x.1.at_:Int)+(x.1.bs.length:Int)<=1048576:=an;by_cases jP:at_<x.1.at_+x.1.bs.length
   ·have Y1:(at_:Int)<(x.1.at_:Int)+(x.1.bs.length:Int):=an;obtain⟨i0,hi,l8,j5,vr⟩:=info_parts Tryz.sU;obtain⟨B,o,aiP,agW⟩:∃B o,x.1.a=some ⟨B,o,none⟩/\∀(j:Nat) (y:Nat),x.1.bs[j]? =some y->W.cell? (za B (o+j))=some (.int .u8 (y:Int)):=by
     rcases hxb.2 with h|⟨B,o,h1,h2⟩
     ·have:=hxe h;rw[h]at jP;simp at jP;omega
     ·exact⟨B,o,h1, λ j y hy=>by have cL:=aZ w4 _ (h2 j y hy);exact(hB.cell (p:=(za B (o+j))) cL).T ((H45.O.cell (p:=(za B (o+j))) cL).T (h2 j y hy))⟩
    obtain⟨lo,En⟩:=bL (at_ - x.1.at_);obtain⟨Y2,hhi⟩:∃Y2,Y2=min (at_+n - x.1.at_) x.1.bs.length:=⟨_,rfl⟩;have Y3:=Kh at_ n x.1 an;rw[<-En,<-hhi]at Y3;have zK:1<=x.1.bs.length:=by
     rcases eB x.1.bs.length with h|h
     ·have:=hxe (eT h);omega
     ·exact h
    have hlh:lo+1<=Y2:=an;have hhc:Y2<=x.1.cap:=an;have hol:=Rb at_ n pre;have BP:pre.length<=524289:=by
     have h1:rs.length=ps.length+1:=by have:=congrArg List.length Ce;simpa[uZ]using this
     have:=OY.LB;omega
    obtain⟨v',w1,eh,gp,jQ, -, -⟩:=run_append_own_at (P:=Tryz.prog) W.drew w4 28 28 5 i0 (.int .u8 0) 1 1 bU hi l8 j5 vr rfl de _ _ (bE (l9 at_ n pre)) bA
     ⟨B,o+lo,none⟩ (Y2 - lo) (x.1.cap - lo) (bE (lO at_ n x.1)) (by simp[bE,Y3])
     (λ j u hj=>by
       obtain⟨y,hy,rfl⟩:∃y,(lO at_ n x.1)[j]? =some y/\Value.int .u8 (y:Int)=u:=by simpa[bE]using hj
       have I5:x.1.bs[lo+j]? =some y:=by
        unfold lO at hy;rw[<-En]at hy;rw[fi,bB]at hy;split at hy
        ·exact hy
        ·cases hy
       have:=agW _ y I5;show W.cell? _=_;rw[<-this];cases j with
       |zero=>rfl
       |succ j=>simp[Addr.add,bh])
     (λ u hu=>by obtain⟨y,_,rfl⟩:=aM.1 hu;rfl)
     kt an (aj (by rw[s5];omega) hB.size)
    obtain⟨q,hq⟩:∃q,(l9 at_ n pre).length+(Y2 - lo)=q+1:=⟨(l9 at_ n pre).length+(Y2 - lo) - 1,an⟩;rw[hq]at gp;obtain⟨g',k',rfl⟩:=ownsRow_succ gp;obtain⟨k1,k2,k3,k4,k5⟩:=Fc (W:=W.drew) hv de bA (aj an hB.size) an gp jQ;have Vq:=k1.cell;have hf1:=k1.frozen;have r2:w1.cell? (za (w+1) 0)=some (.int .i64 (at_:Int)):=(k5.cell (p:=(za (w+1) 0)) lr).T r1;have s2:w1.cell? (za (w+1+1) 0)=some (.int .i64 (n:Int)):=(k5.cell (p:=(za (w+1+1) 0)) ls).T s1;have k6:=k5.setCell (p:=(za (w4+1) 0)) (bk _) (.slice (zp g') (q+1) k');have r3:=(k6.cell (p:=(za (w+1) 0)) lr).T r1;have s3:=(k6.cell (p:=(za (w+1+1) 0)) ls).T s1;have bY:IntKind.i64.wrap ((at_:Int) - (x.1.at_:Int))=(at_:Int) - (x.1.at_:Int):=by rw[aI];omega
    have fH:IntKind.i64.wrap ((at_:Int)+(n:Int) - (x.1.at_:Int))=(at_:Int)+(n:Int) - (x.1.at_:Int):=by rw[aI];omega
    have fh:¬ x.1.cap=lo:=an;have agX:lo<=Y2:=an;have agX:lo<=Y2:=an;have Kb:max ((at_:Int) - (x.1.at_:Int)) 0=(lo:Int):=an;have hmn:min ((at_:Int)+(n:Int) - (x.1.at_:Int)) (x.1.bs.length:Int)=(Y2:Int):=an;have gV:IntKind.i64.wrap ((at_:Int)+(n:Int))=(at_:Int)+(n:Int):=by rw[aI];omega
    have hlen:(l9 at_ n (pre++[x])).length=q+1:=by rw[Ci,ar,Y3,hq]
    have K2:oM w4 (·=w4.heap.size+1+1) W (w1.setCell (za (w4+1) 0) (.slice (zp g') (q+1) k')):=by refine⟨((ah _ W).drew).T k6,?_⟩;rintro j rfl;rw[aq _ _ _ _ cP];exact jQ.block _ (cS hH).1 (uC hH de bA)
    have F3:∃v,Boxed (w1.setCell (za (w4+1) 0) (.slice (zp g') (q+1) k')) (w4+1) 28 v/\(w1.setCell (za (w4+1) 0) (.slice (zp g') (q+1) k')).ownsRow w4 5 1 v (l9 at_ n (pre++[x])).length (bE (l9 at_ n (pre++[x])))/\∃g k,v= .slice (zp g) (l9 at_ n (pre++[x])).length k:=
     ⟨_,k2,by rw[hlen,Ci,show bE (l9 at_ n pre++lO at_ n x.1)=bE (l9 at_ n pre)++bE (lO at_ n x.1)from aJ];exact k3,g',k',by rw[hlen]⟩
    have fin:=G2 (((KeepsOthers.drew W).T k4).from (w5.alloc (.cells (fA b ps.length c) 31)).heap.size) K2 F3 ((K2.same _ rfl).T hH) (hB.T K2.below);clear En hhi hq Y3 hxe hxl hxa hxc hlh hol BP hlen K2 k2 k3 k4 F3;gi_wp2;refine Mn 17 bU bU (by rintro⟨a',w',h⟩;exact h) rfl ?_;refine tP [0,1,2,3,4,5,6,7,8,9,10,11,12,13,14] ?_
    iterate 15 refine tO ?_
    refine au 2 rfl ?_;refine sP 15 [0,1,2,3,4,5,6,7,8,9,10,11,12,13,14] λ K hK=>?_;go_simp;refine nP hK ?_;clear hK K;refine sP 16 [0,1,2,3,4,5,6,7,8,9,10,11,12,13,14,15] λ K hK=>?_;go_simp;refine nP hK ?_;clear hK K;refine dP ?_;go_simp;gi_wp2
    all_goals exact fin.O
   ·have Y1:(x.1.at_:Int)+(x.1.bs.length:Int)<=(at_:Int):=an;gi_wp2;have fh:lO at_ n x.1=[]:=Pf an;have hfm:l9 at_ n (pre++[x])=l9 at_ n pre:=by rw[Ci,fh,cj]
    exact⟨KeepsFrom.refl _ _,oM.refl _ _ _,⟨_,hv,by rw[hfm];exact bA,g,k,by rw[hfm]⟩,hH,hB⟩
 case done=>
  rintro D ys W hD rfl ⟨⟨_,hv,bA,g,k,rfl⟩,hH,hB⟩ hK;have hc:=hv.cell;obtain⟨sk,tw,YX⟩:=dk bA (λ y hy=>by rw[AG Ce]at hy;exact Pn OY.pieces y (bm (aP hy)));have mz:=dk (ownsRow_putObj bA (.deferred none) hK rfl) (λ y hy=>by rw[AG Ce]at hy;exact Pn OY.pieces y (bm (aP hy)));rw[AG Ce]at mz hc;have hlen:(((aw ps).drop at_).take n).length=n:=by rw[aX,bC,<-HN.O];omega
  rw[hlen]at mz hc;have hBf:Below w w (W.putObj D (.deferred none)):=(H5.O.T (hB.mono (cm H4.O.size))).T ((belowK_b (w:=w5) (n₀:=w.heap.size) (cm H5.O.size) W D _ _ (by simp[s5]at hD⊢;omega) hK rfl rfl));have qw:=oT mz.2.1 mz.1 (eZ.of (o:=0) (aj H4.O.size (Cj bA))) hBf;clear sk tw YX mz hlen bA hv hH hB hBf;go_wp2;refine⟨by simp,.inl ⟨_,_,rfl,run_takeDeferred hK,?_⟩⟩;exact⟨_,results_tmp2 rfl _ _ _,_,_,rfl,qw.O⟩
 case stop=>
  rintro D cd xs W hD hp ⟨⟨pre,x,rfl,rfl,hx,_,hv,bA,g,k,rfl⟩,hH,hB⟩ hK;have hc:=hv.cell;have mz:=dk (ownsRow_putObj bA (.deferred none) hK rfl) (λ y hy=>by rw[I9 Ce kH hp hx]at hy;exact Pn OY.pieces y (bm (aP hy)));rw[I9 Ce kH hp hx]at mz hc;have hlen:(((aw ps).drop at_).take n).length=n:=by rw[aX,bC,<-HN.O];omega
  rw[hlen]at mz hc;have hBf:Below w w (W.putObj D (.deferred none)):=(H5.O.T (hB.mono (cm H4.O.size))).T ((belowK_b (w:=w5) (n₀:=w.heap.size) (cm H5.O.size) W D _ _ (by simp[s5]at hD⊢;omega) hK rfl rfl));have qw:=oT mz.2.1 mz.1 (eZ.of (o:=0) (aj H4.O.size (Cj bA))) hBf;clear mz hlen bA hv hH hB hBf hx;refine wpIn_wide.2 ?_;go_wp2;refine⟨by simp,.inl ⟨_,_,rfl,run_takeDeferred hK,?_⟩⟩;exact⟨_,results_tmp2 rfl _ _ _,_,_,rfl,qw.O⟩
theorem pJ{a:az}(x:Nat)(X:Int)(hX:X=(x:Int))(bA:W.ownsRow n₀ 5 1 (.slice a k c) k (bE xs))(hk:k<1048576)(hn:n₀<=W.heap.size):
 ∃g' c' w',(Builtin.append_ #[28,28] 28 (fP a k c (zp W) 1 1)).run Tryz.prog (W.alloc (.cells #[.int .u8 X] 5))= .ok (.slice (zp g') (k+1) c') w'/\
  w'.ownsRow n₀ 5 1 (.slice (zp g') (k+1) c') (k+1) (bE (xs++[x]))/\Below n₀ W w'/\n₀<=g'/\(∀(B:Nat) (cs:Array Value) (t:TypeId) (fz:Nat×Nat),W.heap[B]? =some (Obj.cells cs t fz)->t≠5->w'.heap[B]? =some (Obj.cells cs t fz)):=by
 subst hX;obtain⟨i0,hi,l8,j5,vr⟩:=info_parts Tryz.sU;obtain⟨v',w1,eh,gp,jQ, -, -⟩:=run_append_own_at (P:=Tryz.prog) (W.alloc (.cells (zk x) 5)) n₀ 28 28 5 i0 (.int .u8 0) 1 1 bU hi l8 j5 vr rfl de _ _ (bE xs) (bA.alloc _)
  ⟨W.heap.size,0,none⟩ 1 1 [.int .u8 (x:Int)] rfl (cell_one_new _ _ _) bz kt an dU
 obtain⟨g',k',rfl⟩:=ownsRow_succ gp;refine⟨g',k',w1,eh,by simpa[bE]using gp,?_,?_,?_⟩
 ·refine((ah n₀ W).alloc hn _).grown jQ dU λ j ej=>?_;rcases bA.2 with⟨h,_⟩|⟨g,cap,cur,h,hb,_⟩
  ·cases h;simp[Value.ownBlock]at ej
  ·cases h;obtain rfl:g=j:=by simpa[Value.ownBlock]using ej
   exact hb
 ·rcases gp.2 with⟨h,_⟩|⟨g2,cap,cur,h,hb,_⟩
  ·cases h
  ·cases h;exact hb
 ·intro B cs t fz hB ht;have h1:(W.alloc (.cells (zk x) 5)).heap[B]? =some (Obj.cells cs t fz):=(aT W _ B (cS hB).1).T hB;exact(jQ.block B (cS h1).1 (uC h1 ht (bA.alloc _))).T h1
end
theorem VE(k:Nat)(h1:1<=k)(h2:k<=4096)(w:World):Calls Tryz.prog 113 (Ih k) w λ e w'=>e= .returned (.bool true)/\w'=w:=by have e1:(1:Int)<=(k:Int):=an;have e2:(k:Int)<=4096:=an;go_enter Tryz.func113,Tryz.ntmps113;go_wp2;go_ret;exact⟨rfl,rfl⟩
def Marks(all:List Nat):Prop:=∀i,i%64=0->∀x,all[i]? =some x->x=0
theorem SG{b:az}{ps:List Piece}(h:aQ w b c ps)(hm:Marks (aw ps)):
 Calls Tryz.prog 150 #[bN b ps.length c,.int .i64 ((aw ps).length:Nat)] w λ e w'=>e= .returned (.bool false)/\Below w w w':=by
 have jN:=h.small;obtain⟨N,hN⟩:∃N:Nat,N=(aw ps).length:=⟨_,rfl⟩;rw[<-hN]at jN⊢;have yJ:(N:Int).tmod 64=((N%64:Nat):Int):=by rw[dm an];omega
 by_cases h0:N%64=0
 ·unfold bN;have h0':(N:Int).tmod 64=0:=by rw[yJ];omega
  have HB:Hid (Below w w (w.alloc (.cells (fA b ps.length c) 31))):=ag bW;clear hN h hm yJ;go_enter Tryz.func150,Tryz.ntmps150;go_wp2;go_ret;exact⟨rfl,HB.O⟩
 ·obtain⟨r,hr⟩:=bL (N%64);obtain⟨q,hq⟩:=bL (N - r);rw[<-hr]at yJ h0;have py:(N:Int) - (r:Int)=(q:Int):=an;have Vx:¬ (r:Int)=0:=an;have hx:((aw ps).drop q).take 1=[0]:=by
   have h1:q<(aw ps).length:=an;have h2:=hm q an _ (aB h1);rw[bI h1,h2];rfl
  have hR:∀w2:World,Below w w w2->Calls Tryz.prog 186 #[.agg (fA b ps.length c),.int .i64 (q:Int),.int .i64 1] w2 λ e w'=>(∃B o k,e= .returned (.tuple (Lz (some ⟨B,o,none⟩) 1 k))/\w'.cell? ⟨B,o,none⟩=some (.int .u8 0))/\Below w2 w2 w':= λ w2 hb=>by
   have:=Mo (h.below hb) q 1 (cH) an;rw[hx]at this;refine this.mono ?_;rintro e w' ⟨a,k,rfl,hk,sk, -,hB⟩;rcases sk.2 with h|⟨B,o,rfl,hc⟩
   ·cases h
   ·exact⟨⟨B,o,k,rfl,hc 0 0 rfl⟩,hB⟩
  have HR:=ag hR;unfold bN;have HB:Hid (Below w w (w.alloc (.cells (fA b ps.length c) 31))):=ag bW;clear hN h hm hq hR hx h0 hr;go_enter Tryz.func150,Tryz.ntmps150
  go_wp2_with first
   |(with_reducible refine(HR.O _ HB.O).mono ?_;rintro e w2 ⟨⟨B,o,k,rfl,hc⟩,bG⟩)
   |fail
  go_ret;exact⟨rfl,HB.O.T (bG.mono HB.O.size)⟩
section
attribute [-go_sem] Builtin.append_
def sV(n:Nat):List Nat:=[n/256%256,n%256]
def Fh(xs ys:List Nat):Nat:=fm (mv (fm (fm (mv (fm 0) xs))) ys)
def Q4(s:Nat):List Nat:=[s%256,s/256%256,s/65536%256,s/16777216%256]
def ft(p:List Nat):List Nat:=sV p.length++Q4 (Fh (sV p.length) p)++p
theorem Po(l n:Nat)(hl:l<=n)(hn:n<=524288):∃M:Array Value,M.size=n/\(∀j,j<n->M[j]? =some (.int .u8 0))/\∀W:World,(Instr.makeSlice 28 (.int .i64 (l:Int)) (.int .i64 (n:Int))).run Tryz.prog W= .ok (.slice (zp W) l n) (W.alloc (.cells M 5)):=by
 obtain⟨i0,hi,l8,j5,vr⟩:=info_parts Tryz.sU;refine⟨madeCells (Value.int .u8 0).cells n,size_madeCells _ _, λ j hj=>?_, λ W=>?_⟩
 ·simp[madeCells,hj,Value.cells,lL]
 ·have:=run_make (P:=Tryz.prog) W 28 5 i0 (.int .u8 0) bU hi l8 .i64 .i64 (l:Int) (n:Int) an an qL an;simpa[j5]using this
theorem Rc(p:List Nat)(a:az)(c:Nat)(w:World)(hp:1<=p.length)(C0:p.length<=4096)(hb:ay w a p):
 Calls Tryz.prog 115 (sg a p.length c) w λ e w'=>∃g k,e= .returned (.slice (zp g) (6+p.length) k)/\w.heap.size<=g/\w'.ownsRow w 5 1 (.slice (zp g) (6+p.length) k) (6+p.length) (bE (ft p))/\Below w w w':=by
 obtain⟨n,hn⟩:=bL p.length;rw[<-hn]at hp C0⊢;obtain⟨M,hM,hMj,G5⟩:=Po 2 (6+n) an an;have hM0:=hMj 0 an;have hM1:=hMj 1 an;have agY:∀W:World,(Instr.makeSlice 28 (.int .i64 2) (.int .i64 (6+(n:Int)))).run Tryz.prog W= .ok (.slice (zp W) 2 (6+n)) (W.alloc (.cells M 5)):= λ W=>by have:=G5 W;simpa using this
 have cL:∀y∈sV n,y<256:=by intro y hy;simp[sV]at hy;omega
 have hhd:sV n=[n/256,n%256]:=by unfold sV;rw[cl (by omega:n/256<256)]
 obtain⟨M',hM'⟩:∃M',M'=(M.setIfInBounds 0 (.int .u8 ((n:Int)/256))).setIfInBounds 1 (.int .u8 ((n:Int)%256)):=⟨_,rfl⟩;have ac5:M'[0]? =some (.int .u8 ((n/256:Nat):Int)):=by rw[hM',cT de,bZ an];rfl
 have ac6:M'[1]? =some (.int .u8 ((n%256:Nat):Int)):=by rw[hM',bZ (by rw[eN];omega)];rfl
 have ae8:M'.size=6+n:=by rw[hM'];simp[hM]
 have hS:Calls Tryz.prog 84 (sg (zp w) 2 (6+n)) (w.alloc (.cells M' 5)) λ e w'=>e= .returned (.int .u32 (fm (mv (fm 0) (sV n)):Nat))/\Below (w.alloc (.cells M' 5)).heap.size (w.alloc (.cells M' 5)) w':=by
  refine Q6 (sV n) w 0 (6+n) (w.alloc (.cells M' 5)) cL (by simp[sV]) (λ j x hj=>?_);rw[bO];rw[hhd]at hj
  match j,hj with
  |0,hj=>cases hj;exact ac5
  |1,hj=>cases hj;exact ac6
 have gC:fm (mv (fm 0) (sV n))<4294967296:=jZ _ (qx _ _ (jZ 0 de) cL);have hMo:∀w2:World,Below w w w2->Calls Tryz.prog 85 #[.int .u32 (fm (mv (fm 0) (sV n)):Nat),.slice a n c] w2 λ e w'=>e= .returned (.int .u32 (Fh (sV n) p:Nat))/\Below w2 w2 w':= λ w2 hB=>by
  have h2:=hb.below hB;rcases h2.2 with h|⟨B,o,rfl,hc⟩
  ·rw[h]at hn;simp at hn;omega
  ·have:=E9 _ p B o c w2 gC h2.1 an hc;rw[<-hn]at this;exact this
 have lH:Fh (sV n) p<4294967296:=jZ _ (qx _ _ (jZ _ gC) hb.1);have HW:Hid (Below w w (w.alloc (.cells M' 5))):=ag ((ah _ w).alloc (cH) _);generalize Ki:Fh (sV n) p=s2 at hMo lH;generalize fm (mv (fm 0) (sV n))=s1 at hS hMo gC;have HS:=ag hS;have HMo:=ag hMo;have Hb:=ag hb;have HM:=ag ae8;have Hn:=ag hn;have Hcs:=ag Ki;have agZ:=ag ac5;have ag0:=ag ac6;clear G5 hMj hb hM hn hS hMo Ki ae8 ac5 ac6 cL gC;go_enter Tryz.func115,Tryz.ntmps115
 go_wp2_with first
  |(rw[<-hM'];with_reducible refine HS.O.mono ?_;rintro e w2 ⟨rfl,bG⟩;have H2:=ag (HW.O.T (bG.mono HW.O.size));have jk:=bG.block w cP)
  |(with_reducible refine(HMo.O _ H2.O).mono ?_;rintro e w3 ⟨rfl,cu⟩;have H3:=ag (H2.O.T (cu.mono H2.O.size)))
  |fail
 have bA:w3.ownsRow w 5 1 (.slice (zp w) 2 (6+n)) 2 (bE (sV n)):=by
  have pz:w3.heap[w.heap.size]? =some (.cells M' 5 (0,0)):=by have e1:=ai w (.cells M' 5);have e2:=jk.T e1;exact(cu.block w (cS e2).1).T e2
  refine⟨by simp[bE,sV],.inr ⟨w.heap.size,6+n,M',rfl,cH,pz,an,by simp[maxLen];omega,by rw[HM.O];simp,?_⟩⟩;rw[hhd];have h0:=agZ.O;have h1:=ag0.O;apply List.ext_getElem?;intro j;rw[bB]
  match j with
  |0=>simpa[bE]using h0
  |1=>simpa[bE]using h1
  |j+2=>simp[bE];intro h;omega
 have ag1:=ag bA;clear bA jk bG cu
 go_loopw [4,25] (λ v i wr=>∃k:Nat,k<=4/\i= .int .i64 (k:Int)/\∃g c',v= .slice (zp g) (2+k) c'/\w.heap.size<=g/\Hid (wr.ownsRow w 5 1 (.slice (zp g) (2+k) c') (2+k) (bE (sV n++(Q4 s2).take k)))/\Hid (Below w w wr)) (λ _ i _=>4 - (intOf i).toNat)
 case atStart=>exact⟨0,an,rfl,_,_,rfl,cH,ag (by simpa using ag1.O),H3⟩
 case round=>
  obtain⟨k,hk,rfl,g,c',rfl,hg,bA,hB⟩:=hrel;by_cases cL:k<4
  ·have Vy:(k:Int)<4:=an;have oN:k=0\/k=1\/k=2\/k=3:=an;rcases oN with rfl|rfl|rfl|rfl
   ·obtain⟨g',c2,w4,eh,jC,Is,ti, -⟩:=pJ (s2%256) ((s2:Int)%256) an bA.O an hB.O.size;have qw:=eS jC (hB.O.T Is) ti;clear jC Is ti
    go_wp2_with fail
    exact⟨⟨1,an,rfl,g',c2,rfl,qw.O.2.2,ag uj,ag qw.O.2.1⟩,by simp[intOf]⟩
   ·obtain⟨g',c2,w4,eh,jC,Is,ti, -⟩:=pJ (s2/256%256) ((s2:Int)/256%256) an bA.O an hB.O.size;have qw:=eS jC (hB.O.T Is) ti;clear jC Is ti
    go_wp2_with fail
    exact⟨⟨2,an,rfl,g',c2,rfl,qw.O.2.2,ag uj,ag qw.O.2.1⟩,by simp[intOf]⟩
   ·obtain⟨g',c2,w4,eh,jC,Is,ti, -⟩:=pJ (s2/65536%256) ((s2:Int)/65536%256) an bA.O an hB.O.size;have qw:=eS jC (hB.O.T Is) ti;clear jC Is ti
    go_wp2_with fail
    exact⟨⟨3,an,rfl,g',c2,rfl,qw.O.2.2,ag uj,ag qw.O.2.1⟩,by simp[intOf]⟩
   ·obtain⟨g',c2,w4,eh,jC,Is,ti, -⟩:=pJ (s2/16777216%256) ((s2:Int)/16777216) an bA.O an hB.O.size;have qw:=eS jC (hB.O.T Is) ti;clear jC Is ti
    go_wp2_with fail
    exact⟨⟨4,an,rfl,g',c2,rfl,qw.O.2.2,ag uj,ag qw.O.2.1⟩,by simp[intOf]⟩
  ·obtain rfl:k=4:=an;have h2:=Hb.O.below hB.O;obtain⟨B,o,rfl,hc⟩:∃B o,a=some ⟨B,o,none⟩/\∀(j:Nat) (x:Nat),p[j]? =some x->wr.cell? (za B (o+j))=some (.int .u8 (x:Int)):=by
    rcases h2.2 with h|h
    ·have:=Hn.O;rw[h]at this;simp at this;omega
    ·exact h
   obtain⟨i0,hi,l8,j5,vr⟩:=info_parts Tryz.sU;obtain⟨v',w4,eh,gp,jQ, -, -⟩:=run_append_own_at (P:=Tryz.prog) wr w 28 28 5 i0 (.int .u8 0) 1 1 bU hi l8 j5 vr rfl de _ _ _ bA.O
    ⟨B,o,none⟩ n c (bE p) (by simp[bE,Hn.O]) (λ j u hj=>by
      obtain⟨y,hy,rfl⟩:∃y,p[j]? =some y/\Value.int .u8 (y:Int)=u:=by simpa[bE]using hj
      rw[<-hc j y hy];cases j with
      |zero=>rfl
      |succ j=>simp[Addr.add])
    (λ u hu=>by obtain⟨y,_,rfl⟩:=aM.1 hu;rfl) kt an hB.O.size
   rw[show 2+4+n=(5+n)+1 by omega]at gp;obtain⟨g',k',rfl⟩:=ownsRow_succ gp;rw[show(5+n)+1=6+n by omega]at gp eh;have Is:Below w w w4:=by
    refine hB.O.grown jQ hB.O.size λ j ej=>?_;rcases bA.O.2 with⟨h,_⟩|⟨g2,cap,cur,h,hb,_⟩
    ·cases h
    ·cases h;obtain rfl:g=j:=by simpa[Value.ownBlock]using ej
     exact hb
   have ti:w.heap.size<=g':=by
    rcases gp.2 with⟨h,_⟩|⟨g2,cap,cur,h,hb,_⟩
    ·cases h
    ·cases h;exact hb
   have he:bE (sV n++List.take 4 (Q4 s2))++bE p=bE (ft p):=by rw[ft,<-Hn.O,Hcs.O];simp[bE,Q4]
   rw[he]at gp;have qw:=eS ti gp Is;clear he gp ti Is jQ hc h2 hi l8 j5 vr
   go_wp2_with fail
   go_ret;exact⟨g',k',rfl,qw.O⟩
def mC(W:World)(B n₀:Nat)(a:az)(c n0:Nat)(bs:List Nat):Prop:=
 W.heap[B]? =some (Obj.cells #[.slice a bs.length c,.int .i64 (n0:Int)] 262 (0,0))/\W.ownsRow n₀ 5 1 (.slice a bs.length c) bs.length (bE bs)
theorem aaa{u':Value}(h:W.heap[B]? =some (Obj.cells #[u,v] t (0,0))):(W.setCell (za B 0) u').heap[B]? =some (Obj.cells #[u',v] t (0,0)):=by obtain⟨cL,hk⟩:=cS h;show(W.heap.modify B _)[B]? =_;rw[br (by rw[Array.size_modify];exact cL),Array.getElem_modify_self,hk];rfl
theorem tA(h:W.heap[B]? =some (Obj.cells #[u,v] t (0,0))):W.cell? (za B 0)=some u/\W.cell? (za B 1)=some v/\W.frozen? ⟨B,0,none⟩=false:=by refine⟨?_,?_,?_⟩<;>simp[World.cell?,World.frozen?,h]
def ny(n0:Nat)(bs:List Nat)(x:Nat):List Nat:=(if(n0+bs.length)%64=0 then bs++[0]else bs)++[x]
theorem sW{a:az}(x:Nat)(h:mC W B n₀ a c n0 bs)(hk:bs.length<1048576)(hn:n₀<=W.heap.size)(hB:n₀<=B):
 ∃g' c' w',(Builtin.append_ #[28,28] 28 (fP a bs.length c (zp W) 1 1)).run Tryz.prog (W.alloc (.cells (zk x) 5))= .ok (.slice (zp g') (bs.length+1) c') w'/\
  w'.cell? (za B 0)=some (.slice a bs.length c)/\w'.frozen? ⟨B,0,none⟩=false/\mC (w'.setCell (za B 0) (.slice (zp g') (bs.length+1) c')) B n₀ (zp g') c' n0 (bs++[x])/\Below n₀ W (w'.setCell (za B 0) (.slice (zp g') (bs.length+1) c')):=by
 obtain⟨g',c',w',eh,jC,Is,ti,hH⟩:=pJ x (x:Int) rfl h.2 hk hn;have hw:=hH B _ _ _ h.1 de;obtain⟨d1,_,d3⟩:=tA hw;refine⟨g',c',w',eh,d1,d3,⟨by simpa using aaa hw,?_⟩,Is.setCell (p:=(za B 0)) hB _⟩;have:=jC.kept (grownBy_setCell' w' B (.slice (zp g') (bs.length+1) c')) (.inr (uC hw de jC).symm);simpa using this
theorem aab{a:az}(x:Nat)(hx:x<256)(h:mC W B n₀ a c n0 bs)(hk:bs.length<1048575)(h0:n0<=1048576)(hn:n₀<=W.heap.size)(hB:n₀<=B):
 Calls Tryz.prog 151 #[.pointer (zp B),.int .u8 (x:Int)] W λ e w'=>(∃v,e= .returned v)/\∃a' c',mC w' B n₀ a' c' n0 (ny n0 bs x)/\Below n₀ W w':=by
 obtain⟨e1,e2,e3⟩:=tA h.1;by_cases hm:(n0+bs.length)%64=0
 ·have hd:mC W.drew B n₀ a c n0 bs:=h;obtain⟨g1,c1,w1,eh,f1,f2,bY,Fi⟩:=sW 0 hd an hn hB;obtain⟨g2,c2,w2,Ck,k1,k2,fH,hB2⟩:=sW x bY dU (aj hn Fi.size) hB;have hpe:ny n0 bs x=bs++[0]++[x]:=by simp[ny,hm]
  have hl:(bs++[0]).length=bs.length+1:=by simp
  rw[hl]at Ck k1 fH hB2;have kA:(w1.setCell (za B 0) (.slice (zp g1) (bs.length+1) c1)).heap.size=w1.heap.size:=by simp[World.setCell]
  rw[kA]at Ck;have qw:=ag (show∃a' c',mC (w2.setCell (za B 0) (.slice (zp g2) (bs.length+1+1) c2)) B n₀ a' c' n0 (ny n0 bs x)/\Below n₀ W (w2.setCell (za B 0) (.slice (zp g2) (bs.length+1+1) c2))from⟨_,_,by rw[hpe];exact fH,((ah _ W).drew.T Fi).T hB2⟩);have ht:((((n0:Int)+(bs.length:Int)).tmod 64)==0)=true:=by
   have:((n0:Int)+(bs.length:Int)).tmod 64=0:=by rw[dm an];omega
   simpa using this
  have hwr:IntKind.i64.wrap ((n0:Int)+(bs.length:Int))=(n0:Int)+(bs.length:Int):=by rw[aI];omega
  have ag2:(Builtin.append_ #[28,28] 28 (fP a bs.length c (zp W) 1 1)).run Tryz.prog ((W.alloc (.cells #[.int .u8 0] 5)).drew)= .ok (.slice (zp g1) (bs.length+1) c1) w1:=eh;obtain⟨m1,_,m3⟩:=tA bY.1;rw[hl]at m1;clear h hd bY Fi hpe hm eh fH hB2 hl kA;go_enter Tryz.func151,Tryz.ntmps151
  go_wp2_with fail
  go_region_held3 (λ w'=>w'.cell? (za B 0)=some (.slice a bs.length c)/\w'.cell? (za B 1)=some (.int .i64 (n0:Int))) (exact⟨e1,e2⟩) (fail)
  go_wp2_with fail
  go_end0;exact⟨⟨_,rfl⟩,qw.O⟩
 ·have hd:mC W.drew B n₀ a c n0 bs:=h;obtain⟨g1,c1,w1,eh,f1,f2,bY,Fi⟩:=sW x hd an hn hB;have hpe:ny n0 bs x=bs++[x]:=by simp[ny,hm]
  have qw:=ag (show∃a' c',mC (w1.setCell (za B 0) (.slice (zp g1) (bs.length+1) c1)) B n₀ a' c' n0 (ny n0 bs x)/\Below n₀ W (w1.setCell (za B 0) (.slice (zp g1) (bs.length+1) c1))from⟨_,_,by rw[hpe];exact bY,(ah _ W).drew.T Fi⟩);have ht:((((n0:Int)+(bs.length:Int)).tmod 64)==0)=false:=by
   have:¬ ((n0:Int)+(bs.length:Int)).tmod 64=0:=by rw[dm an];omega
   simpa using this
  have hwr:IntKind.i64.wrap ((n0:Int)+(bs.length:Int))=(n0:Int)+(bs.length:Int):=by rw[aI];omega
  have ag2:(Builtin.append_ #[28,28] 28 (fP a bs.length c (zp W) 1 1)).run Tryz.prog ((W.alloc (.cells (zk x) 5)).drew)= .ok (.slice (zp g1) (bs.length+1) c1) w1:=eh;clear h hd bY Fi hpe hm eh;go_enter Tryz.func151,Tryz.ntmps151
  go_wp2_with fail
  go_region_held3 (λ w'=>w'.cell? (za B 0)=some (.slice a bs.length c)/\w'.cell? (za B 1)=some (.int .i64 (n0:Int))) (exact⟨e1,e2⟩) (fail)
  go_wp2_with fail
  go_end0;exact⟨⟨_,rfl⟩,qw.O⟩
def ed(n0:Nat)(xs:List Nat):List Nat:=xs.foldl (ny n0) []
def db(n0:Nat):Nat:=if n0%64=0 then n0+1 else n0
theorem VF(n0:Nat)(bs:List Nat)(x:Nat):(ny n0 bs x).length<=bs.length+2:=by unfold ny;split<;>simp
theorem Jb(n0:Nat)(xs:List Nat)(x:Nat):ed n0 (xs++[x])=ny n0 (ed n0 xs) x:=by simp[ed]
theorem Jc(n0:Nat):∀(xs bs:List Nat),(xs.foldl (ny n0) bs).length<=bs.length+2*xs.length
 |[],bs=>by simp
 |x::xs,bs=>by
  have:=Jc n0 xs (ny n0 bs x);have:=VF n0 bs x;simp only[cD,aK];omega
theorem Fj(n0:Nat)(xs:List Nat):(ed n0 xs).length<=2*xs.length:=by have:=Jc n0 xs [];simpa[ed]using this
theorem VG(n0:Nat)(x:Nat):n0+(ed n0 [x]).length=db n0+1:=by simp only[ed,cD,List.foldl_nil,ny,db,bK,bb];split<;>simp
theorem SH{b:az}{ps:List Piece}(h:aQ w b c ps)(hm:Marks (aw ps))(xs:List Nat)(a:az)(ca:Nat)(hb:ay w a xs)(h1:1<=xs.length)(h2:xs.length<=5000):
 Calls Tryz.prog 114 #[bN b ps.length c,.slice a xs.length ca] w λ e w'=>∃a' c',e= .returned (.tuple (acM a' (ed (aw ps).length xs).length c' (db (aw ps).length:Nat)))/\w'.ownsRow w 5 1 (.slice a' (ed (aw ps).length xs).length c') (ed (aw ps).length xs).length (bE (ed (aw ps).length xs))/\Below w w w':=by
 have jN:=h.small;have hL:= λ (w2:World) (hb:Below w w w2)=>VA (h.below hb);have hK:= λ (w2:World) (hb:Below w w w2)=>SG (h.below hb) hm;have HL:=ag hL;have HK:=ag hK;have Hb:=ag hb;unfold bN at*;clear hL hK h hm hb;generalize(aw ps).length=N at*;have H0:Hid (Below w w (w.alloc (.cells (fA b ps.length c) 31))):=ag bW;go_enter Tryz.func114,Tryz.ntmps114
 go_wp2_with first
  |(with_reducible refine(HL.O _ H0.O).mono ?_;rintro e w2 ⟨rfl,bG⟩;have H2:=ag (H0.O.T (bG.mono H0.O.size));obtain⟨c0,c1,c2,c3,c4⟩:=vP bG;have G7:=aZ w2 _ c0;clear bG)
  |(refine(HK.O _ ?_).mono ?_;(exact H2.O.T ((ah _ w2).alloc H2.O.size _));rintro e w3 ⟨rfl,cu⟩)
  |fail
 have gV:mC w3 w2 w none 0 N []:=by refine⟨(cu.block w2 cP).T (ai w2 _),by simp[bE],.inl ⟨rfl,rfl⟩⟩
 have H3:Hid (Below w w w3):=ag ((H2.O.T ((ah _ w2).alloc H2.O.size _)).T (cu.mono (by have:=H2.O.size;simp;omega)));have Hw3:=ag gV;have ri:=H2.O.size;clear gV cu c0 c1 c2 c3 c4
 go_loopw [8,33] (λ t i wr=>∃k:Nat,k<=xs.length/\i= .int .i64 (k:Int)/\t= .int .i64 ((if k=0 then 0 else db N:Nat):Int)/\∃a' c',Hid (mC wr w2 w a' c' N (ed N (xs.take k)))/\Hid (Below w w wr)) (λ _ i _=>xs.length - (intOf i).toNat)
 case atStart=>exact⟨0,aD _,rfl,rfl,none,0,ag (by simpa[ed]using Hw3.O),H3⟩
 case round=>
  obtain⟨k,hk,rfl,rfl,a',c',hw,hB⟩:=hrel;by_cases cL:k<xs.length
  ·obtain⟨x,hx⟩:∃x,xs[k]? =some x:=⟨xs[k],by simp[cL]⟩;have bG:=Hb.O.below hB.O;have Mc:=bG.1 x (ak hx);obtain⟨B,o,rfl,Ca⟩:∃B o,a=some ⟨B,o,none⟩/\wr.cell? (za B (o+k))=some (.int .u8 (x:Int)):=by
    rcases bG.2 with h|⟨B,o,h,hc⟩
    ·rw[h]at cL;simp at cL
    ·exact⟨B,o,h,hc k x hx⟩
   have VH:=Fj N (xs.take k);have AH:(xs.take k).length<=5000:=by rw[aX];omega
   have pH:=aab x Mc hw.O an an hB.O.size ri;have Y4:ny N (ed N (xs.take k)) x=ed N (xs.take (k+1)):=by rw[aL,hx];exact(Jb _ _ _).symm
   rw[Y4]at pH;have HP:=ag pH;have Hx:=ag hx;clear pH bG hx VH AH Y4;by_cases As:k=0
   ·subst As;have aiQ:wr.cell? ⟨B,o,none⟩=some (.int .u8 (x:Int)):=Ca;have aiR:(0:Int)<(xs.length:Int):=an;have eb:xs.take (0+1)=[x]:=by rw[aL,Hx.O];rfl
    rw[eb]at HP;have DQ:=VG N x;obtain⟨L,hL⟩:=bL ((ed N [x]).length);have gC:IntKind.i64.wrap ((N:Int)+(L:Int))=(N:Int)+(L:Int):=by rw[aI];rw[<-hL]at DQ;unfold db at DQ;split at DQ<;>omega
    have lH:(N:Int)+(L:Int) - 1=((db N:Nat):Int):=by rw[<-hL]at DQ;omega
    have mK:IntKind.i64.wrap ((db N:Nat):Int)=((db N:Nat):Int):=by rw[aI];unfold db;split<;>omega
    have uh:IntKind.i64.wrap ((N:Int)+(L:Int) - 1)=((db N:Nat):Int):=by rw[lH];exact mK
    have LC:=ag hL;have Rd:=ag eb;clear DQ hL lH mK Hx eb
    go_wp2_with first
     |(refine HP.O.mono ?_;rintro e w4 ⟨⟨v4,rfl⟩,a4,c4,kd,dX⟩;have DR:w4.cell? (za w2 0)=some (.slice a4 L c4):=(by rw[LC.O];exact(tA kd.1).1);have Hw4:=ag kd;clear kd)
     |fail
    exact⟨⟨1,an,rfl,rfl,a4,c4,ag (by rw[show xs.take 1=[x]from Rd.O];exact Hw4.O),ag (hB.O.T dX)⟩,by simp[intOf];omega⟩
   ·have Vy:((k:Int)==0)=false:=dU
    go_wp2_with first
     |(with_reducible refine HP.O.mono ?_;rintro e w4 ⟨⟨v4,rfl⟩,a4,c4,kd,dX⟩)
     |fail
    exact⟨⟨k+1,an,rfl,by simp[As],a4,c4,ag kd,ag (hB.O.T dX)⟩,by simp[intOf];omega⟩
  ·have YX:k=xs.length:=an;subst YX;rw[if_neg (by omega:¬ xs.length=0)];have hw':=hw.O;rw[bd]at hw';have Av:=(tA hw'.1).1;have Hw':=ag hw'.2;clear hw' hw
   go_wp2_with fail
   go_ret2;exact⟨_,_,rfl,Hw'.O,hB.O⟩
end
theorem Pp(b:az)(k c:Nat)(at_:Nat)(w:World):
 Calls Tryz.prog 174 #[bN b k c,.int .i64 (at_:Int)] w λ e w'=>e= .returned (.func (.func 206) #[] (oR (zp w) (zp (w+1))))/\w'=(w.alloc (.cells (fA b k c) 31)).alloc (.cells (Ih at_) 3):=by
 unfold bN;go_enter Tryz.func174,Tryz.ntmps174;go_wp2;go_ret;exact⟨rfl,rfl⟩
def rowOf(B:Nat)(W:World):Option Nat:=
 match W.heap[B]? with
 |some (.cells #[.slice (some a) _ _] _ _)=>some a.block
 |_=>none
theorem iO(h:W'.heap[B]? =W.heap[B]?):rowOf B W'=rowOf B W:=by unfold rowOf;rw[h]
theorem nh{a:Addr}(h:Boxed W B t (.slice (some a) n c)):rowOf B W=some a.block:=by unfold rowOf;rw[h];rfl
theorem yo(h:Boxed W B t (.slice none n c)):rowOf B W=none:=by unfold rowOf;rw[h];rfl
structure Lets(n₀:Nat)(X:Nat->Prop)(B:Nat)(W W':World):Prop where
 below:Below n₀ W W'
 eG:∀(k:Nat) (cs:Array Value) (t:TypeId) (fz:Nat×Nat),W.heap[k]? =some (.cells cs t fz)->¬ X k->k≠B->rowOf B W≠some k->W'.heap[k]? =some (.cells cs t fz)
 row:∀k,rowOf B W'=some k->rowOf B W=some k\/W.heap.size<=k
 lt:(∀k,rowOf B W=some k->k<W.heap.size)->∀k,rowOf B W'=some k->k<W'.heap.size
theorem Lets.refl(n₀:Nat)(X:Nat->Prop)(B:Nat)(W:World):Lets n₀ X B W W:=⟨gb, λ _ _ _ _ h _ _ _=>h, λ _ h=>.inl h, λ h=>h⟩
theorem Lets.size{n₀:Nat}{X:Nat->Prop}{B:Nat}{U V:World}(h:Lets n₀ X B U V):U.heap.size<=V.heap.size:=h.below.size
theorem Lets.T{n₀:Nat}{X:Nat->Prop}{B:Nat}{U V W:World}(h:Lets n₀ X B U V)(k:Lets n₀ X B V W):Lets n₀ X B U W where
 below:=h.below.T k.below
 eG:= λ j cs t fz hj hx hb hr=>by
  refine k.eG j cs t fz (h.eG j cs t fz hj hx hb hr) hx hb λ e=>?_;rcases h.row j e with e|e
  ·exact hr e
  ·have:=(cS hj).1;omega
 row:= λ j e=>by
  rcases k.row j e with e|e
  ·exact h.row j e
  ·exact .inr (aj h.size e)
 lt:= λ hl=>k.lt (h.lt hl)
theorem Lets.bH{X:Nat->Prop}(h:Below W W W')(hB:B<W.heap.size)(hn:n₀<=W.heap.size):Lets n₀ X B W W':=by have e:=iO (h.block B hB);refine⟨h.mono hn, λ k cs t fz hk _ _ _=>(h.block k (cS hk).1).T hk, λ k hk=>.inl (e▸hk), λ hl k hk=>aA (hl k (e▸hk)) h.size⟩
theorem Lets.putObj{n₀:Nat}{X:Nat->Prop}{B:Nat}(W:World)(l:Nat)(o o':Obj)(h:W.heap[l]? =some o)(ho:o.isCells=false)(hB:B≠l)(hn:n₀<=l):Lets n₀ X B W (W.putObj l o'):=by have e:rowOf B (W.putObj l o')=rowOf B W:=iO (aV (λ e=>hB e));refine⟨(ah n₀ W).grown (grownBy_putObj' W l o') ui (λ k e=>by cases e;omega), λ k cs t fz hk _ _ _=>(aV λ e=>?_).T hk, λ k hk=>.inl (e▸hk), λ hl k hk=>by simpa using hl k (e▸hk)⟩;subst e;rw[hk]at h;cases h;cases ho
theorem Lets.setCell{n₀:Nat}{X:Nat->Prop}{B:Nat}(W:World)(a:Addr)(v:Value)(hx:X a.block)(hB:B≠a.block)(hn:n₀<=a.block):Lets n₀ X B W (W.setCell a v):=by have e:rowOf B (W.setCell a v)=rowOf B W:=iO (aq W a v B hB);refine⟨(ah n₀ W).setCell hn v, λ k cs t fz hk h _ _=>(aq W a v k λ e=>?_).T hk, λ k hk=>.inl (e▸hk), λ hl k hk=>by simpa[World.setCell]using hl k (e▸hk)⟩;subst e;exact h hx
def Safe(X:Nat->Prop)(B:Nat)(W:World)(k:Nat):Prop:=¬ X k/\k≠B/\rowOf B W≠some k
theorem Lets.safe{X:Nat->Prop}(h:Lets n₀ X B W W')(hs:Safe X B W k)(hk:k<W.heap.size):Safe X B W' k:=
 ⟨hs.1,hs.2.1, λ e=>(h.row k e).elim hs.2.2 (λ h=>an)⟩
theorem Lets.Mr{X:Nat->Prop}(h:Lets n₀ X B W W'){p:Addr}(hs:Safe X B W p.block)(hc:W.cell? p=some v):W'.cell? p=some v:=by obtain⟨o,ho,hoc⟩:=cells_of_cell hc;cases o<;>simp[Obj.isCells]at hoc;exact(bq (w:=W) ((h.eG _ _ _ _ ho hs.1 hs.2.1 hs.2.2).T ho.symm)).T hc
theorem Lets.mo{X:Nat->Prop}(h:Lets n₀ X B W W'){fz:Nat×Nat}(hs:Safe X B W k)(hc:W.heap[k]? =some (.cells cs t fz)):W'.heap[k]? =some (.cells cs t fz):=h.eG _ _ _ _ hc hs.1 hs.2.1 hs.2.2
theorem Ms{X:Nat->Prop}(h:Below W W W')(hX:¬ X k)(hB:B<W.heap.size)(hr:∀k,rowOf B W=some k->k<W.heap.size)(hk:W.heap.size<=k):Safe X B W' k:=
 ⟨hX,an, λ e=>by rw[iO (h.block B hB)]at e;have:=hr k e;omega⟩
theorem ay.safe{X:Nat->Prop}(h:Lets n₀ X B W W'){a:az}(hb:ay W a xs)(hs:∀p,a=some p->Safe X B W p.block):ay W' a xs:=by
 refine⟨hb.1,?_⟩;rcases hb.2 with h0|⟨C,o,ha,hc⟩
 ·exact .inl h0
 ·exact .inr ⟨C,o,ha, λ j x hx=>h.Mr (p:=(za C (o+j))) (by have:=hs ⟨C,o,none⟩ ha;exact this) (hc j x hx)⟩
structure iB(D:Nat)(ig:Nat->Prop)(A B:World):Prop where
 size:A.heap.size<=B.heap.size
 os:B.os=A.os
 tape:B.tape=A.tape
 output:B.output=A.output
 eG:∀(k:Nat) (o:Obj),A.heap[k]? =some o->k<D\/o.isCells=true->¬ ig k->B.heap[k]? =some o
theorem iB.refl(D:Nat)(M:Nat->Prop)(A:World):iB D M A A:=⟨cH,rfl,rfl,rfl, λ _ _ h _ _=>h⟩
theorem iB.T{D:Nat}{M:Nat->Prop}{A B C:World}(h:iB D M A B)(k:iB D M B C):iB D M A C:=
 ⟨aj h.size k.size,k.os.T h.os,k.tape.T h.tape,k.output.T h.output, λ i o hi hd hm=>k.eG i o (h.eG i o hi hd hm) hd hm⟩
theorem iB.bH{M:Nat->Prop}{B:World}(h:Below A A B):iB D M A B:=
 ⟨h.size,h.os,h.tape,h.output, λ k o hk _ _=>(h.block k (cS hk).1).T hk⟩
theorem iB.alloc{D:Nat}{M:Nat->Prop}(A:World)(o:Obj):iB D M A (A.alloc o):=iB.bH ((ah _ A).alloc (cH) o)
theorem iB.putObj{D:Nat}{M:Nat->Prop}(A:World)(l:Nat)(o o':Obj)(hl:D<=l)(h:A.heap[l]? =some o)(ho:o.isCells=false):iB D M A (A.putObj l o'):=
 ⟨by simp,rfl,rfl,rfl, λ k u hk hd _=>(aV (λ e=>by subst e;rw[h]at hk;cases hk;exact hd.elim (λ h=>an) (λ h=>by rw[ho]at h;cases h))).T hk⟩
theorem iB.setCell{D:Nat}{M:Nat->Prop}(A:World)(a:Addr)(v:Value)(hm:M a.block):iB D M A (A.setCell a v):=
 ⟨by simp[World.setCell],rfl,rfl,rfl, λ k o hk _ h=>(aq A a v k (λ e=>h (e▸hm))).T hk⟩
theorem iB.cell{M:Nat->Prop}{B:World}(h:iB D M A B){p:Addr}(hc:A.cell? p=some v)(hm:¬ M p.block):B.cell? p=some v:=by obtain⟨o,ho,hoc⟩:=cells_of_cell hc;exact(bq (w:=A) ((h.eG _ _ ho (.inr hoc) hm).T ho.symm)).T hc
theorem iB.drew{D:Nat}{M:Nat->Prop}(A:World):iB D M A A.drew:=⟨cH,rfl,rfl,rfl, λ _ _ h _ _=>h⟩
def SI{α:Type}(P:Program)(gf:Nat)(lb:Array Value)(tB:α->Array Value)(Kp:World->World->Prop)(ig:Nat->Prop)(E:World->Prop)(xs:List α)(w:World):Prop:=
 ∀(n l:Nat) (J Jx:List α->World->Prop) (W:World),3<=n->Below w w W->
  (∀s A B,J s A->iB W ig A B->J s B)->
  (∀s A B,Jx s A->iB W ig A B->Jx s B)->
  (∀pre x W1,J pre W1->pre++[x]<+:xs->YieldAt Fence.wide (n - 1) P l (tB x) W1 λ e W'=>
    (e= .returned (.bool true)/\J (pre++[x]) W'/\Kp W1 W')\/(e= .returned (.bool false)/\Jx (pre++[x]) W'/\Kp W1 W'))->
  J [] W->
  CallsIn Fence.wide n P gf (#[.func (.yield l) #[] #[]]++lb) W λ e W'=>(∃v,e= .returned v)/\(J xs W'\/∃pre,pre<+:xs/\Jx pre W')/\E W'
def Mt{α:Type}(P:Program)(gf:Nat)(lb:Array Value)(tB:α->Array Value)(Kp:World->World->Prop)(ig:Nat->Prop)(E:World->Prop)(G8:List α->Prop)(At:α->World->Prop)(Full:List α->Prop)(w:World):Prop:=
 ∀(n l:Nat) (J Jx:List α->World->Prop) (W:World),3<=n->Below w w W->
  (∀s A B,J s A->iB W ig A B->J s B)->
  (∀s A B,Jx s A->iB W ig A B->Jx s B)->
  (∀pre x W1,J pre W1->G8 (pre++[x])->At x W1->YieldAt Fence.wide (n - 1) P l (tB x) W1 λ e W'=>
    (e= .returned (.bool true)/\J (pre++[x]) W'/\Kp W1 W')\/(e= .returned (.bool false)/\Jx (pre++[x]) W'/\Kp W1 W'))->
  J [] W->
  CallsIn Fence.wide n P gf (#[.func (.yield l) #[] #[]]++lb) W λ e W'=>(∃v,e= .returned v)/\((∃s,Full s/\J s W')\/∃pre,G8 pre/\Jx pre W')/\E W'
theorem SI.g{α:Type}{tB:α->Array Value}{Kp:World->World->Prop}{ig:Nat->Prop}{xs:List α}(h:SI P gf lb tB Kp ig E xs w):Mt P gf lb tB Kp ig E (·<+:xs) (λ _ _=>True) (·=xs) w:=
 λ n l J Jx W hn hb hJ hJx hY h0=>(h n l J Jx W hn hb hJ hJx (λ pre x W1 h1 h2=>hY pre x W1 h1 h2 trivial) h0).mono λ _ _ h=>⟨h.1,h.2.1.imp (λ j=>⟨xs,rfl,j⟩) id,h.2.2⟩
def Fl{α:Type}(B:Nat)(Kp:World->World->Prop)(I:List α->World->Prop)(Ix:Code->List α->World->Prop)(xs:List α)(W:World):Exit->Act->World->Prop
 | .normal,_,W'=>KeepsFrom B W W'/\Kp W W'/\I xs W'
 | .ret,_,W'=>KeepsFrom B W W'/\Kp W W'/\Ix .ret xs W'
 | .exit id,_,W'=>KeepsFrom B W W'/\Kp W W'/\Ix (.exit id) xs W'
 | .goto t,_,W'=>KeepsFrom B W W'/\Kp W W'/\Ix (.goto t) xs W'
 | .panic _,_,_=>False
 | .outgrown,_,_=>False
theorem VK{α:Type}{g:Operand}{ps:Array Tmp}
 (h1:5<=n)(hg:a.eval g= .func (.func gf) #[] lb)(eg:∀args w,(callFunc gf args).run P w= .ok (.enter gf args) w)
 {tB:α->Array Value}{Kp:World->World->Prop}{ig:Nat->Prop}{G8:List α->Prop}{At:α->World->Prop}{Full:List α->Prop}(sS:Mt P gf lb tB Kp ig E G8 At Full w0)(Y6:∀x A B,At x A->iB w ig A B->At x B)
 (Au:∀{A B C:World},Kp A B->Kp B C->Kp A C)(Fb:∀(W:World) (l:Nat) (o o':Obj),w.heap.size<=l->W.heap[l]? =some o->o.isCells=false->Kp W (W.putObj l o'))(nt:Below w0 w0 w)(G9:∀x,(tB x).size=ps.size)
 (tD:∀k,ig k->k<w.heap.size)
 (I:List α->World->Prop)(Ix:Code->List α->World->Prop)(hI:∀s A B,I s A->iB w ig A B->I s B)(hIx:∀c s A B,Ix c s A->iB w ig A B->Ix c s B)(hE:∀(W:World) (l:Nat) (o o':Obj),w.heap.size<=l->W.heap[l]? =some o->o.isCells=false->E W->E (W.putObj l o'))(h0:I [] w)(Km:α->Act)
 (kX:∀(l:Nat) (x:α) (W:World) (K:Act->World->Prop),K (Km x) W->
   assign.wpIn (Fence.wide.inRound l) (n - 1 - 1) P (Exit.then K (λ _ _ _=>False)) {tmps:=(ps.zip (tB x)).foldl (λ t (p,v)=>t.setIfInBounds p v) a.tmps,defers:=[]} W)
 (qY:∀(l:Nat) (pre:List α) (x:α) (W:World),I pre W->G8 (pre++[x])->At x W->body.wpIn (Fence.wide.inRound l) (n - 1 - 1) P (Fl w Kp I Ix (pre++[x]) W) (Km x) W)
 (qZ:∀(D:Nat) (s:List α) (W:World),w.heap.size<=D->Full s->I s W->E W->W.heap[D]? =some (.deferred (some []))->Q .normal {a with defers:={target:=.collected D,args:=#[]}::a.defers} W)
 (q9:∀(D:Nat) (c:Code) (pre:List α) (W:World),w.heap.size<=D->G8 pre->Ix c pre W->E W->W.heap[D]? =some (.deferred (some []))->c.wpIn Fence.wide n P Q {a with defers:={target:=.collected D,args:=#[]}::a.defers} W):
 (Code.rangeFunc g ps assign body).wpIn Fence.wide n P Q a w:=by
 refine wpIn_rangeFunc ?_;intro fn hfn;rw[show Fence.wide.round=none from rfl];obtain⟨rec,sQ⟩:∃rec:LoopState->Option Code->Loop,rec= λ st pe=>{state:=st,pending:=pe,fn,tmps:=a.tmps,params:=ps,assign,body,defers:=w.heap.size}:=⟨_,rfl⟩;obtain⟨W1,vK⟩:∃W1,(w.alloc (.deferred (some []))).alloc (.loop (rec .ready none))=W1:=⟨_,rfl⟩;have rY:W1.heap[w.heap.size+1]? =some (.loop (rec .ready none)):=by rw[<-vK];have:=ai (w.alloc (.deferred (some []))) (.loop (rec .ready none));rwa [bt]at this
 have hK1:W1.heap[w.heap.size]? =some (.deferred (some [])):=by rw[<-vK];exact(aT _ _ _ cP).T (ai w _)
 have gC:W1.heap.size=w.heap.size+1+1:=by rw[<-vK];simp
 have hI1:I [] W1:=by rw[<-vK];exact hI _ _ _ (hI _ _ _ h0 (iB.alloc _ _)) (iB.alloc _ _)
 have cN:Below w0 w0 W1:=by rw[<-vK];exact nt.T ((((ah _ w).alloc (cH) _).alloc cP _).mono nt.size)
 refine⟨w.heap.size+1,[{target:=.collected w.heap.size,args:=#[]}],W1,{target:=.fn (.func gf) lb,args:=#[.func (.yield (w+1)) #[] #[]]},W1,gf,
  #[.func (.yield (w+1)) #[] #[]]++lb,W1,?_,?_,?_,?_, λ _=>an,?_⟩
 ·rw[<-vK,sQ];exact run_enterLoop_outer _ _ _ _ _
 ·simp only[resolve,hg];simp[go_sem]
 ·intro f' hf';trivial
 ·simp[invoke,go_sem,eg]
 ·have OZ:∀{A B:World},iB W1 ig A B->iB w ig A B:= λ h=>⟨h.size,h.os,h.tape,h.output, λ k o hk hd hm=>h.eG k o hk (hd.elim (λ h=>.inl an) .inr) hm⟩;have Kn:∀{A B:World} {k:Nat} {o:Obj},iB W1 ig A B->A.heap[k]? =some o->w.heap.size<=k->k<W1.heap.size->B.heap[k]? =some o:= λ h hk h1 h2=>h.eG _ _ hk (.inl h2) (λ m=>cm (tD _ m));refine(sS (n - 1) (w+1)
   (λ pre W=>I pre W/\W.heap[w.heap.size+1]? =some (.loop (rec .ready none))/\W.heap[w.heap.size]? =some (.deferred (some [])))
   (λ pre W=>∃c,Ix c pre W/\W.heap[w.heap.size+1]? =some (.loop (rec .done (some c)))/\W.heap[w.heap.size]? =some (.deferred (some [])))
   W1 an cN
   (λ s A B hs hk=>⟨hI s A B hs.1 (OZ hk),Kn hk hs.2.1 an an,Kn hk hs.2.2 an an⟩)
   (λ s A B hs hk=>by obtain⟨c,hc,hl,u9⟩:=hs;exact⟨c,hIx c s A B hc (OZ hk),Kn hk hl an an,Kn hk u9 an an⟩)
   ?_ ⟨hI1,rY,hK1⟩).mono ?_
  ·rintro pre x W ⟨hi,hl,hk⟩ mD mU;have cL:w.heap.size+1<W.heap.size:=(cS hl).1;have hy:=run_yield (P:=P) (args:=tB x) hl (by rw[sQ];exact G9 x);rw[sQ]at hy;refine⟨fn,_,assign,body,hy,roundIn_of_wpIn hfn (kX _ x W _ ⟨_,run_beginRound hl (by rw[sQ]),?_⟩)⟩;have ri:(W.putObj (w+1) (.loop {rec .ready none with state:=.busy})).heap[w.heap.size+1]? =some (.loop {rec .ready none with state:=.busy}):=gi cL;have u9:(W.putObj (w+1) (.loop {rec .ready none with state:=.busy})).heap[w.heap.size]? =some (.deferred (some [])):=(aV an).T hk;have fH:Kp W (W.putObj (w+1) (.loop {rec .ready none with state:=.busy})):=Fb _ _ _ _ an hl rfl;refine wpIn_mono (qY _ pre x _ (hI _ _ _ hi (iB.putObj _ _ _ _ an hl rfl)) mD (Y6 _ _ _ mU (iB.putObj _ _ _ _ an hl rfl))) ?_;have fin:∀(jump:Option Code) (W3:World),KeepsFrom w (W.putObj (w+1) (.loop {rec .ready none with state:=.busy})) W3->
    (Instr.endRound (w+1) jump).run P W3= .ok (.bool jump.isNone) (W3.putObj (w+1) (.loop (rec (if jump.isNone then .ready else .done) jump)))/\
    W3.heap[w.heap.size+1]? =some (.loop {rec .ready none with state:=.busy})/\
    (W3.putObj (w+1) (.loop (rec (if jump.isNone then .ready else .done) jump))).heap[w.heap.size+1]? =some (.loop (rec (if jump.isNone then .ready else .done) jump))/\
    (W3.putObj (w+1) (.loop (rec (if jump.isNone then .ready else .done) jump))).heap[w.heap.size]? =some (.deferred (some [])):= λ jump W3 oN=>by
    have pA:=oN.same _ _ an ri rfl;have:=run_endRound (P:=P) jump pA;rw[sQ]at this⊢;exact⟨this,by rw[sQ]at pA;exact pA,gi (cS pA).1,(aV an).T (oN.same _ _ (cH) u9 rfl)⟩
   rintro e a3 W3 hp;cases e with
   |normal=>
    obtain⟨oN,yK,Ja⟩:=hp;obtain⟨hr,pA,Fm,Pq⟩:=fin none W3 oN;exact⟨_,_,hr,.inl ⟨rfl,⟨hI _ _ _ Ja (iB.putObj _ _ _ _ an pA rfl),Fm,Pq⟩,Au (Au fH yK) (Fb _ _ _ _ an pA rfl)⟩⟩
   |ret=>
    obtain⟨oN,yK,Ja⟩:=hp;obtain⟨hr,pA,Fm,Pq⟩:=fin (some .ret) W3 oN;exact⟨_,_,hr,.inr ⟨rfl,⟨.ret,hIx _ _ _ _ Ja (iB.putObj _ _ _ _ an pA rfl),Fm,Pq⟩,Au (Au fH yK) (Fb _ _ _ _ an pA rfl)⟩⟩
   |exit id=>
    obtain⟨oN,yK,Ja⟩:=hp;obtain⟨hr,pA,Fm,Pq⟩:=fin (some (.exit id)) W3 oN;exact⟨_,_,hr,.inr ⟨rfl,⟨.exit id,hIx _ _ _ _ Ja (iB.putObj _ _ _ _ an pA rfl),Fm,Pq⟩,Au (Au fH yK) (Fb _ _ _ _ an pA rfl)⟩⟩
   |goto t=>
    obtain⟨oN,yK,Ja⟩:=hp;obtain⟨hr,pA,Fm,Pq⟩:=fin (some (.goto t)) W3 oN;exact⟨_,_,hr,.inr ⟨rfl,⟨.goto t,hIx _ _ _ _ Ja (iB.putObj _ _ _ _ an pA rfl),Fm,Pq⟩,Au (Au fH yK) (Fb _ _ _ _ an pA rfl)⟩⟩
   |panic ch=>exact hp.elim
   |outgrown=>exact hp.elim
  ·rintro e W2 ⟨⟨v,rfl⟩,(⟨s,hs,hi,hl,hk⟩|⟨pre,hSp,c,hi,hl,hk⟩),hE2⟩
   ·exact⟨none,_,by have:=run_endLoop (P:=P) hl uk;rw[sQ]at this;exact this,qZ _ s _ (cH) hs (hI _ _ _ hi (iB.putObj _ _ _ _ an hl rfl)) (hE _ _ _ _ an hl rfl hE2) ((aV an).T hk)⟩
   ·exact⟨some c,_,by have:=run_endLoop (P:=P) hl uk;rw[sQ]at this;exact this,q9 _ c pre _ (cH) hSp (hIx c _ _ _ hi (iB.putObj _ _ _ _ an hl rfl)) (hE _ _ _ _ an hl rfl hE2) ((aV an).T hk)⟩
theorem abK{α:Type}{g:Operand}{ps:Array Tmp}
 (h1:5<=n)(hg:a.eval g= .func (.func gf) #[] lb)(eg:∀args w,(callFunc gf args).run P w= .ok (.enter gf args) w)
 {tB:α->Array Value}{Kp:World->World->Prop}{ig:Nat->Prop}{xs:List α}(sS:SI P gf lb tB Kp ig E xs w0)
 (Au:∀{A B C:World},Kp A B->Kp B C->Kp A C)(Fb:∀(W:World) (l:Nat) (o o':Obj),w.heap.size<=l->W.heap[l]? =some o->o.isCells=false->Kp W (W.putObj l o'))(nt:Below w0 w0 w)(G9:∀x,(tB x).size=ps.size)
 (tD:∀k,ig k->k<w.heap.size)
 (I:List α->World->Prop)(Ix:Code->List α->World->Prop)(hI:∀s A B,I s A->iB w ig A B->I s B)(hIx:∀c s A B,Ix c s A->iB w ig A B->Ix c s B)(hE:∀(W:World) (l:Nat) (o o':Obj),w.heap.size<=l->W.heap[l]? =some o->o.isCells=false->E W->E (W.putObj l o'))(h0:I [] w)(Km:α->Act)
 (kX:∀(l:Nat) (x:α) (W:World) (K:Act->World->Prop),K (Km x) W->
   assign.wpIn (Fence.wide.inRound l) (n - 1 - 1) P (Exit.then K (λ _ _ _=>False)) {tmps:=(ps.zip (tB x)).foldl (λ t (p,v)=>t.setIfInBounds p v) a.tmps,defers:=[]} W)
 (qY:∀(l:Nat) (pre:List α) (x:α) (W:World),I pre W->pre++[x]<+:xs->body.wpIn (Fence.wide.inRound l) (n - 1 - 1) P (Fl w Kp I Ix (pre++[x]) W) (Km x) W)
 (qZ:∀(D:Nat) (W:World),w.heap.size<=D->I xs W->E W->W.heap[D]? =some (.deferred (some []))->Q .normal {a with defers:={target:=.collected D,args:=#[]}::a.defers} W)
 (q9:∀(D:Nat) (c:Code) (pre:List α) (W:World),w.heap.size<=D->pre<+:xs->Ix c pre W->E W->W.heap[D]? =some (.deferred (some []))->c.wpIn Fence.wide n P Q {a with defers:={target:=.collected D,args:=#[]}::a.defers} W):
 (Code.rangeFunc g ps assign body).wpIn Fence.wide n P Q a w:=
 VK h1 hg eg sS.g (λ _ _ _ h _=>h) Au Fb nt G9 tD I Ix hI hIx hE h0 Km kX (λ l pre x W h1 h2 _=>qY l pre x W h1 h2) (λ D s W h1 h2 h3=>qZ D W h1 (h2▸h3)) q9
abbrev VL(a:Act)(p1 p2 d1 d2:Tmp)(u v:Value):Act:={tmps:=(((a.tmps.setIfInBounds p1 u).setIfInBounds p2 v).setIfInBounds d1 u).setIfInBounds d2 v,defers:=[]}
theorem aac{α:Type}{g:Operand}{p1 p2:Tmp}(d1 d2:Tmp)
 (h1:5<=n)(hg:a.eval g= .func (.func gf) #[] lb)(eg:∀args w,(callFunc gf args).run P w= .ok (.enter gf args) w)
 {e1 e2:α->Value}{Kp:World->World->Prop}{ig:Nat->Prop}{xs:List α}(sS:SI P gf lb (λ x=>#[e1 x,e2 x]) Kp ig E xs w)
 (Au:∀{A B C:World},Kp A B->Kp B C->Kp A C)(Fb:∀(W:World) (l:Nat) (o o':Obj),w.heap.size<=l->W.heap[l]? =some o->o.isCells=false->Kp W (W.putObj l o'))
 (tD:∀k,ig k->k<w.heap.size)
 (I:List α->World->Prop)(Ix:Code->List α->World->Prop)(hI:∀s A B,I s A->iB w ig A B->I s B)(hIx:∀c s A B,Ix c s A->iB w ig A B->Ix c s B)(hE:∀(W:World) (l:Nat) (o o':Obj),w.heap.size<=l->W.heap[l]? =some o->o.isCells=false->E W->E (W.putObj l o'))(h0:I [] w)
 (kX:∀(l:Nat) (x:α) (W:World) (K:Act->World->Prop),K (VL a p1 p2 d1 d2 (e1 x) (e2 x)) W->
   assign.wpIn (Fence.wide.inRound l) (n - 1 - 1) P (Exit.then K (λ _ _ _=>False)) {tmps:=(a.tmps.setIfInBounds p1 (e1 x)).setIfInBounds p2 (e2 x),defers:=[]} W)
 (qY:∀(l:Nat) (pre:List α) (x:α) (W:World),I pre W->pre++[x]<+:xs->body.wpIn (Fence.wide.inRound l) (n - 1 - 1) P (Fl w Kp I Ix (pre++[x]) W) (VL a p1 p2 d1 d2 (e1 x) (e2 x)) W)
 (qZ:∀(D:Nat) (W:World),w.heap.size<=D->I xs W->E W->W.heap[D]? =some (.deferred (some []))->Q .normal {a with defers:={target:=.collected D,args:=#[]}::a.defers} W)
 (q9:∀(D:Nat) (c:Code) (pre:List α) (W:World),w.heap.size<=D->pre<+:xs->Ix c pre W->E W->W.heap[D]? =some (.deferred (some []))->c.wpIn Fence.wide n P Q {a with defers:={target:=.collected D,args:=#[]}::a.defers} W):
 (Code.rangeFunc g #[p1,p2] assign body).wpIn Fence.wide n P Q a w:=
 abK h1 hg eg sS Au Fb (gb) (λ _=>rfl) tD I Ix hI hIx hE h0 (λ x=>VL a p1 p2 d1 d2 (e1 x) (e2 x)) (λ l x W K hK=>by simpa using kX l x W K hK) qY qZ q9
end Go.Proofs.YtbiififbfefkjaaGreatDoor

/- The store, part 1. -/
import Derived.WalkKit
import Derived.IntWalk
import Derived.Lib.Hide
import Derived.RangeFuncFrom
import Derived.RangeFuncWrites
import Derived.Deep.MidRow
import Derived.Test.YtkgapncajjafoaaGreatDoorCards
import Derived.Test.YtkgapncajjafoaaGreatDoorTie
import Derived.ProofKit
import Derived.OpenShut
import Derived.Deep.DeepHandedRow
import Derived.Lib.LaidTab
import Derived.Test.YtkgapncajjafoaaGreatDoorChecked
import Derived.RangeFuncNested
import Derived.RangeFuncBound
import Derived.RangeFuncCalls
import Derived.RangeFuncLeaves
import Derived.Shelf.Abstract
import Derived.Shelf.RegionOpen
import Derived.OwnWalkIn
import Derived.TacticsInMore
import Derived.LoopNIn
import Derived.LoopIn
import Derived.LoopTactic
import Derived.Handy
import Derived.Sort.Walk7a
import Derived.RangeFuncBox
import Derived.OrdersHeld
import Derived.Deep.RegionHeld
import Derived.OrdersIn
import Derived.TacticsIn
import Derived.ControlIn
set_option maxRecDepth 100000
set_option maxHeartbeats 16000000
namespace Go.Proofs.YtkgapncajjafoaaGreatDoor
open Go.RowKit Go.Shelf
variable{p q b c d e f g h:Prop}{i B n k at_ n₀ size m fuel id j:Nat}{P:Program}{ops:Array Oper}{a:Act}{w W A W' w' w2:World}{Q:Exit -> Act -> World -> Prop}{o oi u:Oper}{args cs:Array Value}{v:Value}{t:TypeId}{xs:List Value}{listed:Array Bool}{dead:List Nat}
universe u
theorem aO(h:p:=by kernel_rfl):p:=h
theorem ag(h:p:=by omega):p:=h
theorem aR(h:p:=by simp):p:=h
theorem UB(h:p:=by assumption):p:=h
theorem af(h:p):Hid p:=Lib.hid h
theorem anI(h:p)(g:q):p/\q:=⟨h,g⟩
theorem aX{α:Type u}{xs:Array α}{a:α}(h:xs[i]? =some a):∃g:i<xs.size,xs[i]=a:=Array.getElem?_eq_some_iff.1 h
theorem bD:(∀{α:Type u} (l:List α) (i:Nat) (a:α),l.toArray.setIfInBounds i a=(l.set i a).toArray)/\(∀{α:Type u} (x:α) (l:List α) (a:α),(x::l).set 0 a=a::l)/\(∀{α:Type u} (x:α) (l:List α) (n:Nat) (a:α),(x::l).set (n+1) a=x::l.set n a):=⟨λ _ _ _=>List.setIfInBounds_toArray .., λ _ _ _=>rfl, λ _ _ _ _=>rfl⟩
theorem zEn:(∀{α:Type u} (l:List α),l.toArray.size=l.length)/\(∀{α:Type u} (a:α) (l:List α),(a::l).length=l.length+1)/\(∀{α:Type u},([]:List α).length=0)/\(∀{α:Type u} (n:Nat) (a:α),Array.replicate (n+1) a=(Array.replicate n a).push a)/\(∀{α:Type u} (a:α),Array.replicate 0 a=#[])/\(∀{α:Type u} (l:List α) (a:α),l.toArray.push a=(l++[a]).toArray)/\(∀{α:Type u} (l l':List α),l.toArray++l'.toArray=(l++l').toArray)/\(∀{α:Type u} (l:List α),[]++l=l)/\∀{α:Type u} (a:α) (l l':List α),a::l++l'=a::(l++l'):=⟨λ _=>by simp, λ _ _=>rfl,rfl, λ _ _=>Array.replicate_succ, λ _=>Array.replicate_zero, λ _ _=>by simp, λ _ _=>by simp, λ _=>rfl, λ _ _ _=>rfl⟩
theorem aD:(∀{α:Type u} (l:List α) (i:Nat),l.toArray[i]? =l[i]?)/\(∀{α:Type u} (x:α) (l:List α),(x::l)[0]? =some x)/\(∀{α:Type u} (x:α) (l:List α) (n:Nat),(x::l)[n+1]? =l[n]?):=⟨λ _ _=>List.getElem?_toArray .., λ _ _=>List.getElem?_cons_zero .., λ _ _ _=>List.getElem?_cons_succ ..⟩
theorem bh{rest:List Oper}{op:Oper}(ty:TypeId){x:Operand}{b o:Nat}{cs:List Value}(h:wpList P ops Q rest (a.put op.dst (.agg cs.toArray)) w)(MA:op.guard=none:=by exact rfl)(ho:op.op= .load ty x:=by exact rfl)(hx:a.eval x= .pointer (some ⟨b,o,none⟩):=by exact rfl)(hc:w.rangeAt b o cs:=by assumption)(hu:(P.underlying ty).any TypeDesc.isRow=true:=by kernel_rfl)(hi:(P.info? ty).map (·.size)=some cs.length:=by kernel_rfl):wpList P ops Q (op::rest) a w:=by
 cases hd:P.underlying ty with
 |none=>rw[hd]at hu;cases hu
 |some d=>rw[hd]at hu;exact wpList_load_mid MA ty x ho b o hx cs d hc hd hu hi h
theorem Yt:(∀{α:Type u} (l:List α) (i:Nat) (h:i<l.toArray.size),l.toArray[i]'h=l[i]'(by simpa using h))/\(∀{α:Type u} (x:α) (l:List α) (h:0<(x::l).length),(x::l)[0]'h=x)/\(∀{α:Type u} (x:α) (l:List α) (n:Nat) (h:n+1<(x::l).length),(x::l)[n+1]'h=l[n]'(Nat.lt_of_succ_lt_succ h)):=⟨λ _ _ _=>rfl, λ _ _ _=>rfl, λ _ _ _ _=>rfl⟩
theorem _root_.Eq.T{α:Sort u}{a b c:α}(h:a=b)(g:b=c):a=c:=h.trans g
theorem _root_.Go.RowKit.Below.T{a b c:World}(h:Below B a b)(k:Below B b c):Below B a c:=Below.trans h k
theorem _root_.Go.RowKit.Hid.O(h:Hid p):p:=h
theorem aM{a:Prop}(x:a)(h:a->p:=by intro _;omega):p:=h x
theorem cG{a:Prop}(x:a)(y:b)(h:a->b->p:=by intro _ _;omega):p:=h x y
theorem zI{a:Prop}(x:a)(y:b)(z:c)(h:a->b->c->p:=by intro _ _ _;omega):p:=h x y z
theorem Tm{a:Prop}(x:a)(y:b)(z:c)(t:d)(h:a->b->c->d->p:=by intro _ _ _ _;omega):p:=h x y z t
theorem IQ{a:Prop}(x:a)(y:b)(z:c)(t:d)(u:e)(h:a->b->c->d->e->p:=by intro _ _ _ _ _;omega):p:=h x y z t u
theorem XB{a:Prop}(x:a)(y:b)(z:c)(t:d)(u:e)(v:f)(h:a->b->c->d->e->f->p:=by intro _ _ _ _ _ _;omega):p:=h x y z t u v
theorem bd(h:p:=by decide):p:=h
theorem bV(h:p:=by simp;omega):p:=h
theorem jJ{o:Obj}(h:W=w.alloc o):W.heap[w.heap.size]? =some o:=by rw[h];exact World.alloc_heap_new _ _
theorem XC{o:Obj}(h:W=w.alloc o)(g:w.heap.size=n):W.heap[n]? =some o:=by rw[h,<-g];exact World.alloc_heap_new _ _
theorem aK{α:Sort u}(a:α):∃x,x=a:=⟨a,rfl⟩
theorem aW:n<=n:=Nat.le_refl n
theorem dp:Below B w w:=Below.refl B w
structure Mk(α:Type u)where
 x:α
instance{α:Type u}(x:α):CoeDep (Mk α) (Mk.mk x) α:=⟨x⟩
abbrev zp(b:Nat):=Mk.mk (some (Addr.mk b 0 none))
abbrev za(b o:Nat):=Mk.mk (Addr.mk b o none)
theorem _root_.Go.KeepsOthers.T{B C:World}(h:KeepsOthers A B)(k:KeepsOthers B C):KeepsOthers A C:=KeepsOthers.trans h k
theorem _root_.Go.KeepsFrom.T{X Y Z:World}(h:KeepsFrom B X Y)(k:KeepsFrom B Y Z):KeepsFrom B X Z:=KeepsFrom.trans h k
theorem _root_.List.IsPrefix.T{α:Type u}{a b c:List α}(h:a<+:b)(k:b<+:c):a<+:c:=h.trans k
inductive Vz|mk (l:List Value)
instance(l:List Value):CoeDep Vz (Vz.mk l) (List Value):=⟨l⟩
instance(l:List Value):CoeDep Vz (Vz.mk l) (Array Value):=⟨l.toArray⟩
abbrev cK(p0:Option Addr)(p1 p2:Nat):=Vz.mk [.slice none 0 0,.slice p0 p1 p2,.int .i64 (-1),.int .i64 (-1),.bool false]
abbrev dW(p0:Option Addr):=Vz.mk [.pointer p0]
abbrev Gi(p0:Value):=Vz.mk [p0]
abbrev XD(p0:Option Addr)(p1 p2:Nat)(p3:Option Addr)(p4 p5:Nat)(p6 p7:Int)(p8:Bool):=Vz.mk [.slice p0 p1 p2,.slice p3 p4 p5,.int .i64 p6,.int .i64 p7,.bool p8]
abbrev BH(p0:Option Addr)(p1 p2:Nat):=Vz.mk [.slice p0 p1 p2,.int .i64 0]
abbrev Au(p0:Nat):=Vz.mk [.int .i64 (p0:Int)]
abbrev jE(p0:Option Addr)(p1 p2:Nat):=Vz.mk [.slice p0 p1 p2]
abbrev jF(p0:Option Addr)(p1 p2:Nat)(p3:Option Addr)(p4 p5:Nat):=Vz.mk [.slice p0 p1 p2,.slice p3 p4 p5]
abbrev J3(p0:Nat):=Vz.mk [.int .u8 (p0:Int)]
abbrev zq9(p0:Option Addr)(p1 p2:Nat)(p3:Int):=Vz.mk [.slice p0 p1 p2,.int .i64 p3]
abbrev iS(p0 p1:Option Addr):=Vz.mk [.pointer p0,.pointer p1]
abbrev oS:=Vz.mk [.slice none 0 0]
abbrev mc:=Vz.mk [.int .i64 0]
abbrev eY:=Vz.mk [.slice none 0 0,.slice none 0 0,.int .i64 0,.int .i64 0,.bool false]
abbrev QT(p0 p1 p2 p3:Value):=Vz.mk [p0,p1,p2,p3]
abbrev np(p0:Value):=Vz.mk [p0,.int .i64 0]
abbrev UC(p0:Int):=Vz.mk [.int .i64 p0,.int .i64 0,.int .i64 0,.int .u64 0,.int .i64 0,.int .i64 0]
abbrev qT(p0:Nat):=Vz.mk [.int .i64 (p0:Int),.int .i64 0,.int .i64 0,.int .u64 0,.int .i64 0,.int .i64 0]
abbrev gv(p0:Option Addr)(p1 p2 p3 p4:Nat):=Vz.mk [.slice p0 p1 p2,.int .i64 (p3:Int),.int .i64 (p4:Int),.int .i64 0,.int .i64 0,.int .u64 0,.int .i64 0,.int .i64 0]
abbrev dv(p0:Option Addr)(p1 p2:Nat)(p3:Option Addr)(p4 p5:Nat):=Vz.mk [.slice p0 p1 p2,.slice p3 p4 p5,.bool false,.int .i64 0]
abbrev qU(p0:Option Addr)(p1 p2:Nat)(p3:Option Addr)(p4 p5:Nat):=Vz.mk [.bool false,.slice p0 p1 p2,.slice p3 p4 p5]
abbrev UD(p0:Option Addr)(p1 p2:Nat)(p3:Option Addr)(p4 p5:Nat):=Vz.mk [.slice p0 p1 p2,.int .i64 1,.slice p3 p4 p5]
abbrev nq:=Vz.mk [.int .u64 0]
abbrev Yu:=Vz.mk [.int .u64 0,.int .u64 0,.int .u64 0,.int .u64 0]
abbrev BI:=Vz.mk [.int .i64 0,.int .i64 0,.int .i64 0,.int .u64 0,.int .i64 0,.int .i64 0]
abbrev Yv:=Vz.mk [.int .i64 1,.int .i64 0,.int .i64 0,.int .u64 0,.int .i64 0,.int .i64 0]
abbrev Yw(p0:Nat)(p1 p2:Option Addr):=Vz.mk [.int .i64 (p0:Int),.pointer p1,.pointer p2]
abbrev xa(p0 p1 p2:Option Addr):=Vz.mk [.pointer p0,.pointer p1,.pointer p2]
abbrev iT:=Vz.mk [.slice none 0 0,.slice none 0 0,.bool false,.int .i64 0]
abbrev lD(p0:Value):=Vz.mk [p0,.bool true]
abbrev BJ:=Vz.mk [.slice none 0 0,.int .i64 0,.int .i64 0,.int .i64 0,.int .i64 0,.int .u64 0,.int .i64 0,.int .i64 0]
abbrev QU(p0:Nat)(p1:Value):=Vz.mk [.int .i64 (p0:Int),p1]
abbrev eD:=Vz.mk [.bool false,.slice none 0 0,.slice none 0 0]
abbrev J4:=Vz.mk [.bool true,.slice none 0 0,.slice none 0 0]
abbrev nr(p0:Option Addr)(p1 p2:Nat):=Vz.mk [.bool true,.slice p0 p1 p2,.slice none 0 0]
abbrev mB(p0:Option Addr)(p1 p2:Nat):=Vz.mk [.bool false,.slice none 0 0,.slice p0 p1 p2]
abbrev MB(p0:Option Addr)(p1 p2:Nat)(p3:Bool)(p4:Option Addr)(p5 p6:Nat):=Vz.mk [.slice p0 p1 p2,.bool p3,.slice p4 p5 p6]
abbrev QV(p0:Option Addr)(p1:Value)(p2:Nat):=Vz.mk [.pointer p0,p1,.int .i64 (p2:Int)]
abbrev tN(p0:Bool)(p1:Option Addr)(p2 p3:Nat)(p4:Option Addr)(p5 p6:Nat):=Vz.mk [.bool p0,.slice p1 p2 p3,.slice p4 p5 p6]
abbrev ju(p0 p1 p2:Nat):=Vz.mk [.int .i64 (p0:Int),.int .i64 (p1:Int),.int .i64 (p2:Int),.int .i64 0,.int .i64 0,.int .u64 0,.int .i64 0,.int .i64 0]
abbrev sd:=Vz.mk [.int .i64 0,.int .i64 0,.int .i64 0,.int .i64 0,.int .i64 0,.int .u64 0,.int .i64 0,.int .i64 0]
abbrev Gj(p0:Value):=Vz.mk [p0,.bool false]
abbrev UE(p0:Option Addr)(p1 p2:Nat):=Vz.mk [.slice none 0 0,.slice p0 p1 p2,.int .i64 (-1),.int .i64 (-1),.bool false,.int .i64 0]
abbrev fI(p0:Option Addr)(p1 p2 p3 p4 p5:Nat):=Vz.mk [.slice p0 p1 p2,.int .i64 (p3:Int),.int .i64 (p4:Int),.int .i64 0,.int .i64 0,.int .u64 0,.int .i64 0,.int .i64 0,.int .i64 (p5:Int)]
abbrev tQ(p0:Option Addr)(p1:Value):=Vz.mk [.pointer p0,p1]
abbrev MC:=Vz.mk [.slice none 0 0,.int .i64 0,.int .i64 0,.int .i64 0,.int .i64 0,.int .u64 0,.int .i64 0,.int .i64 0,.int .i64 0]
abbrev oB(p0:Option Addr)(p1 p2:Nat)(p3:Bool)(p4:Option Addr)(p5 p6:Nat):=Vz.mk [.slice p0 p1 p2,.bool p3,.slice p4 p5 p6,.bool false,.int .i64 0]
abbrev oT(p0:Option Addr)(p1 p2 p3 p4 p5:Nat):=Vz.mk [.bool true,.slice p0 p1 p2,.int .i64 (p3:Int),.int .i64 (p4:Int),.int .i64 0,.int .i64 0,.int .u64 0,.int .i64 0,.int .i64 0,.int .i64 (p5:Int),.slice none 0 0]
abbrev j6(p0:Option Addr)(p1 p2:Nat):=Vz.mk [.bool false,.slice none 0 0,.int .i64 0,.int .i64 0,.int .i64 0,.int .i64 0,.int .u64 0,.int .i64 0,.int .i64 0,.int .i64 0,.slice p0 p1 p2]
abbrev fe:=Vz.mk [.bool false,.slice none 0 0,.int .i64 0,.int .i64 0,.int .i64 0,.int .i64 0,.int .u64 0,.int .i64 0,.int .i64 0,.int .i64 0,.slice none 0 0]
abbrev BK(p0:Option Addr)(p1:ByteArray):=Vz.mk [.pointer p0,.string p1]
abbrev UF:=Vz.mk [.pointer none,.slice none 0 0]
abbrev qV(p0:Int):=Vz.mk [.int .i64 p0]
abbrev BL(p0:Int):=Vz.mk [.int .i64 3,.int .i64 p0,.string ⟨#[]⟩,.slice none 0 0,.slice none 0 0]
abbrev UG(p0:Option Addr):=Vz.mk [.pointer p0,.slice none 0 0]
abbrev UH(p0:Option Addr)(p1:Nat):=Vz.mk [.pointer p0,.int .i64 (p1:Int)]
abbrev UI(p0:Option Addr)(p1 p2:Nat)(p3:Option Addr):=Vz.mk [.slice p0 p1 p2,.pointer p3]
abbrev UJ(p0:Nat):=Vz.mk [.int .i64 (p0:Int),.int .i64 0]
abbrev UK(p0:Value):=Vz.mk [p0,.int .i64 0,.int .i64 0]
abbrev MD:=Vz.mk [.int .i64 0,.int .i64 0,.string ⟨#[]⟩,.slice none 0 0,.slice none 0 0]
abbrev zJ(p0:Option Addr)(p1 p2 p3 p4 p5 p6 p7 p8 p9:Nat):=Vz.mk [.slice none 0 0,.slice p0 p1 p2,.int .i64 (-1),.int .i64 (-1),.bool false,.int .i64 (p3:Int),.int .i64 (p4:Int),.int .i64 (p5:Int),.int .i64 0,.int .i64 0,.int .u64 0,.int .i64 0,.int .i64 0,.int .i64 (p6:Int),.int .i64 (p7:Int),.int .i64 (p8:Int),.int .i64 0,.int .i64 0,.int .u64 0,.int .i64 0,.int .i64 0,.int .u64 (p9:Int)]
abbrev qW(p0 p1 p2:Nat)(p3:Bool)(p4:Nat):=Vz.mk [.int .u32 (p0:Int),.int .u32 (p1:Int),.int .u64 (p2:Int),.bool p3,.int .i64 (p4:Int)]
abbrev UL(p0 p1 p2 p3:Nat):=Vz.mk [.int .u8 (p0:Int),.int .u8 (p1:Int),.int .u8 (p2:Int),.int .u8 (p3:Int)]
abbrev oU:=Vz.mk [.int .u32 0,.int .u32 0,.int .u64 0,.bool false,.int .i64 0]
abbrev vR(p0:ByteArray)(p1 p2 p3:Nat)(p4:Bool)(p5:Nat)(p6 p7:Int):=Vz.mk [.string p0,.int .u32 (p1:Int),.int .u32 (p2:Int),.int .u64 (p3:Int),.bool p4,.int .i64 (p5:Int),.int .i64 p6,.int .i64 p7,.string ⟨#[]⟩,.slice none 0 0,.slice none 0 0]
abbrev kA:=Vz.mk [.string ⟨#[]⟩,.int .u32 0,.int .u32 0,.int .u64 0,.bool false,.int .i64 0,.int .i64 0,.int .i64 0,.string ⟨#[]⟩,.slice none 0 0,.slice none 0 0]
abbrev UM(p0:ByteArray):=Vz.mk [.string p0,.int .u32 0,.int .u32 0,.int .u64 0,.bool false,.int .i64 0,.int .i64 0,.int .i64 0,.string ⟨#[]⟩,.slice none 0 0,.slice none 0 0]
abbrev UN(p0:ByteArray)(p1 p2 p3 p4:Nat):=Vz.mk [.string p0,.int .u32 (p1:Int),.int .u32 (p2:Int),.int .u64 (p3:Int),.bool true,.int .i64 (p4:Int),.int .i64 0,.int .i64 0,.string ⟨#[]⟩,.slice none 0 0,.slice none 0 0]
abbrev UO(p0 p1 p2 p3:Nat):=Vz.mk [.int .u32 (p0:Int),.int .u32 (p1:Int),.int .u64 (p2:Int),.bool true,.int .i64 (p3:Int)]
abbrev UP(p0:ByteArray)(p1 p2 p3 p4:Nat)(p5:Int):=Vz.mk [.string p0,.int .u32 (p1:Int),.int .u32 (p2:Int),.int .u64 (p3:Int),.bool false,.int .i64 (p4:Int),.int .i64 3,.int .i64 p5,.string ⟨#[]⟩,.slice none 0 0,.slice none 0 0]
abbrev UQ(p0 p1 p2 p3:Nat):=Vz.mk [.int .u32 (p0:Int),.int .u32 (p1:Int),.int .u64 (p2:Int),.bool false,.int .i64 (p3:Int)]
abbrev Yx(p0:Value)(p1:Int):=Vz.mk [p0,.int .i64 p1]
abbrev vS(p0:Nat):=Vz.mk [.int .u64 (p0:Int)]
abbrev cw(p0 p1 p2 p3 p4 p5 p6:Nat):=Vz.mk [.int .i64 (p0:Int),.int .i64 (p1:Int),.int .i64 (p2:Int),.int .i64 0,.int .i64 0,.int .u64 0,.int .i64 0,.int .i64 0,.int .i64 (p3:Int),.int .i64 (p4:Int),.int .i64 (p5:Int),.int .i64 0,.int .i64 0,.int .u64 0,.int .i64 0,.int .i64 0,.int .u64 (p6:Int)]
abbrev zK(p0:Option Addr)(p1 p2:ByteArray)(p3 p4 p5:Nat)(p6:Bool)(p7:Nat)(p8 p9:Int)(xb:Bool)(UR:ByteArray)(US Yy Yz:Nat)(YA:Bool)(YB YC YD YE YF YG YH:Nat)(p23:Bool):=Vz.mk [.pointer p0,.string p1,.string p2,.int .u32 (p3:Int),.int .u32 (p4:Int),.int .u64 (p5:Int),.bool p6,.int .i64 (p7:Int),.int .i64 p8,.int .i64 p9,.string ⟨#[]⟩,.slice none 0 0,.slice none 0 0,.bool xb,.string UR,.int .u32 (US:Int),.int .u32 (Yy:Int),.int .u64 (Yz:Int),.bool YA,.int .i64 (YB:Int),.int .i64 (YC:Int),.int .i64 (YD:Int),.int .i64 (YE:Int),.int .i64 0,.int .i64 0,.int .u64 0,.int .i64 0,.int .i64 0,.int .i64 (YF:Int),.int .i64 (YG:Int),.int .i64 (YH:Int),.int .i64 0,.int .i64 0,.int .u64 0,.int .i64 0,.int .i64 0,.bool p23]
abbrev ME(p0:Option Addr)(p1:ByteArray):=Vz.mk [.pointer p0,.string p1,.string ⟨#[]⟩,.int .u32 0,.int .u32 0,.int .u64 0,.bool false,.int .i64 0,.int .i64 0,.int .i64 0,.string ⟨#[]⟩,.slice none 0 0,.slice none 0 0,.bool false,.string ⟨#[]⟩,.int .u32 0,.int .u32 0,.int .u64 0,.bool false,.int .i64 0,.int .i64 0,.int .i64 0,.int .i64 0,.int .i64 0,.int .i64 0,.int .u64 0,.int .i64 0,.int .i64 0,.int .i64 0,.int .i64 0,.int .i64 0,.int .i64 0,.int .i64 0,.int .u64 0,.int .i64 0,.int .i64 0,.bool false]
abbrev YI(p0 p1:Value):=Vz.mk [p0,p1]
abbrev UT(p0:Option Addr)(p1 p2:Nat)(p3:Value):=Vz.mk [.slice p0 p1 p2,p3]
abbrev cP(p0 p1:Nat):=Vz.mk [.int .u32 (p0:Int),.int .u32 (p1:Int)]
abbrev ck:=Vz.mk [.int .u32 0,.int .u32 0]
abbrev YJ(p0:Value)(p1:Option Addr)(p2 p3:Nat):=Vz.mk [p0,.slice p1 p2 p3]
abbrev YK(p0 p1:Option Addr)(p2 p3 p4 p5:Nat)(p6:Bool)(p7:Value):=Vz.mk [.pointer p0,.slice p1 p2 p3,.int .i64 (p4:Int),.int .i64 (p5:Int),.bool p6,p7]
abbrev YL(p0:Option Addr)(p1 p2:Nat)(p3:Option Addr)(p4 p5:Nat)(p6:Option Addr)(p7 p8:Nat):=Vz.mk [.slice p0 p1 p2,.slice p3 p4 p5,.slice p6 p7 p8]
abbrev YM(p0 p1:Option Addr)(p2 p3 p4:Nat)(p5:Value):=Vz.mk [.pointer p0,.slice p1 p2 p3,.int .i64 (p4:Int),p5]
abbrev YN(p0 p1:Option Addr)(p2 p3 p4:Nat)(p5 p6:Value):=Vz.mk [.pointer p0,.slice p1 p2 p3,.int .i64 (p4:Int),p5,p6]
abbrev UU(p0:Option Addr)(p1:Value)(p2:Option Addr)(p3 p4:Nat):=Vz.mk [.pointer p0,p1,.slice p2 p3 p4]
abbrev abD(p0 p1 p2:Nat):=Vz.mk [.slice none 0 0,.int .i64 (p0:Int),.int .i64 (p1:Int),.int .i64 0,.int .i64 0,.int .u64 0,.int .i64 0,.int .i64 0,.int .i64 (p2:Int)]
abbrev zL(p0:Option Addr)(p1 p2:Nat)(p3:Option Addr)(p4 p5:Nat):=Vz.mk [.slice p0 p1 p2,.bool true,.slice p3 p4 p5,.bool false,.int .i64 0]
abbrev J5:=Vz.mk [.slice none 0 0,.bool false,.slice none 0 0,.bool false,.int .i64 0]
abbrev UW(p0:Option Addr)(p1 p2:ByteArray)(p3 p4 p5:Nat)(p6:Bool)(p7:Nat)(p8 p9:Int)(xb:ByteArray)(UR US Yy:Nat)(Yz:Bool)(YA YB YC YD YE YF YG:Nat)(YH:Bool):=Vz.mk [.pointer p0,.string p1,.string p2,.int .u32 (p3:Int),.int .u32 (p4:Int),.int .u64 (p5:Int),.bool p6,.int .i64 (p7:Int),.int .i64 p8,.int .i64 p9,.string ⟨#[]⟩,.slice none 0 0,.slice none 0 0,.bool false,.string xb,.int .u32 (UR:Int),.int .u32 (US:Int),.int .u64 (Yy:Int),.bool Yz,.int .i64 (YA:Int),.int .i64 (YB:Int),.int .i64 (YC:Int),.int .i64 (YD:Int),.int .i64 0,.int .i64 0,.int .u64 0,.int .i64 0,.int .i64 0,.int .i64 (YE:Int),.int .i64 (YF:Int),.int .i64 (YG:Int),.int .i64 0,.int .i64 0,.int .u64 0,.int .i64 0,.int .i64 0,.bool YH]
abbrev UX(p0:Option Addr)(p1 p2:ByteArray)(p3 p4 p5:Nat)(p6:Bool)(p7:Nat)(p8 p9:Int)(xb:ByteArray)(UR US Yy:Nat)(Yz:Bool)(YA YB YC YD YE YF YG:Nat)(YH:Bool):=Vz.mk [.pointer p0,.string p1,.string p2,.int .u32 (p3:Int),.int .u32 (p4:Int),.int .u64 (p5:Int),.bool p6,.int .i64 (p7:Int),.int .i64 p8,.int .i64 p9,.string ⟨#[]⟩,.slice none 0 0,.slice none 0 0,.bool true,.string xb,.int .u32 (UR:Int),.int .u32 (US:Int),.int .u64 (Yy:Int),.bool Yz,.int .i64 (YA:Int),.int .i64 (YB:Int),.int .i64 (YC:Int),.int .i64 (YD:Int),.int .i64 0,.int .i64 0,.int .u64 0,.int .i64 0,.int .i64 0,.int .i64 (YE:Int),.int .i64 (YF:Int),.int .i64 (YG:Int),.int .i64 0,.int .i64 0,.int .u64 0,.int .i64 0,.int .i64 0,.bool YH]
abbrev iH:=Vz.mk [.int .i64 0,.int .i64 0,.int .i64 0,.int .i64 0,.int .i64 0,.int .u64 0,.int .i64 0,.int .i64 0,.int .i64 0,.int .i64 0,.int .i64 0,.int .i64 0,.int .i64 0,.int .u64 0,.int .i64 0,.int .i64 0,.int .u64 0]
abbrev MF(p0 p1 p2:Value):=Vz.mk [p0,p1,p2]
abbrev UY(p0 p1 p2:Value):=Vz.mk [p0,p1,p2,.int .i64 0]
abbrev Dk(p0 p1:Int):=Vz.mk [.int .u32 p0,.int .u32 p1]
abbrev se(p0:Nat)(p1:ByteArray)(p2 p3:Nat)(p4:Bool):=Vz.mk [.int .u64 (p0:Int),.string p1,.int .u32 (p2:Int),.int .u32 (p3:Int),.bool p4]
abbrev YO(p0 p1 p2:Value):=Vz.mk [p0,p1,p2,.int .i64 290]
abbrev YP(p0 p1 p2:Value):=Vz.mk [p0,p1,p2,.int .i64 300]
abbrev MG:=Vz.mk [.int .u64 0,.string ⟨#[]⟩,.int .u32 0,.int .u32 0,.bool false]
abbrev iI(p0:Option Addr)(p1 p2 p3 p4 p5 p6 p7 p8 p9:Nat)(xb:Option Addr)(UR US:Nat):=Vz.mk [.slice none 0 0,.slice p0 p1 p2,.int .i64 (-1),.int .i64 (-1),.bool false,.int .i64 (p3:Int),.int .i64 (p4:Int),.int .i64 (p5:Int),.int .i64 0,.int .i64 0,.int .u64 0,.int .i64 0,.int .i64 0,.int .i64 (p6:Int),.int .i64 (p7:Int),.int .i64 (p8:Int),.int .i64 0,.int .i64 0,.int .u64 0,.int .i64 0,.int .i64 0,.int .u64 (p9:Int),.slice xb UR US]
abbrev Av:=Vz.mk [.slice none 0 0,.slice none 0 0,.int .i64 0,.int .i64 0,.bool false,.int .i64 0,.int .i64 0,.int .i64 0,.int .i64 0,.int .i64 0,.int .u64 0,.int .i64 0,.int .i64 0,.int .i64 0,.int .i64 0,.int .i64 0,.int .i64 0,.int .i64 0,.int .u64 0,.int .i64 0,.int .i64 0,.int .u64 0,.slice none 0 0]
abbrev oh(p0:ByteArray)(p1 p2:Bool)(p3:Int):=Vz.mk [.string p0,.bool p1,.bool p2,.int .i64 p3]
abbrev MH(p0:Int)(p1:Nat):=Vz.mk [.int .u32 p0,.int .u32 (p1:Int)]
abbrev Tn(p0 p1 p2:Value)(p3:Int):=Vz.mk [p0,p1,p2,.int .i64 p3]
abbrev uW(p0 p1 p2 p3 p4 p5 p6:Nat)(p7:Option Addr)(p8 p9:Nat):=Vz.mk [.int .i64 (p0:Int),.int .i64 (p1:Int),.int .i64 (p2:Int),.int .i64 0,.int .i64 0,.int .u64 0,.int .i64 0,.int .i64 0,.int .i64 (p3:Int),.int .i64 (p4:Int),.int .i64 (p5:Int),.int .i64 0,.int .i64 0,.int .u64 0,.int .i64 0,.int .i64 0,.int .u64 (p6:Int),.slice p7 p8 p9]
abbrev MI:=Vz.mk [.slice none 0 0,.slice none 0 0,.int .i64 (-1),.int .i64 (-1),.bool false]
abbrev qE(p0:Int):=Vz.mk [.int .u64 p0,.int .i64 0]
abbrev jR:=Vz.mk [.int .u64 0,.int .i64 310]
abbrev IS:=Vz.mk [.string ⟨#[]⟩]
abbrev YQ:=Vz.mk [.slice none 0 0,.string ⟨#[]⟩,.int .i64 310]
abbrev IT(p0:Option Addr)(p1 p2:Nat)(p3:ByteArray):=Vz.mk [.slice p0 p1 p2,.string p3,.int .i64 0]
abbrev IU(p0 p1 p2:ByteArray):=Vz.mk [.string p0,.bool false,.bool true,.int .i64 0,.string p1,.bool false,.bool true,.int .i64 0,.string p2,.bool true,.bool true,.int .i64 0]
abbrev MJ(p0:ByteArray):=Vz.mk [.string p0,.bool false,.bool true,.int .i64 0]
instance(w:World):CoeDep World w Nat:=⟨w.heap.size⟩
theorem cj{a:Prop}(x0:a)(x1:b):Hid (a/\b):=⟨x0,x1⟩
theorem cV{a:Prop}(x0:a)(x1:b)(x2:c):Hid (a/\b/\c):=⟨x0,x1,x2⟩
theorem jo{a:Prop}(x0:a)(x1:b)(x2:c)(x3:d):Hid (a/\b/\c/\d):=⟨x0,x1,x2,x3⟩
theorem BM{a:Prop}(x0:a)(x1:b)(x2:c)(x3:d)(x4:e):Hid (a/\b/\c/\d/\e):=⟨x0,x1,x2,x3,x4⟩
theorem XE{a:Prop}(x0:a)(x1:b)(x2:c)(x3:d)(x4:e)(x5:f):Hid (a/\b/\c/\d/\e/\f):=⟨x0,x1,x2,x3,x4,x5⟩
theorem J6{a:Prop}(x0:a)(x1:b)(x2:c)(x3:d)(x4:e)(x5:f)(x6:g):Hid (a/\b/\c/\d/\e/\f/\g):=⟨x0,x1,x2,x3,x4,x5,x6⟩
theorem YR{a:Prop}(x0:a)(x1:b)(x2:c)(x3:d)(x4:e)(x5:f)(x6:g)(x7:h):Hid (a/\b/\c/\d/\e/\f/\g/\h):=⟨x0,x1,x2,x3,x4,x5,x6,x7⟩
theorem hI9{a i:Prop}(x0:a)(x1:b)(x2:c)(x3:d)(x4:e)(x5:f)(x6:g)(x7:h)(x8:i):Hid (a/\b/\c/\d/\e/\f/\g/\h/\i):=⟨x0,x1,x2,x3,x4,x5,x6,x7,x8⟩
theorem QW(w:World)(o1 o2 o3 o4 o5 o6:Obj):∃u,u=((((((w.alloc o1).alloc o2).alloc o3).alloc o4).alloc o5).alloc o6)/\Below w.heap.size w u/\u.heap.size=w.heap.size+1+1+1+1+1+1/\u.heap[w.heap.size]? =some o1/\u.heap[w.heap.size+1]? =some o2/\u.heap[w.heap.size+1+1]? =some o3/\u.heap[w.heap.size+1+1+1]? =some o4/\u.heap[w.heap.size+1+1+1+1]? =some o5/\u.heap[w.heap.size+1+1+1+1+1]? =some o6:=by
 obtain⟨u1,BN⟩:∃u1,u1=w.alloc o1:=⟨_,rfl⟩
 have dm:u1.heap.size=w.heap.size+1:=by rw[BN];simp
 obtain⟨u2,QX⟩:∃u2,u2=u1.alloc o2:=⟨_,rfl⟩
 have fZ:u2.heap.size=w.heap.size+1+1:=by rw[QX];simp[dm]
 obtain⟨u3,QY⟩:∃u3,u3=u2.alloc o3:=⟨_,rfl⟩
 have iU:u3.heap.size=w.heap.size+1+1+1:=by rw[QY];simp[fZ]
 obtain⟨u4,QZ⟩:∃u4,u4=u3.alloc o4:=⟨_,rfl⟩
 have Aw:u4.heap.size=w.heap.size+1+1+1+1:=by rw[QZ];simp[iU]
 obtain⟨u5,Q0⟩:∃u5,u5=u4.alloc o5:=⟨_,rfl⟩
 have nb:u5.heap.size=w.heap.size+1+1+1+1+1:=by rw[Q0];simp[Aw]
 obtain⟨u6,Q1⟩:∃u6,u6=u5.alloc o6:=⟨_,rfl⟩
 have kC:u6.heap.size=w.heap.size+1+1+1+1+1+1:=by rw[Q1];simp[nb]
 have MK:Below u6.heap.size u6 u6:=Below.refl _ _
 have kD:u6.heap[w.heap.size+1+1+1+1+1]? =some o6:=(MK.block _ (by omega)).T (by rw[Q1,<-nb];exact World.alloc_heap_new _ _)
 have ML:Below u5.heap.size u5 u6:=(show Below u5.heap.size u5 u6 by rw[Q1];exact(Below.refl _ _).alloc (Nat.le_refl _) _).T (MK.mono (by omega))
 have jG:u6.heap[w.heap.size+1+1+1+1]? =some o5:=(ML.block _ (by omega)).T (by rw[Q0,<-Aw];exact World.alloc_heap_new _ _)
 have MM:Below u4.heap.size u4 u6:=(show Below u4.heap.size u4 u5 by rw[Q0];exact(Below.refl _ _).alloc (Nat.le_refl _) _).T (ML.mono (by omega))
 have lz:u6.heap[w.heap.size+1+1+1]? =some o4:=(MM.block _ (by omega)).T (by rw[QZ,<-iU];exact World.alloc_heap_new _ _)
 have MN:Below u3.heap.size u3 u6:=(show Below u3.heap.size u3 u4 by rw[QZ];exact(Below.refl _ _).alloc (Nat.le_refl _) _).T (MM.mono (by omega))
 have jS:u6.heap[w.heap.size+1+1]? =some o3:=(MN.block _ (by omega)).T (by rw[QY,<-fZ];exact World.alloc_heap_new _ _)
 have MO:Below u2.heap.size u2 u6:=(show Below u2.heap.size u2 u3 by rw[QY];exact(Below.refl _ _).alloc (Nat.le_refl _) _).T (MN.mono (by omega))
 have ek:u6.heap[w.heap.size+1]? =some o2:=(MO.block _ (by omega)).T (by rw[QX,<-dm];exact World.alloc_heap_new _ _)
 have MP:Below u1.heap.size u1 u6:=(show Below u1.heap.size u1 u2 by rw[QX];exact(Below.refl _ _).alloc (Nat.le_refl _) _).T (MO.mono (by omega))
 have bB:u6.heap[w.heap.size]? =some o1:=(MP.block _ (by omega)).T (by rw[BN];exact World.alloc_heap_new _ _)
 refine⟨u6,by rw[Q1,Q0,QZ,QY,QX,BN],(show Below w.heap.size w u1 by rw[BN];exact(Below.refl _ _).alloc (Nat.le_refl _) _).T (MP.mono (by omega)),kC,bB,ek,jS,lz,jG,kD⟩
theorem Q2(w:World)(o1 o2 o3 o4 o5 o6 o7:Obj):∃u,u=(((((((w.alloc o1).alloc o2).alloc o3).alloc o4).alloc o5).alloc o6).alloc o7)/\Below w.heap.size w u/\u.heap.size=w.heap.size+1+1+1+1+1+1+1/\u.heap[w.heap.size]? =some o1/\u.heap[w.heap.size+1]? =some o2/\u.heap[w.heap.size+1+1]? =some o3/\u.heap[w.heap.size+1+1+1]? =some o4/\u.heap[w.heap.size+1+1+1+1]? =some o5/\u.heap[w.heap.size+1+1+1+1+1]? =some o6/\u.heap[w.heap.size+1+1+1+1+1+1]? =some o7:=by
 obtain⟨u1,BN⟩:∃u1,u1=w.alloc o1:=⟨_,rfl⟩
 have dm:u1.heap.size=w.heap.size+1:=by rw[BN];simp
 obtain⟨u2,QX⟩:∃u2,u2=u1.alloc o2:=⟨_,rfl⟩
 have fZ:u2.heap.size=w.heap.size+1+1:=by rw[QX];simp[dm]
 obtain⟨u3,QY⟩:∃u3,u3=u2.alloc o3:=⟨_,rfl⟩
 have iU:u3.heap.size=w.heap.size+1+1+1:=by rw[QY];simp[fZ]
 obtain⟨u4,QZ⟩:∃u4,u4=u3.alloc o4:=⟨_,rfl⟩
 have Aw:u4.heap.size=w.heap.size+1+1+1+1:=by rw[QZ];simp[iU]
 obtain⟨u5,Q0⟩:∃u5,u5=u4.alloc o5:=⟨_,rfl⟩
 have nb:u5.heap.size=w.heap.size+1+1+1+1+1:=by rw[Q0];simp[Aw]
 obtain⟨u6,Q1⟩:∃u6,u6=u5.alloc o6:=⟨_,rfl⟩
 have kC:u6.heap.size=w.heap.size+1+1+1+1+1+1:=by rw[Q1];simp[nb]
 obtain⟨u7,hu7⟩:∃u7,u7=u6.alloc o7:=⟨_,rfl⟩
 have zM:u7.heap.size=w.heap.size+1+1+1+1+1+1+1:=by rw[hu7];simp[kC]
 have YS:Below u7.heap.size u7 u7:=Below.refl _ _
 have nc:u7.heap[w.heap.size+1+1+1+1+1+1]? =some o7:=(YS.block _ (by omega)).T (by rw[hu7,<-kC];exact World.alloc_heap_new _ _)
 have MK:Below u6.heap.size u6 u7:=(show Below u6.heap.size u6 u7 by rw[hu7];exact(Below.refl _ _).alloc (Nat.le_refl _) _).T (YS.mono (by omega))
 have kD:u7.heap[w.heap.size+1+1+1+1+1]? =some o6:=(MK.block _ (by omega)).T (by rw[Q1,<-nb];exact World.alloc_heap_new _ _)
 have ML:Below u5.heap.size u5 u7:=(show Below u5.heap.size u5 u6 by rw[Q1];exact(Below.refl _ _).alloc (Nat.le_refl _) _).T (MK.mono (by omega))
 have jG:u7.heap[w.heap.size+1+1+1+1]? =some o5:=(ML.block _ (by omega)).T (by rw[Q0,<-Aw];exact World.alloc_heap_new _ _)
 have MM:Below u4.heap.size u4 u7:=(show Below u4.heap.size u4 u5 by rw[Q0];exact(Below.refl _ _).alloc (Nat.le_refl _) _).T (ML.mono (by omega))
 have lz:u7.heap[w.heap.size+1+1+1]? =some o4:=(MM.block _ (by omega)).T (by rw[QZ,<-iU];exact World.alloc_heap_new _ _)
 have MN:Below u3.heap.size u3 u7:=(show Below u3.heap.size u3 u4 by rw[QZ];exact(Below.refl _ _).alloc (Nat.le_refl _) _).T (MM.mono (by omega))
 have jS:u7.heap[w.heap.size+1+1]? =some o3:=(MN.block _ (by omega)).T (by rw[QY,<-fZ];exact World.alloc_heap_new _ _)
 have MO:Below u2.heap.size u2 u7:=(show Below u2.heap.size u2 u3 by rw[QY];exact(Below.refl _ _).alloc (Nat.le_refl _) _).T (MN.mono (by omega))
 have ek:u7.heap[w.heap.size+1]? =some o2:=(MO.block _ (by omega)).T (by rw[QX,<-dm];exact World.alloc_heap_new _ _)
 have MP:Below u1.heap.size u1 u7:=(show Below u1.heap.size u1 u2 by rw[QX];exact(Below.refl _ _).alloc (Nat.le_refl _) _).T (MO.mono (by omega))
 have bB:u7.heap[w.heap.size]? =some o1:=(MP.block _ (by omega)).T (by rw[BN];exact World.alloc_heap_new _ _)
 refine⟨u7,by rw[hu7,Q1,Q0,QZ,QY,QX,BN],(show Below w.heap.size w u1 by rw[BN];exact(Below.refl _ _).alloc (Nat.le_refl _) _).T (MP.mono (by omega)),zM,bB,ek,jS,lz,jG,kD,nc⟩
section
open Go.ChangeShapes Go.WideShapes Go.ChangeAt Go.RowKit
theorem own:ownKnob Tryz.prog.godebug=none:=aO
theorem Q3(h:Below W W W')(may:MemPlace->Prop):W.keptBut W' may:=by
 refine⟨h.os,h.output, λ i hi=>?_⟩
 have:=(World.keptBut_refl W may).2.2 i hi
 rw[h.block i hi]
 exact this
variable {H : Type} {enc : TypeId × Value -> H}
theorem MQ{f:Func}{s:ChangeSpec}{fresh handsOn:Bool}{ds gs:List (DataW H)}{before:List MemPlace}
 (hW:DataW.Whole enc P f.params.toList s.vars false W args.toList ds gs before)
 (jK:∀(b:Nat) (sp:Nat->Bool) (hd:Bool),DataW.TrodAll enc P W' b sp hd f.resultTypes.toList (v.resultList f.resultTypes.size) (s.fn H (ds++gs)).results [])
 (To:DataW.TrodAll enc P W' 0 (λ b=>decide (b<W.heap.size)) true f.params.toList args.toList (s.fn H (ds++gs)).args before)
 (YT:DataW.TrodVars enc P W' (λ b=>decide (b<W.heap.size)) s.vars (s.fn H (ds++gs)).vars [])
 (hk:Below W W W'):
 s.post enc P f false fresh handsOn false W args v W':=
 ⟨ds,gs,before,[],before,[],hW,jK _ _ _,To,YT,Q3 hk _, λ h=>by cases h⟩
noncomputable def tR (os:Os):World:=
 {World.holding Tryz.prog os ⟨#[],#[],[]⟩with heap:=(World.holding Tryz.prog os ⟨#[],#[],[]⟩).heap.modify 1 λ
  | .cells _ t frozen=>.cells #[.int .i64 0,.int .i64 0] t frozen
  |o=>o}
end
section
attribute [local go_sem] Oper.semAt_some
def ai(w:World)(a:Option Addr)(xs:List Nat):Prop:=
 (∀x∈xs,x<256)/\(xs=[]\/∃B o,a=some ⟨B,o,none⟩/\∀(j:Nat) (x:Nat),xs[j]? =some x->w.cell? (za B (o+j))=some (.int .u8 (x:Int)))
theorem ai.below{a:Option Addr}{xs:List Nat}(h:ai w a xs)(hb:Below w w w'):ai w' a xs:=by
 refine⟨h.1,?_⟩
 rcases h.2 with h0|⟨B,o,ha,hc⟩
 ·exact .inl h0
 ·exact .inr ⟨B,o,ha, λ j x hx=>(hb.cell (p:=(za B (o+j))) (World.block_lt_of_cell? w _ (hc j x hx))).T (hc j x hx)⟩
theorem ai.nil(w:World)(a:Option Addr):ai w a []:=⟨by simp,.inl rfl⟩
structure P9 where
 at_:Nat
 a:Option Addr
 bs:List Nat
 cap:Nat
def bM:Nat->List (Option Addr×List Nat×Nat)->List P9
 |_,[]=>[]
 |n,(a,bs,c)::l=>⟨n,a,bs,c⟩::bM (n+bs.length) l
abbrev Piece:=Option Addr×List Nat×Nat
def al(ps:List Piece):List Nat:=ps.flatMap λ p=>p.2.1
def mC(w:World)(b:Option Addr)(ps:List Piece):Prop:=
 (ps=[]\/∃B o,b=some ⟨B,o,none⟩/\∀(j:Nat) (p:Piece),ps[j]? =some p->w.cell? (za B (o+j))=some (.slice p.1 p.2.1.length p.2.2))/\
 ∀p∈ps,p.2.1≠[]/\p.2.1.length<=p.2.2/\ai w p.1 p.2.1
theorem mC.below{w w':World}{b:Option Addr}{ps:List Piece}(h:mC w b ps)(hb:Below w w w'):mC w' b ps:=by
 refine⟨?_, λ p hp=>⟨(h.2 p hp).1,(h.2 p hp).2.1,(h.2 p hp).2.2.below hb⟩⟩
 rcases h.1 with h0|⟨B,o,ha,hc⟩
 ·exact .inl h0
 ·exact .inr ⟨B,o,ha, λ j p hx=>(hb.cell (p:=(za B (o+j))) (World.block_lt_of_cell? w _ (hc j p hx))).T (hc j p hx)⟩
def aE(b:Option Addr)(k c:Nat):Value:=.agg (cK b k c)
structure au(w:World)(b:Option Addr)(c:Nat)(ps:List Piece):Prop where
 pieces:mC w b ps
 small:(al ps).length<=524288
 room:ps.length<=c
theorem au.below{w w':World}{b:Option Addr}{c:Nat}{ps:List Piece}(h:au w b c ps)(hb:Below w w w'):au w' b c ps:=⟨h.pieces.below hb,h.small,h.room⟩
theorem Ax:∀(ps:List Piece),(∀p∈ps,p.2.1≠[])->ps.length<=(al ps).length
 |[],_=>by simp
 |p::ps,h=>by
  have h1:=Ax ps (λ q hq=>h q (by simp[hq]))
  have h2:=h p aR
  have:0<p.2.1.length:=by
   cases hp:p.2.1 with
   |nil=>exact absurd hp h2
   |cons a l=>simp
  simp[al]at h1⊢
  omega
theorem au.C3{b:Option Addr}{c:Nat}{ps:List Piece}(h:au w b c ps):ps.length<=524288:=Nat.le_trans (Ax ps λ p hp=>(h.pieces.2 p hp).1) h.small
theorem jL(ps:List Piece)(j:Nat)(p:Piece)(h:ps[j]? =some p):(al (ps.take (j+1))).length=(al (ps.take j)).length+p.2.1.length:=by
 rw[List.take_add_one,h];simp[al]
theorem jq(ps:List Piece)(j:Nat):(al (ps.take j)).length<=(al ps).length:=by
 have:al ps=al (ps.take j)++al (ps.drop j):=by
  conv=>lhs;rw[<-List.take_append_drop j ps]
  exact List.flatMap_append
 rw[this,List.length_append];exact Nat.le_add_right _ _
theorem Dl(m:Nat)(ps:List Piece)(j:Nat)(p:Piece)(h:ps[j]? =some p):bM m (ps.drop j)=⟨m,p.1,p.2.1,p.2.2⟩::bM (m+p.2.1.length) (ps.drop (j+1)):=by
 obtain⟨h1,h2⟩:=List.getElem?_eq_some_iff.1 h
 rw[List.drop_eq_getElem_cons h1,h2]
 obtain⟨a,bs,c⟩:=p
 rfl
theorem fJ(h:Below (w.alloc (.cells cs t)).heap.size (w.alloc (.cells cs t)) w2)(j:Nat)(v:Value)(hj:cs[j]? =some v):w2.cell? ⟨w.heap.size,j,none⟩=some v:=by
 rw[h.cell (p:=⟨w.heap.size,j,none⟩) (by rw[World.size_alloc];exact Nat.lt_succ_self _),World.cell?_alloc_new]
 exact hj
theorem xc{b:Option Addr}{c:Nat}(h:Below (w.alloc (.cells (cK b k c) t)).heap.size (w.alloc (.cells (cK b k c) t)) w2):
 w2.cell? (za w 0)=some (.slice none 0 0)/\w2.cell? (za w 1)=some (.slice b k c)/\w2.cell? (za w 2)=some (.int .i64 (-1))/\w2.cell? (za w 3)=some (.int .i64 (-1))/\w2.cell? (za w 4)=some (.bool false):=
 ⟨fJ h 0 _ rfl,fJ h 1 _ rfl,fJ h 2 _ rfl,fJ h 3 _ rfl,fJ h 4 _ rfl⟩
theorem carry{p:Addr}(h:Below w w w')(c:w.cell? p=some v):w'.cell? p=some v:=(h.cell (World.block_lt_of_cell? w _ c)).T c
theorem YU{ds es:Array Value}{u v:TypeId}(h:Below (((w.alloc (.cells cs t)).alloc (.cells ds u)).alloc (.cells es v)).heap.size (((w.alloc (.cells cs t)).alloc (.cells ds u)).alloc (.cells es v)) w2):
 (∀j x,cs[j]? =some x->w2.cell? ⟨w.heap.size,j,none⟩=some x)/\(∀j x,ds[j]? =some x->w2.cell? ⟨w.heap.size+1,j,none⟩=some x)/\(∀j x,es[j]? =some x->w2.cell? ⟨w.heap.size+1+1,j,none⟩=some x):=by
 have h2:=h.mono (B':=((w.alloc (.cells cs t)).alloc (.cells ds u)).heap.size) aR
 have e3:=((Below.refl _ ((w.alloc (.cells cs t)).alloc (.cells ds u))).alloc (aW) (.cells es v)).T h2
 have e2:=((Below.refl _ (w.alloc (.cells cs t))).alloc (aW) (.cells ds u)).T (e3.mono aR)
 refine⟨λ j x hj=>fJ e2 j x hj, λ j x hj=>?_, λ j x hj=>?_⟩
 ·have:=fJ e3 j x hj;rwa [World.size_alloc]at this
 ·have:=fJ h j x hj;rwa [World.size_alloc,World.size_alloc]at this
def fB(at_ n:Nat)(x:P9):List Nat:=(x.bs.take (at_+n - x.at_)).drop (at_ - x.at_)
theorem zN(bs r:List Nat)(k j:Nat):((bs++r).take k).drop j=(bs.take k).drop j++(r.take (k - bs.length)).drop (j - bs.length):=by
 rw[List.take_append,List.drop_append,List.length_take]
 by_cases h:bs.length<=k
 ·rw[Nat.min_eq_right h]
 ·rw[show k - bs.length=0 by omega];simp
theorem Tp(at_ n:Nat):∀(ps:List Piece) (m:Nat),(bM m ps).flatMap (fB at_ n)=((al ps).take (at_+n - m)).drop (at_ - m)
 |[],m=>by simp[bM,al]
 |(a,bs,c)::ps,m=>by
  have h1:al ((a,bs,c)::ps)=bs++al ps:=by simp[al]
  rw[h1,zN,bM,List.flatMap_cons,Tp at_ n ps]
  rw[show at_+n - (m+bs.length)=at_+n - m - bs.length by omega,show at_ - (m+bs.length)=at_ - m - bs.length by omega]
  rfl
theorem Ay{x:P9}(h:at_+n<=x.at_):fB at_ n x=[]:=by
 unfold fB;rw[show at_+n - x.at_=0 by omega];simp
theorem Gk{x:P9}(h:x.at_+x.bs.length<=at_):fB at_ n x=[]:=by
 unfold fB;exact List.drop_eq_nil_of_le (by rw[List.length_take];omega)
theorem Dm(ps:List Piece):∀(m:Nat),∀x∈bM m ps,m<=x.at_:=by
 induction ps with
 |nil=>intro m x hx;simp[bM]at hx
 |cons p ps ih=>
  obtain⟨a,bs,c⟩:=p
  intro m x hx
  rcases List.mem_cons.1 hx with rfl|hx
  ·exact aW
  ·have:=ih _ x hx;omega
theorem Gl(at_ n:Nat)(ps:List Piece):∀(m:Nat) (pre rest:List P9) (x:P9),bM m ps=pre++x::rest->at_+n<=x.at_->(bM m ps).flatMap (fB at_ n)=pre.flatMap (fB at_ n):=by
 induction ps with
 |nil=>intro m pre rest x h;simp[bM]at h
 |cons p ps ih=>
  obtain⟨a,bs,c⟩:=p
  intro m pre rest x h hx
  cases pre with
  |nil=>
   have h':=h
   rw[bM,List.nil_append]at h'
   obtain⟨e1,e2⟩:=List.cons.inj h'
   rw[h]
   simp only[List.nil_append,List.flatMap_cons,List.flatMap_nil,Ay hx]
   rw[<-e2]
   refine List.flatMap_eq_nil_iff.2 λ y hy=>Ay ?_
   have:=Dm ps _ y hy
   rw[<-e1]at hx
   simp at hx
   omega
  |cons y pre=>
   rw[bM,List.cons_append]at h
   obtain⟨e1,e2⟩:=List.cons.inj h
   rw[bM,List.flatMap_cons,List.flatMap_cons,ih _ _ _ _ e2 hx,e1]
structure iK(n₀:Nat)(S:Nat->Prop)(W W':World):Prop where
 below:Below n₀ W W'
 same:∀k,S k->W'.heap[k]? =W.heap[k]?
theorem iK.refl(n₀:Nat)(S:Nat->Prop)(W:World):iK n₀ S W W:=⟨dp, λ _ _=>rfl⟩
theorem iK.T{n₀:Nat}{S:Nat->Prop}{A B C:World}(h:iK n₀ S A B)(k:iK n₀ S B C):iK n₀ S A C:=⟨h.below.T k.below, λ j hj=>(k.same j hj).T (h.same j hj)⟩
theorem iK.cell{S:Nat->Prop}{B:World}(h:iK n₀ S A B){p:Addr}(hp:S p.block):B.cell? p=A.cell? p:=World.cell?_of_block (w:=A) (h.same p.block hp)
theorem iK.putObj{n₀:Nat}{S:Nat->Prop}{w:World}(hn:n₀<=w.heap.size)(hS:∀k,S k->k<w.heap.size)(W:World)(l:Nat)(o o':Obj)(hl:w.heap.size<=l)(h:W.heap[l]? =some o)(_:o.isCells=false)(_:o.isWalk=false):iK n₀ S W (W.putObj l o'):=
 ⟨(Below.refl n₀ W).grown (grownBy_putObj' W l o') (by have:=(aX h).1;omega) (λ k e=>by cases e;omega), λ k hk=>World.putObj_heap_other (aM (hS k hk))⟩
theorem iK.aA{S:Nat->Prop}(h:Below W W W')(hn:n₀<=W.heap.size)(hS:∀k,S k->k<W.heap.size):iK n₀ S W W':=⟨h.mono hn, λ k hk=>h.block k (hS k hk)⟩
theorem MR(b:Option Addr)(k c:Nat)(w:World):
 Calls Tryz.prog 196 #[aE b k c] w λ e w'=>e= .returned (.func (.func 213) #[] (dW (zp w)))/\w'=w.alloc (.cells (cK b k c) 37):=by
 unfold aE
 go_enter Tryz.func196,Tryz.ntmps196
 go_wp2
 go_ret
 exact⟨rfl,rfl⟩
def dJ:P9:=⟨0,none,[],0⟩
def MS(w:World)(x:P9):Prop:=ai w x.a x.bs/\x.bs.length<=x.cap/\x.at_<=524288/\x.bs.length<=524288/\(x.bs=[]->x.at_=0)
abbrev jT(w:World):={x:P9//MS w x}
def J7{w:World}(x:jT w):Array Value:=#[.int .i64 (x.1.at_:Int),.slice x.1.a x.1.bs.length x.1.cap]
theorem MT(F:Fence)(n:Nat)(hF:F.fn 213)(rX:F.round=none)(hn:1<=n)(w0:World)(l Bn n₀:Nat)(b:Option Addr)(c:Nat)(ps:List Piece)(rs:List (jT w0))(J Jx:List (jT w0)->World->Prop)
 (tS:rs.map Subtype.val=dJ::bM 0 ps)
 (hY:∀pre x W,J pre W->pre.length<rs.length->YieldAt F (n - 1) Tryz.prog l (J7 x) W λ e W'=>
   (e= .returned (.bool true)/\J (pre++[x]) W'/\iK n₀ (·=Bn) W W')\/(e= .returned (.bool false)/\Jx (pre++[x]) W'))
 (W:World)(iL:W.cell? (za Bn 0)=some (.slice none 0 0))(aQ:W.cell? (za Bn 1)=some (.slice b ps.length c))
 (hP:au W b c ps)(zo:ps≠[]->∀B o,b=some ⟨B,o,none⟩->B<n₀)(h0:J [] W):
 CallsIn F n Tryz.prog 213 #[.func (.yield l) #[] #[],.pointer (zp Bn)] W λ e W'=>(∃v,e= .returned v)/\
  ((∃ys,ys=rs/\J ys W')\/(∃pre,pre<+:rs/\Jx pre W')):=by
 obtain⟨x0,Q4,rfl⟩:∃x0 Q4,rs=x0::Q4:=by
  cases rs with
  |nil=>simp at tS
  |cons x l=>exact⟨x,l,rfl⟩
 obtain⟨h0v,abE⟩:x0.1=dJ/\Q4.map Subtype.val=bM 0 ps:=by simpa using tS
 have he0:J7 x0=#[.int .i64 0,.slice none 0 0]:=by simp[J7,h0v,dJ]
 have wH:=hP.C3
 have fG:=hP.small
 have Hc:=af hP.pieces
 have Hbb:=af zo
 clear hP zo
 refine callsIn_of_wp Tryz.func213 rfl hF ?_ rX
 simp only[Tryz.ntmps213,zEn,Nat.reduceAdd,Nat.reduceSub]
 obtain⟨f1,t1,a1,b1,lA,J8⟩:=hY [] x0 W h0 aR
 rw[he0]at lA
 gi_wp2
 refine J8.mono ?_
 rintro e W1 (⟨rfl,hJ1,zq⟩|⟨rfl,bB⟩)
 ·have ac2:W1.cell? (za Bn 1)=some (.slice b ps.length c):=(zq.cell (p:=(za Bn 1)) rfl).T aQ
  gi_wp2
  gi_loopw [3,17] (λ a i wr=>∃(pre rest:List (jT w0)) (m:Nat),Q4=pre++rest/\i= .int .i64 (pre.length:Int)/\a= .int .i64 (m:Int)/\m=(al (ps.take pre.length)).length/\rest.map Subtype.val=bM m (ps.drop pre.length)/\J (x0::pre) wr/\Hid (Below n₀ W wr)) (λ _ i _=>ps.length - (intOf i).toNat)
  case atStart=>exact⟨[],Q4,0,rfl,rfl,rfl,by simp[al],by simpa using abE,hJ1,af zq.below⟩
  case round=>
   obtain⟨pre,rest,m,hpr,rfl,rfl,hm,lH,hJs,hB⟩:=hrel
   have zO:m<=524288:=aM (jq ps pre.length)
   by_cases bg:pre.length<ps.length
   ·obtain⟨p,hp⟩:∃p,ps[pre.length]? =some p:=⟨ps[pre.length],by simp[bg]⟩
    rw[Dl m ps _ p hp]at lH
    have Qa:=jL ps _ p hp
    have hm3:=jq ps (pre.length+1)
    obtain⟨x,Dn,rfl⟩:∃x Dn,rest=x::Dn:=by
     cases rest with
     |nil=>simp at lH
     |cons x l=>exact⟨x,l,rfl⟩
    obtain⟨hxv,MU⟩:x.1=⟨m,p.1,p.2.1,p.2.2⟩/\Dn.map Subtype.val=bM (m+p.2.1.length) (ps.drop (pre.length+1)):=by simpa using lH
    have hex:J7 x=#[.int .i64 (m:Int),.slice p.1 p.2.1.length p.2.2]:=by simp[J7,hxv]
    obtain⟨B,o,rfl,bq⟩:∃B o,b=some ⟨B,o,none⟩/\wr.cell? (za B (o+pre.length))=some (.slice p.1 p.2.1.length p.2.2):=by
     rcases Hc.O.1 with h|⟨B,o,hb,hc⟩
     ·rw[h]at bg;simp at bg
     ·exact⟨B,o,hb,(hB.O.cell (p:=(za B (o+pre.length))) (Hbb.O (λ e=>by rw[e]at bg;simp at bg) B o hb)).T (hc _ p hp)⟩
    obtain⟨f2,t2,a2,b2,Gm,Q5⟩:=hY (x0::pre) x wr hJs (by simp[hpr])
    rw[hex]at Gm
    have hpb:p.2.1.length<=524288:=ag
    have hmb:(m:Int)+(p.2.1.length:Int)<=524288:=ag
    have Hm:=af hm
    have Hm2:=af Qa
    have Hr:=af MU
    clear lH MU hm Qa hm3 hp hxv hex
    gi_wp2
    refine Q5.mono ?_
    rintro e W3 (⟨rfl,hJ3,fY⟩|⟨rfl,abF⟩)
    ·gi_wp2
     go_roundw
     case rel=>exact⟨pre++[x],Dn,m+p.2.1.length,by simp[hpr],by simp,by simp,by rw[List.length_append,List.length_singleton,Hm2.O,<-Hm.O],by simpa using Hr.O,hJ3,af (hB.O.T fY.below)⟩
     case measure=>simp[intOf];omega
    ·gi_wp2
     refine bodyPost_ret (results_none rfl _ _ _) rfl ?_
     exact⟨⟨_,rfl⟩,.inr ⟨x0::(pre++[x]),⟨Dn,by simp[hpr]⟩,abF⟩⟩
   ·have Tq:rest=[]:=by
     rw[List.drop_eq_nil_of_le ag]at lH
     exact List.map_eq_nil_iff.1 lH
    subst Tq
    gi_wp2
    go_end0
    exact⟨⟨_,rfl⟩,.inl ⟨_,rfl,by rw[hpr];simpa using hJs⟩⟩
 ·gi_wp2
  refine bodyPost_ret (results_none rfl _ _ _) rfl ?_
  exact⟨⟨_,rfl⟩,.inr ⟨_,⟨Q4,rfl⟩,bB⟩⟩
theorem om:∀(ps:List Piece) (m:Nat),(bM m ps).length=ps.length
 |[],_=>rfl
 |(_,_,_)::ps,m=>by simp[bM,om ps]
theorem uX{w:World}:∀(ps:List Piece) (m:Nat),(∀p∈ps,p.2.1≠[]/\p.2.1.length<=p.2.2/\ai w p.1 p.2.1)->m+(al ps).length<=524288->∀x∈bM m ps,MS w x/\m<=x.at_
 |[],_,_,_,x,hx=>by simp[bM]at hx
 |(a,bs,c)::ps,m,h,hm,x,hx=>by
  have h2:(al ((a,bs,c)::ps)).length=bs.length+(al ps).length:=by simp[al]
  rw[h2]at hm
  rcases List.mem_cons.1 hx with rfl|hx
  ·have:=h (a,bs,c) aR
   exact⟨⟨this.2.2,this.2.1,show m<=_ by omega,show bs.length<=_ by omega, λ e=>absurd e this.1⟩,aW⟩
  ·have:=uX ps (m+bs.length) (λ p hp=>h p (by simp[hp])) ag x hx
   exact⟨this.1,ag⟩
theorem J9{b:Option Addr}{c:Nat}{ps:List Piece}(h:au w b c ps):∃rs:List (jT w),rs.map Subtype.val=dJ::bM 0 ps:=by
 have H:∀x∈dJ::bM 0 ps,MS w x:= λ x hx=>by
  rcases List.mem_cons.1 hx with rfl|hx
  ·exact⟨ai.nil _ _,by simp[dJ],by simp[dJ],by simp[dJ], λ _=>rfl⟩
  ·exact(uX ps 0 h.pieces.2 (aM h.small) x hx).1
 exact⟨(dJ::bM 0 ps).pmap Subtype.mk H,by rw[List.map_pmap];simp⟩
theorem Gn(F:Fence)(n:Nat)(hF:F.fn 213)(rX:F.round=none)(hn:1<=n)(w0 w:World)(Bn n₀:Nat)(b:Option Addr)(c:Nat)(ps:List Piece)(rs:List (jT w0))
 (tS:rs.map Subtype.val=dJ::bM 0 ps)(hBn:Bn<w.heap.size)(_:n₀<=w.heap.size)
 (iL:w.cell? (za Bn 0)=some (.slice none 0 0))(aQ:w.cell? (za Bn 1)=some (.slice b ps.length c))(hP:au w b c ps)(zo:ps≠[]->∀B o,b=some ⟨B,o,none⟩->B<n₀):
 SeqStopsK F n Tryz.prog 213 (dW (zp Bn)) (J7 (w:=w0)) (iK n₀ (·=Bn)) (λ ys=>ys=rs) (λ pre=>pre<+:rs) rs.length w:= λ l J Jx W hW _ _ hY h0=>
 MT F n hF rX hn w0 l Bn n₀ b c ps rs J Jx tS hY W ((hW.cell (p:=(za Bn 0)) hBn).T iL) ((hW.cell (p:=(za Bn 1)) hBn).T aQ) (hP.below hW) zo h0
end
def qn:Nat->List Nat->Option Nat
 |n,[]=>if 524288<n then none else some n
 |n,k::l=>if k=0\/524288<n+k then none else qn (n+k) l
def Q6:Option Nat->Int
 |none=> -1
 |some n=>(n:Int)
def UZ(w:World)(base:Option Addr)(ls:List Nat):Prop:=ls=[]\/∃B o,base=some ⟨B,o,none⟩/\∀(j:Nat) (k:Nat),ls[j]? =some k->∃a c,w.cell? (za B (o+j))=some (.slice a k c)
theorem xd(a:Option Addr)(n c:Nat)(b:Option Addr)(ls:List Nat)(c2:Nat)(x y z:Value)(w:World)(hn:n<140737488355328)(hl:ls.length<140737488355328)(Dp:∀k∈ls,k<140737488355328)(hc:UZ w b ls):
 Calls Tryz.prog 51 #[.agg #[.slice a n c,.slice b ls.length c2,x,y,z]] w λ e w'=>e= .returned (.int .i64 (Q6 (qn n ls)))/\Below w w w':=by
 obtain⟨R,hR⟩:=aK (qn n ls)
 rw[<-hR]
 have HR:=af hR
 have Hc:=af hc
 have Hls:=af Dp
 clear hR hc Dp
 go_enter Tryz.func51,Tryz.ntmps51
 go_wp2
 go_loopw [3,12] (λ v i wr=>∃j m:Nat,j<=ls.length/\i= .int .i64 (j:Int)/\v= .int .i64 (m:Int)/\qn m (ls.drop j)=R/\m<140737489000000/\(1<=j->m<=524288)/\Hid (Below w w wr)) (λ _ i _=>ls.length - (intOf i).toNat)
 case atStart=>
  refine⟨0,n,Nat.zero_le _,rfl,rfl,by simpa using HR.O.symm,ag,ag,af ?_⟩
  go_grown
 case round=>
  obtain⟨j,m,hj,rfl,rfl,hr,hm,zO,HB⟩:=hrel
  by_cases bg:j<ls.length
  ·obtain⟨k,hk⟩:∃k,ls[j]? =some k:=⟨ls[j],by simp[bg]⟩
   have Tr:ls.drop j=k::ls.drop (j+1):=by
    obtain⟨h1,h2⟩:=List.getElem?_eq_some_iff.1 hk
    rw[List.drop_eq_getElem_cons h1,h2]
   have YV:=Hls.O k (List.mem_of_getElem? hk)
   obtain⟨B,o,hb,bq⟩:∃B o,b=some ⟨B,o,none⟩/\∃a c,wr.cell? (za B (o+j))=some (.slice a k c):=by
    rcases Hc.O with h0|⟨B,o,hb,h1⟩
    ·rw[h0]at bg;simp at bg
    ·obtain⟨a,c,h2⟩:=h1 j k hk
     have hB:=World.block_lt_of_cell? w _ h2
     exact⟨B,o,hb,a,c,(HB.O.cell (p:=(za B (o+j))) hB).T h2⟩
   obtain⟨a2,c3,bq⟩:=bq
   subst hb
   rw[Tr]at hr
   have Hdk:=af hk
   clear Tr hk
   by_cases zP:k=0
   ·have hf:R=none:=by rw[<-hr,qn,if_pos (.inl zP)]
    have Hf:=af hf
    subst zP
    clear hr hf
    go_wp2
    go_ret
    exact⟨by rw[Hf.O];rfl,HB.O⟩
   ·by_cases Q7:524288<m+k
    ·have hf:R=none:=by rw[<-hr,qn,if_pos (.inr Q7)]
     have Hf:=af hf
     have MW:¬ (k:Int)=0:=ag
     have hbi:(524288:Int)<(m:Int)+(k:Int):=ag
     clear hr hf
     go_wp2
     go_ret
     exact⟨by rw[Hf.O];rfl,HB.O⟩
    ·have hf:qn (m+k) (ls.drop (j+1))=R:=by rw[<-hr,qn,if_neg ag]
     have Hf:=af hf
     have MW:((k:Int)==0)=false:=bV
     have hbi:(m:Int)+(k:Int)<=524288:=ag
     have IV:=af (show m+k<=524288 by omega)
     clear hr hf
     go_wp2
     exact⟨⟨j+1,m+k,ag,rfl,rfl,Hf.O,by have:=IV.O;omega, λ _=>IV.O,HB⟩,by simp[intOf];omega⟩
  ·rw[List.drop_eq_nil_of_le ag,qn]at hr
   by_cases Q7:524288<m
   ·have hf:R=none:=by rw[<-hr,if_pos Q7]
    have Hf:=af hf
    have hbi:(524288:Int)<(m:Int):=ag
    clear hr hf
    go_wp2
    go_ret
    exact⟨by rw[Hf.O];rfl,HB.O⟩
   ·have hf:R=some m:=by rw[<-hr,if_neg Q7]
    have Hf:=af hf
    have hbi:(m:Int)<=524288:=ag
    clear hr hf
    go_wp2
    go_ret
    exact⟨by rw[Hf.O];rfl,HB.O⟩
def me(kE fault:Int)(off:Bool)(n:Nat)(ls:List Nat):Bool:= !(decide (kE< -1)||decide (fault< -1)||(off&&decide (kE≠ -1))||(qn n ls).isNone)
def Q8(b:Bool):Int:=if b then 0 else 200
theorem Ka(a:Option Addr)(n c:Nat)(b:Option Addr)(ls:List Nat)(c2:Nat)(kE fault:Int)(off:Bool)(w:World)(hn:n<140737488355328)(hl:ls.length<140737488355328)(Dp:∀k∈ls,k<140737488355328)(hc:UZ w b ls):
 Calls Tryz.prog 35 (Gi (.agg (XD a n c b ls.length c2 kE fault off))) w λ e w'=>e= .returned (.int .i64 (Q8 (me kE fault off n ls)))/\Below w w w':=by
 have hlen:∀w2:World,Below w w w2->Calls Tryz.prog 51 (Gi (.agg (XD a n c b ls.length c2 kE fault off))) w2 λ e w'=>e= .returned (.int .i64 (Q6 (qn n ls)))/\Below w2 w2 w':= λ w2 hb=>by
  refine xd a n c b ls c2 _ _ _ w2 hn hl Dp ?_
  rcases hc with h|⟨B,o,h1,h2⟩
  ·exact .inl h
  ·refine .inr ⟨B,o,h1, λ j k hk=>?_⟩
   obtain⟨a3,c3,h3⟩:=h2 j k hk
   exact⟨a3,c3,(hb.cell (p:=(za B (o+j))) (World.block_lt_of_cell? w _ h3)).T h3⟩
 have HL:=af hlen
 clear hlen hc Dp
 obtain⟨r,hr⟩:=aK (qn n ls)
 have Hr:=af hr
 have hI:∀w2:World,Below w w w2->Calls Tryz.prog 51 (Gi (.agg (XD a n c b ls.length c2 kE fault off))) w2 λ e w'=>e= .returned (.int .i64 (Q6 r))/\Below w2 w2 w':= λ w2 hb=>by rw[hr];exact HL.O w2 hb
 have HI:=af hI
 clear hI HL hr
 have YW:Below w w (w.alloc (.cells (XD a n c b ls.length c2 kE fault off) 37)):=by go_grown
 have ei:=af YW
 clear YW
 by_cases h1:kE< -1
 ·have Hf:=af (show Q8 (me kE fault off n ls)=200 by simp[me,Q8,h1])
  go_enter Tryz.func35,Tryz.ntmps35
  go_wp2
  go_ret
  exact⟨congrArg (λ v:Int=>Ending.returned (.int .i64 v)) Hf.O.symm,ei.O⟩
 ·have h1b: -1<=kE:=ag
  by_cases h2:fault< -1
  ·have Hf:=af (show Q8 (me kE fault off n ls)=200 by simp[me,Q8,h2])
   go_enter Tryz.func35,Tryz.ntmps35
   go_wp2
   go_ret
   exact⟨congrArg (λ v:Int=>Ending.returned (.int .i64 v)) Hf.O.symm,ei.O⟩
  ·have h2b: -1<=fault:=ag
   by_cases h3:off=true/\kE≠ -1
   ·obtain⟨h3,h4⟩:=h3
    subst h3
    have Hf:=af (show Q8 (me kE fault true n ls)=200 by simp[me,Q8,h4])
    have h4b:(kE != -1)=true:=by simp[h4]
    go_enter Tryz.func35,Tryz.ntmps35
    go_wp2
    go_ret
    exact⟨congrArg (λ v:Int=>Ending.returned (.int .i64 v)) Hf.O.symm,ei.O⟩
   ·have hof:(off&&(kE != -1))=false:=by
     cases off with
     |false=>rfl
     |true=>simp at h3⊢;exact h3
    have Hf:=af (show Q8 (me kE fault off n ls)=if r=none then 200 else 0 by
     have hd:(off&&decide (kE≠ -1))=false:=by
      cases off with
      |false=>rfl
      |true=>simp at h3⊢;exact h3
     rw[me,<-Hr.O,hd]
     simp only[show¬ kE< -1 from h1,show¬ fault< -1 from h2,decide_false,Bool.false_or]
     cases r<;>rfl)
    cases r with
    |none=>
     have YX:Hid (∀w2:World,Below w w w2->Calls Tryz.prog 51 (Gi (.agg (XD a n c b ls.length c2 kE fault off))) w2 λ e w'=>e= .returned (.int .i64 (-1))/\Below w2 w2 w'):=HI
     clear HI
     cases off with
     |false=>
      go_enter Tryz.func35,Tryz.ntmps35
      go_wp2_with first
       |(with_reducible refine(YX.O _ ei.O).mono ?_;rintro e w2 ⟨rfl,aC⟩)
       |fail
      go_ret
      exact⟨congrArg (λ v:Int=>Ending.returned (.int .i64 v)) Hf.O.symm,ei.O.T (aC.mono ei.O.size)⟩
     |true=>
      have hfu:kE= -1:=by simp at hof;exact hof
      subst hfu
      go_enter Tryz.func35,Tryz.ntmps35
      go_wp2_with first
       |(with_reducible refine(YX.O _ ei.O).mono ?_;rintro e w2 ⟨rfl,aC⟩)
       |fail
      go_ret
      exact⟨congrArg (λ v:Int=>Ending.returned (.int .i64 v)) Hf.O.symm,ei.O.T (aC.mono ei.O.size)⟩
    |some k=>
     have YX:Hid (∀w2:World,Below w w w2->Calls Tryz.prog 51 (Gi (.agg (XD a n c b ls.length c2 kE fault off))) w2 λ e w'=>e= .returned (.int .i64 (k:Int))/\Below w2 w2 w'):=HI
     clear HI
     cases off with
     |false=>
      go_enter Tryz.func35,Tryz.ntmps35
      go_wp2_with first
       |(with_reducible refine(YX.O _ ei.O).mono ?_;rintro e w2 ⟨rfl,aC⟩)
       |fail
      go_ret
      exact⟨congrArg (λ v:Int=>Ending.returned (.int .i64 v)) Hf.O.symm,ei.O.T (aC.mono ei.O.size)⟩
     |true=>
      have hfu:kE= -1:=by simp at hof;exact hof
      subst hfu
      go_enter Tryz.func35,Tryz.ntmps35
      go_wp2_with first
       |(with_reducible refine(YX.O _ ei.O).mono ?_;rintro e w2 ⟨rfl,aC⟩)
       |fail
      go_ret
      exact⟨congrArg (λ v:Int=>Ending.returned (.int .i64 v)) Hf.O.symm,ei.O.T (aC.mono ei.O.size)⟩
def gw(ps:List Piece):List Nat:=ps.map λ p=>p.2.1.length
theorem BO:∀(ps:List Piece) (n:Nat),(∀p∈ps,p.2.1≠[])->n+(al ps).length<=524288->qn n (gw ps)=some (n+(al ps).length)
 |[],n,_,h=>by simp[al]at h;simp[gw,qn,al];omega
 |p::ps,n,hn,h=>by
  have h1:p.2.1.length≠0:= λ e=>hn p aR (List.eq_nil_of_length_eq_zero e)
  have h2:(al (p::ps)).length=p.2.1.length+(al ps).length:=by simp[al]
  rw[h2]at h⊢
  show qn n (p.2.1.length::gw ps)=_
  rw[qn,if_neg ag,BO ps _ (λ q hq=>hn q (by simp[hq])) ag]
  congr 1;omega
theorem IW{b:Option Addr}{ps:List Piece}(h:mC w b ps):UZ w b (gw ps):=by
 rcases h.1 with h0|⟨B,o,hb,hc⟩
 ·exact .inl (by rw[h0];rfl)
 ·refine .inr ⟨B,o,hb, λ j k hk=>?_⟩
  obtain⟨p,hp,rfl⟩:∃p,ps[j]? =some p/\p.2.1.length=k:=by simpa[gw]using hk
  exact⟨p.1,p.2.2,hc j p hp⟩
theorem tV{b:Option Addr}{c:Nat}{ps:List Piece}(h:au w b c ps):
 Calls Tryz.prog 51 #[aE b ps.length c] w λ e w'=>e= .returned (.int .i64 ((al ps).length:Nat))/\Below w w w':=by
 have hl:∀k∈gw ps,k<140737488355328:= λ k hk=>by
  obtain⟨p,hp,rfl⟩:=List.mem_map.1 hk
  obtain⟨j,hj⟩:=List.mem_iff_getElem?.1 hp
  have h1:=jL ps j p hj
  have h2:=jq ps (j+1)
  have h3:=h.small
  omega
 have:=xd none 0 0 b (gw ps) c (.int .i64 (-1)) (.int .i64 (-1)) (.bool false) w ag (by simp[gw];have:=h.C3;omega) hl (IW h.pieces)
 rw[BO ps 0 (λ p hp=>(h.pieces.2 p hp).1) (aM h.small),show(gw ps).length=ps.length by simp[gw]]at this
 refine this.mono ?_
 rintro e w' ⟨rfl,hb⟩
 exact⟨by simp[Q6],hb⟩
theorem gg{b:Option Addr}{c:Nat}{ps:List Piece}(h:au w b c ps):
 Calls Tryz.prog 35 #[aE b ps.length c] w λ e w'=>e= .returned (.int .i64 0)/\Below w w w':=by
 have hl:∀k∈gw ps,k<140737488355328:= λ k hk=>by
  obtain⟨p,hp,rfl⟩:=List.mem_map.1 hk
  obtain⟨j,hj⟩:=List.mem_iff_getElem?.1 hp
  have h1:=jL ps j p hj
  have h2:=jq ps (j+1)
  have h3:=h.small
  omega
 have:=Ka none 0 0 b (gw ps) c (-1) (-1) false w ag (by simp[gw];have:=h.C3;omega) hl (IW h.pieces)
 rw[show(gw ps).length=ps.length by simp[gw]]at this
 refine this.mono ?_
 rintro e w' ⟨rfl,hb⟩
 refine⟨?_,hb⟩
 simp[me,Q8,BO ps 0 (λ p hp=>(h.pieces.2 p hp).1) (aM h.small)]
theorem MX{b:Option Addr}{c:Nat}{ps:List Piece}(h:au w b c ps):
 Calls Tryz.prog 133 #[aE b ps.length c] w λ e w'=>e= .returned (.int .i64 ((al ps).length:Nat))/\Below w w w':=by
 have h1:= λ (w2:World) (hb:Below w w w2)=>gg (h.below hb)
 have h2:= λ (w2:World) (hb:Below w w w2)=>tV (h.below hb)
 have H1:=af h1
 have H2:=af h2
 unfold aE at*
 clear h1 h2 h
 generalize((al ps).length:Int)=N at*
 have H0:Hid (Below w w (w.alloc (.cells (cK b ps.length c) 37))):=af (by go_grown)
 go_enter Tryz.func133,Tryz.ntmps133
 go_wp2_with first
  |(with_reducible refine(H1.O _ H0.O).mono ?_;rintro e w2 ⟨rfl,aC⟩;have H3:=af (H0.O.T (aC.mono H0.O.size));obtain⟨c0,c1,c2,c3,c4⟩:=xc aC;clear aC)
  |(with_reducible refine(H2.O _ H3.O).mono ?_;rintro e w2 ⟨rfl,aC⟩)
  |fail
 go_ret
 exact⟨rfl,H3.O.T (aC.mono H3.O.size)⟩
variable {F : Fence} {n : Nat} {P : Program}
abbrev U0(a:Act)(p1 p2 d1 d2:Tmp)(u v:Value):Act:={tmps:=(((a.tmps.setIfInBounds p1 u).setIfInBounds p2 v).setIfInBounds d1 u).setIfInBounds d2 v,defers:=[]}
theorem U1{α:Type}{g:Operand}{p1 p2:Tmp}(d1 d2:Tmp){assign body:Code}
 (rX:F.round=none)(h1:1<=n){gf:Nat}{lb:Array Value}(hg:a.eval g= .func (.func gf) #[] lb)(hFg:F.fn gf)(eg:∀args w,(callFunc gf args).run P w= .ok (.enter gf args) w)
 {e1 e2:α->Value}{Kp:World->World->Prop}{S Sp:List α->Prop}{N:Nat}{w0:World}(mf:SeqStopsK F (n - 1) P gf lb (λ x=>#[e1 x,e2 x]) Kp S Sp N w0)
 (rY:∀{A B C:World},Kp A B->Kp B C->Kp A C)(xe:∀(W:World) (l:Nat) (o o':Obj),w.heap.size<=l->W.heap[l]? =some o->o.isCells=false->o.isWalk=false->Kp W (W.putObj l o'))(iL:Below w0 w0 w)
 (I:List α->World->Prop)(Ix:Code->List α->World->Prop)(hI:OwnFrom w.heap.size I)(hIx:∀c,OwnFrom w.heap.size (Ix c))(h0:I [] w)
 (fb:∀(l:Nat) (x:α) (W:World) (K:Act->World->Prop),K (U0 a p1 p2 d1 d2 (e1 x) (e2 x)) W->
   assign.wpIn (F.inRound l) (n - 1 - 1) P (Exit.then K (λ _ _ _=>False)) {tmps:=(a.tmps.setIfInBounds p1 (e1 x)).setIfInBounds p2 (e2 x),defers:=[]} W)
 (kF:∀(l:Nat) (pre:List α) (x:α) (W:World),I pre W->pre.length<N->body.wpIn (F.inRound l) (n - 1 - 1) P (ownPostG w.heap.size Kp I Ix (pre++[x]) W) (U0 a p1 p2 d1 d2 (e1 x) (e2 x)) W)
 (kG:∀(D:Nat) (xs:List α) (W:World),w.heap.size<=D->S xs->I xs W->W.heap[D]? =some (.deferred (some []))->Q .normal {a with defers:={target:=.collected D,args:=#[]}::a.defers} W)
 (kH:∀(D:Nat) (c:Code) (pre:List α) (W:World),w.heap.size<=D->Sp pre->Ix c pre W->W.heap[D]? =some (.deferred (some []))->c.wpIn F n P Q {a with defers:={target:=.collected D,args:=#[]}::a.defers} W):
 (Code.rangeFunc g #[p1,p2] assign body).wpIn F n P Q a w:=
 wpIn_rangeFunc_ownG rX h1 hg hFg eg mf rY xe iL (λ _=>rfl) I Ix hI hIx h0 (λ x=>U0 a p1 p2 d1 d2 (e1 x) (e2 x)) (λ l x W K hK=>by simpa using fb l x W K hK) kF kG kH
theorem xh{w1:World}{e:TypeId}{v':Value}{ys:List Value}
 (hv:Boxed W B t v)(zQ:t≠e)(ax:W.ownsRow n₀ e size v k xs)(YY:n₀<=W.heap.size)(_:n₀<=B)
 (cY:w1.ownsRow n₀ e size v' m ys)(eB:W.grownBy w1 v.ownBlock):
 Boxed w1 B t v/\Boxed (w1.setCell (za B 0) v') B t v'/\(w1.setCell (za B 0) v').ownsRow n₀ e size v' m ys/\KeepsOthers W (w1.setCell (za B 0) v')/\Below n₀ W w1:=by
 have xi:Boxed w1 B t v:=hv.kept eB (hv.not_row zQ ax)
 refine⟨xi,xi.set v',cY.kept (grownBy_setCell' w1 B v') (.inr (xi.not_row zQ cY).symm),?_,?_⟩
 ·refine(KeepsOthers.of_grownBy eB λ j o ej hj=>?_).T (KeepsOthers.setCell _ _ _)
  rcases ax.2 with⟨rfl,_⟩|⟨g,cap,cur,rfl,_,U2,_⟩
  ·simp[Value.ownBlock]at ej
  ·obtain rfl:g=j:=by simpa[Value.ownBlock]using ej
   rw[U2]at hj;cases hj;rfl
 ·refine(Below.refl n₀ W).grown eB YY λ j ej=>?_
  rcases ax.2 with⟨rfl,_⟩|⟨g,cap,cur,rfl,hb,_,_⟩
  ·simp[Value.ownBlock]at ej
  ·obtain rfl:g=j:=by simpa[Value.ownBlock]using ej
   exact hb
theorem Dq{β:Type}(B:Nat)(o:Obj)(ho:o.isCells=true):Own (λ (_:β) W=>W.heap[B]? =some o):= λ s A C row hs hg hr=>
 (hg.block B (aX hs).1 (λ e=>by
   obtain⟨o',h1,h2⟩:=hr B e.symm
   rw[hs]at h1;cases h1
   rw[ho]at h2;cases h2)).T hs
theorem ns{e:TypeId}{fz:Nat×Nat}(h:W.heap[B]? =some (.cells cs t fz))(zQ:t≠e){base:Nat}(hr:W.ownsRow base e size v k xs):some B≠v.ownBlock:=by
 rcases hr.2 with⟨rfl,_⟩|⟨g,cap,cur,rfl,_,U2,_⟩
 ·simp[Value.ownBlock]
 ·intro e'
  obtain rfl:B=g:=by simpa[Value.ownBlock]using e'
  have:=h.symm.T U2
  simp at this
  exact zQ this.2.1
section
variable {P : Program} {ops : Array Oper} {Q : Exit -> Act -> World -> Prop} {md : Region.Mode} {S : World -> Prop} {L : Nat}
def eo(P:Program)(md:Region.Mode)(ops:Array Oper)(Q:Exit->Act->World->Prop)(S:World->Prop)(L:Nat):Nat->Array Bool->Act->World->Prop
 |0,listed,a,w=>Region.ready md ops listed=[]/\Q .normal a w
 |fuel+1,listed,a,w=>
  (Region.ready md ops listed=[]->Q .normal a w)/\
  ∀i∈Region.ready md ops listed,wpOp P ops Q i (λ a' w'=>(i≠L->S w')/\eo P md ops Q S L fuel (listed.setIfInBounds i true) a' w') a w
theorem xj:∀(fuel:Nat) (listed:Array Bool) (a:Act) (w:World),eo P md ops Q S L fuel listed a w->wpAny P md ops Q fuel listed a w
 |0,_,_,_,h=>h
 |fuel+1,_,_,_,h=>⟨h.1, λ i hi=>wpOp_mono (λ a' w' h'=>xj fuel _ a' w' h'.2) (h.2 i hi)⟩
def dc(md:Region.Mode)(ops:Array Oper)(L i:Nat):Bool:=match ops[L]? with
 |some o=>o.after.any λ e=>Region.binds md e&&e.on==i
 |none=>true
theorem BP(h:dc md ops L i=true)(hi:listed.getD i true=false):L∉Region.ready md ops listed:=by
 intro hL
 obtain⟨h0,oL,hoL,fK⟩:=mem_ready.1 hL
 unfold dc at h
 rw[hoL]at h
 obtain⟨j,hj,hb⟩:=Array.any_eq_true.1 h
 simp only[Bool.and_eq_true,beq_iff_eq]at hb
 have h2:=fK _ (Array.getElem_mem hj) hb.1
 rw[hb.2]at h2
 rcases Nat.lt_or_ge i listed.size with h'|h'
 ·simp[h']at hi h2;rw[hi]at h2;cases h2
 ·simp[Array.getElem?_eq_none h']at hi
theorem BQ(hi:ops[i]? =some oi)(MY:∀(j:Nat) (o:Oper) cs b,ops[j]? =some o->o.op≠.select cs b)
 (hQ:∀c a w,Q (.panic c) (a.put oi.dst v) w->Q (.panic c) a w)(hwL:dc md ops L i=true):
 ∀(fuel:Nat) (listed:Array Bool) (a:Act) (w:World),
  (∀j oj,ops[j]? =some oj->j≠i->listed.getD j true=false->(∀e∈oj.after,Region.binds md e=true->e.on≠i)->oi.apart ops oj=true)->
  i∈Region.ready md ops listed->YieldsIf P ops S oi v a->S w->
  eo P md ops Q S L fuel (listed.setIfInBounds i true) (a.put oi.dst v) w->eo P md ops Q S L (fuel+1) listed a w:=by
 intro fuel
 induction fuel with
 |zero=>
  intro listed a w _ hr hy hS H
  refine⟨λ h=>(by rw[h]at hr;cases hr), λ j hj=>?_⟩
  by_cases gy:j=i
  ·subst gy;exact hy.wpOp hi hS ⟨λ _=>hS,H⟩
  ·have:=ready_mono hj gy
   rw[H.1]at this
   cases this
 |succ fuel ih=>
  intro listed a w Dr hr hy hS H
  refine⟨λ h=>(by rw[h]at hr;cases hr), λ j hj=>?_⟩
  by_cases gy:j=i
  ·subst gy;exact hy.wpOp hi hS ⟨λ _=>hS,H⟩
  ·have hjL:j≠L:= λ e=>BP hwL (mem_ready.1 hr).1 (e▸hj)
   have h1:=H.2 j (ready_mono hj gy)
   obtain⟨MZ,oj,U3,fK⟩:=mem_ready.1 hj
   have Kb:∀e∈oj.after,Region.binds md e=true->e.on≠i:= λ e he hb heq=>by
    have h1:=fK e he hb
    have h0:=(mem_ready.1 hr).1
    rw[heq]at h1
    rcases Nat.lt_or_ge i listed.size with h'|h'
    ·simp[h']at h0 h1;rw[h0]at h1;cases h1
    ·simp[Array.getElem?_eq_none h']at h1
   have h2:=wpOp_putIf U3 (Dr j oj U3 gy MZ Kb) (λ cs b=>MY i oi cs b hi) (λ cs b=>MY j oj cs b U3) hQ hy h1
   have Gp:∀k ok,ops[k]? =some ok->k≠i->(listed.setIfInBounds j true).getD k true=false->
    (∀e∈ok.after,Region.binds md e=true->e.on≠i)->oi.apart ops ok=true:= λ k ok hk MW YZ km=>by
    refine Dr k ok hk MW ?_ km
    by_cases Q9:j=k
    ·subst Q9;exact MZ
    ·rw[getD_set_ne true Q9]at YZ;exact YZ
   refine wpOp_mono (λ a' w' h3=>⟨h3.2.1,ih (listed.setIfInBounds j true) a' w' Gp (ready_mono hr (Ne.symm gy)) h3.1 (h3.2.1 hjL) ?_⟩) h2
   rw[Array.setIfInBounds_comm _ _ gy]
   exact h3.2.2
theorem Ts(i:Nat)(hS:S w)(hi:ops[i]? =some oi)
 (hs:(Region.noSelect ops&&Region.free md ops listed i&&(Region.ready md ops listed).contains i&&dc md ops L i)=true)
 (hQ:∀c a w,Q (.panic c) (a.put oi.dst v) w->Q (.panic c) a w)(hy:YieldsIf P ops S oi v a)
 (h:eo P md ops Q S L fuel (listed.setIfInBounds i true) (a.put oi.dst v) w):eo P md ops Q S L (fuel+1) listed a w:=by
 simp only[Bool.and_eq_true]at hs
 exact BQ hi (Region.noSelect_spec hs.1.1.1) hQ hs.2 fuel listed a w (Region.free_spec hi hs.1.1.2) (by simpa using hs.1.2) hy hS h
theorem stepT(i:Nat)(hr:Region.ready md ops listed=[i])(ho:ops[i]? =some o)
 (h:∀K':Act->World->Prop,Shut (∀a w,(i≠L->S w)->eo P md ops Q S L fuel (listed.setIfInBounds i true) a w->K' a w)->if Region.wanted o (yielded ops a.tmps)=true then Oper.wp P o a w K' Q else K' (a.put o.dst undef) w):
 eo P md ops Q S L (fuel+1) listed a w:=
 ⟨(λ h0=>by rw[hr]at h0;cases h0), λ j hj=>by
   rw[hr,List.mem_singleton]at hj
   subst hj
   exact wpOp_step ho (λ K' hK=>h K' (λ a w hS hW=>hK a w ⟨hS,hW⟩))⟩
theorem Gq(i j:Nat)(hr:Region.ready md ops listed=[i,j])(ho:ops[i]? =some o)(hu:ops[j]? =some u)
 (h:∀K':Act->World->Prop,Shut (∀a w,(i≠L->S w)->eo P md ops Q S L fuel (listed.setIfInBounds i true) a w->K' a w)->if Region.wanted o (yielded ops a.tmps)=true then Oper.wp P o a w K' Q else K' (a.put o.dst undef) w)
 (h':∀K':Act->World->Prop,Shut (∀a w,(j≠L->S w)->eo P md ops Q S L fuel (listed.setIfInBounds j true) a w->K' a w)->if Region.wanted u (yielded ops a.tmps)=true then Oper.wp P u a w K' Q else K' (a.put u.dst undef) w):
 eo P md ops Q S L (fuel+1) listed a w:=
 ⟨(λ h0=>by rw[hr]at h0;cases h0), λ m hm=>by
   rw[hr]at hm
   simp only[List.mem_cons,List.not_mem_nil,or_false]at hm
   rcases hm with rfl|rfl
   ·exact wpOp_step ho (λ K' hK=>h K' (λ a w hS hW=>hK a w ⟨hS,hW⟩))
   ·exact wpOp_step hu (λ K' hK=>h' K' (λ a w hS hW=>hK a w ⟨hS,hW⟩))⟩
theorem bF{K':Act->World->Prop}(hK:Shut (∀a w,(i≠L->S w)->eo P md ops Q S L fuel listed a w->K' a w))(hS:S w)(h:S w->eo P md ops Q S L fuel listed a w):K' a w:=hK.out a w (λ _=>hS) (h hS)
theorem iM{K':Act->World->Prop}(hK:Shut (∀a w,(L≠L->S w)->eo P md ops Q S L fuel listed a w->K' a w))(h:eo P md ops Q S L fuel listed a w):K' a w:=hK.out a w (λ e=>absurd rfl e) h
theorem fC(hr:Region.ready md ops listed=[])(h:Q .normal a w):∀fuel,eo P md ops Q S L fuel listed a w
 |0=>⟨hr,h⟩
 |_+1=>⟨λ _=>h,by rw[hr];simp⟩
theorem eL(L:Nat)(S:World->Prop)(hm:P.follows .mixedOrders=true)(hS:S w.drew)
 (h:S w.drew->eo P .any ops Q S L ops.size (Array.replicate ops.size false) a w.drew):(Code.region id ops true).wp P Q a w:=
 wp_region_any hm (xj _ _ _ _ (h hS))
end
section
variable {P : Program} {Q : Exit -> Act -> World -> Prop}
theorem BR{row:String}{R:Value->World->Prop}(l:Nat)(h:Rows P row args w R):RowsIn (Fence.wide.inRound l) n P row args w R:=
 λ c cs _=>let⟨v,w',r,s⟩:=h c cs;⟨v,w',r,stepsIn_wide.2 s⟩
theorem U4{K K':Act->World->Prop}(l n:Nat)(hd:∀c,o.op≠.defer c)(hk:∀a w,K a w->K' a w)(h:o.wp P a w K Q):o.wpIn (Fence.wide.inRound l) n P a w K' Q:=by
 refine⟨λ _ _=>trivial,?_⟩
 rw[show(Fence.wide.inRound l).round=some l from rfl,Oper.semAt_some l _ o hd]
 unfold Oper.wp at h
 generalize(execOp a.eval o).run P w=r at*
 cases r with
 |ok nx w'=>
  cases nx with
  |value v=>exact hk _ _ h
  |skip=>exact hk _ _ h
  |defer d=>exact hk _ _ h
  |enter f args=>
   refine⟨(λ e=>by cases e),?_⟩
   refine(CallsIn.inRound l (callsIn_wide.2 h)).mono ?_
   intro e w2 he
   cases e with
   |returned v=>exact hk _ _ he
   |panicked ch=>exact he
   |outgrown=>exact he
  |row r args=>exact⟨(λ e=>by cases e),(BR l h).mono λ v w2 he=>hk _ _ he⟩
  |round l f t asz b=>exact h.elim
  |_=>exact h.elim
 |halt x w'=>cases x<;>exact h
theorem IX{ops:Array Oper}(l n:Nat)(hQ:¬ LetsOut Q)(hd:∀(i:Nat) (o:Oper) (c:_),ops[i]? =some o->o.op≠.defer c):∀(is:List Nat) (a:Act) (w:World),wpOps P ops Q is a w->wpOpsIn (Fence.wide.inRound l) n P ops Q is a w
 |[],_,_,h=>h
 |i::is,a,w,h=>by
  unfold wpOps at h
  unfold wpOpsIn
  cases ho:ops[i]? with
  |none=>rw[ho]at h;exact IX l n hQ hd is a w h
  |some o=>
   rw[ho]at h
   simp only at h⊢
   split
   ·rename_i hw
    rw[if_pos hw]at h
    rcases h with h|⟨_,h⟩
    ·exact U4 l n (λ c=>hd i o c ho) (λ a w hx=>IX l n hQ hd is a w hx) h
    ·exact absurd h hQ
   ·rename_i hw
    rw[if_neg hw]at h
    exact⟨λ _ _=>trivial,IX l n hQ hd is _ w h⟩
def Az(ops:Array Oper):Bool:=ops.all λ o=>match o.op with| .defer _=>false|_=>true
theorem xk(h:Az ops=true)(i:Nat)(o:Oper)(c:Call)(ho:ops[i]? =some o):o.op≠.defer c:=by
 obtain⟨hi,rfl⟩:=aX ho
 have:=(Array.all_eq_true.1 h) i hi
 intro e
 rw[e]at this
 cases this
end
section
variable {P : Program} {ops : Array Oper} {Q : Exit -> Act -> World -> Prop} {md : Region.Mode} {S : World -> Prop} {L : Nat}
theorem lB{A B:Prop}[Decidable c](hq:q)(hc:c:=by kernel_rfl)(h:q->A:=by intro h;simp only[Act.put,List.setIfInBounds_toArray,List.set_cons_zero,List.set_cons_succ,List.getElem_toArray,List.getElem_cons_zero,List.getElem_cons_succ];exact h):if c then A else B:=by rw[if_pos hc];exact h hq
theorem tT(i:Nat)(hS:S w)(hq:q)(hi:ops[i]? =some oi:=by exact rfl)
 (hs:(Region.noSelect ops&&Region.free md ops listed i&&(Region.ready md ops listed).contains i&&dc md ops L i)=true:=by kernel_rfl)
 (hQ:∀c a w,Q (.panic c) (a.put oi.dst v) w->Q (.panic c) a w:=by exact λ _ _ _ h=>h)(hw:Region.wanted oi (yielded ops a.tmps)=true:=by kernel_rfl)(hv:∀w,S w->(execOp a.eval oi).run P w= .ok (.value v) w:=by(intro w hSw;(try dsimp only at hSw);go_simp)<;>with_reducible rfl)
 (h:q->eo P md ops Q S L fuel (listed.setIfInBounds i true) (a.put oi.dst v) w:=by intro h;(try simp only[Act.put,List.setIfInBounds_toArray,List.set_cons_zero,List.set_cons_succ]);exact h):eo P md ops Q S L (fuel+1) listed a w:=Ts i hS hi hs hQ (Or.inl ⟨hw,hv⟩) (h hq)
theorem tU(i:Nat)(hS:S w)(hq:q)(hi:ops[i]? =some oi:=by exact rfl)
 (hs:(Region.noSelect ops&&Region.free md ops listed i&&(Region.ready md ops listed).contains i&&dc md ops L i)=true:=by kernel_rfl)
 (hQ:∀c a w,Q (.panic c) (a.put oi.dst undef) w->Q (.panic c) a w:=by exact λ _ _ _ h=>h)(hw:Region.wanted oi (yielded ops a.tmps)=false:=by kernel_rfl)
 (h:q->eo P md ops Q S L fuel (listed.setIfInBounds i true) (a.put oi.dst undef) w:=by intro h;(try simp only[Act.put,List.setIfInBounds_toArray,List.set_cons_zero,List.set_cons_succ]);exact h):eo P md ops Q S L (fuel+1) listed a w:=Ts i (v:=undef) hS hi hs hQ (Or.inr ⟨hw,rfl⟩) (h hq)
theorem sT(i:Nat)
 (h:∀K':Act->World->Prop,Shut (∀a w,(i≠L->S w)->eo P md ops Q S L fuel (listed.setIfInBounds i true) a w->K' a w)->if Region.wanted o (yielded ops a.tmps)=true then Oper.wp P o a w K' Q else K' (a.put o.dst undef) w)(hr:Region.ready md ops listed=[i]:=by kernel_rfl)(ho:ops[i]? =some o:=by exact rfl):
 eo P md ops Q S L (fuel+1) listed a w:=stepT i hr ho h
end
abbrev iV:=List (Nat×(World->Prop))
def qo(dead:List Nat):iV->World->Prop
 |[],_=>True
 |p::l,w=>cond (dead.contains p.1) True (p.2 w)/\qo dead l w
def gz(md:Region.Mode)(ops:Array Oper)(i:Nat)(dead:List Nat):List Nat:=
 let l:=(List.range ops.size).reverse.foldl (λ l k=>if l.contains k then(List.range ops.size).filter (dc md ops k)++l else l) ((List.range ops.size).filter (dc md ops i)++dead)
 (List.range ops.size).filter l.contains++dead.filter (λ k=>decide (ops.size<=k))
def sf(md:Region.Mode)(ops:Array Oper)(listed:Array Bool):Bool:=(List.range ops.size).all λ k=> !listed.getD k false||(List.range ops.size).all λ m=> !dc md ops k m||listed.getD m false
section
variable {P : Program} {ops : Array Oper} {Q : Exit -> Act -> World -> Prop} {md : Region.Mode}
theorem pT{dead kI:List Nat}(h:∀k,k∈dead->k∈kI):∀(l:iV) (w:World),qo dead l w->qo kI l w
 |[],_,_=>trivial
 |p::l,w,⟨h1,h2⟩=>by
  refine⟨?_,pT h l w h2⟩
  cases hc:kI.contains p.1 with
  |true=>trivial
  |false=>
   cases hd:dead.contains p.1 with
   |true=>rw[List.contains_eq_mem,decide_eq_true_eq]at hd;rw[List.contains_eq_mem,decide_eq_false_iff_not]at hc;exact absurd (h _ hd) hc
   |false=>rw[hd]at h1;exact h1
theorem Ds{md:Region.Mode}{ops:Array Oper}{p:Nat->Prop}(hp:∀k,p k->k<ops.size->∀m,dc md ops k m=true->m<ops.size->p m):∀(ks l:List Nat),(∀k∈ks,k<ops.size)->(∀k∈l,p k)->∀k∈ks.foldl (λ l k=>if l.contains k then(List.range ops.size).filter (dc md ops k)++l else l) l,p k
 |[],_,_,hl=>hl
 |k::ks,l,hk,hl=>by
  rw[List.foldl_cons]
  refine Ds hp ks _ (λ m hm=>hk m (List.mem_cons_of_mem _ hm)) λ m hm=>?_
  split at hm
  ·rename_i hc
   rcases List.mem_append.1 hm with h|h
   ·rw[List.mem_filter,List.mem_range]at h
    exact hp k (hl k (by simpa using hc)) (hk k List.mem_cons_self) m h.2 h.1
   ·exact hl m h
  ·exact hl m hm
theorem AA{md:Region.Mode}{ops:Array Oper}:∀(ks l l':List Nat),(∀k,k∈l->k∈l')->∀k,k∈ks.foldl (λ l k=>if l.contains k then(List.range ops.size).filter (dc md ops k)++l else l) l->k∈ks.foldl (λ l k=>if l.contains k then(List.range ops.size).filter (dc md ops k)++l else l) l'
 |[],_,_,h=>h
 |k::ks,l,l',h=>by
  rw[List.foldl_cons,List.foldl_cons]
  refine AA ks _ _ λ m hm=>?_
  split at hm
  ·rename_i hc
   rw[if_pos (by simpa using h k (by simpa using hc))]
   rcases List.mem_append.1 hm with e|e
   ·exact List.mem_append_left _ e
   ·exact List.mem_append_right _ (h m e)
  ·split
   ·exact List.mem_append_right _ (h m hm)
   ·exact h m hm
theorem AB{md:Region.Mode}{ops:Array Oper}:∀(ks l:List Nat) (k:Nat),k∈l->k∈ks.foldl (λ l k=>if l.contains k then(List.range ops.size).filter (dc md ops k)++l else l) l
 |[],_,_,h=>h
 |j::ks,l,k,h=>by
  rw[List.foldl_cons]
  refine AB ks _ k ?_
  split
  ·exact List.mem_append_right _ h
  ·exact h
abbrev Tt(md:Region.Mode)(ops:Array Oper)(i:Nat)(d:List Nat):List Nat:=(List.range ops.size).reverse.foldl (λ l k=>if l.contains k then(List.range ops.size).filter (dc md ops k)++l else l) ((List.range ops.size).filter (dc md ops i)++d)
theorem iW{d:List Nat}:k∈gz md ops i d↔(k<ops.size/\k∈Tt md ops i d)\/(k∈d/\ops.size<=k):=by
 unfold gz Tt
 simp only[List.contains_eq_mem,List.mem_append,List.mem_filter,List.mem_range,decide_eq_true_eq]
theorem uY{d d':List Nat}(h:∀k,k∈d->k∈d')(k:Nat)(hk:k∈gz md ops i d):k∈gz md ops i d':=by
 rcases iW.1 hk with⟨h1,h2⟩|⟨h1,h2⟩
 ·exact iW.2 (.inl ⟨h1,AA _ _ _ (λ m hm=>(List.mem_append.1 hm).elim (λ e=>List.mem_append_left _ e) (λ e=>List.mem_append_right _ (h m e))) k h2⟩)
 ·exact iW.2 (.inr ⟨h k h1,h2⟩)
theorem oV{d:List Nat}(k:Nat)(hk:k∈d):k∈gz md ops i d:=by
 by_cases h:k<ops.size
 ·exact iW.2 (.inl ⟨h,AB _ _ k (List.mem_append_right _ hk)⟩)
 ·exact iW.2 (.inr ⟨hk,ag⟩)
def qX(md:Region.Mode)(ops:Array Oper)(listed:Array Bool):Prop:=∀k,listed.getD k false=true->k<ops.size->∀m,dc md ops k m=true->m<ops.size->listed.getD m false=true
theorem uZ(hj:j∈Region.ready md ops listed)(hw:dc md ops j m=true):listed.getD m false=true:=by
 obtain⟨_,o,ho,fK⟩:=mem_ready.1 hj
 unfold dc at hw
 rw[ho]at hw
 obtain⟨x,hx,hb⟩:=Array.any_eq_true.1 hw
 simp only[Bool.and_eq_true,beq_iff_eq]at hb
 rw[<-hb.2]
 exact fK _ (Array.getElem_mem hx) hb.1
theorem qX.set(hc:qX md ops listed)(hj:j∈Region.ready md ops listed):qX md ops (listed.setIfInBounds j true):= λ k hk hn m hm Y0=>by
 by_cases XF:j=k
 ·subst XF;exact getD_set_true (uZ hj hm)
 ·rw[getD_set_ne false XF]at hk;exact getD_set_true (hc k hk hn m hm Y0)
theorem zR(hc:qX md ops listed)(hj:j∈Region.ready md ops listed)(hd:∀k∈dead,listed.getD k false=true):∀k∈gz md ops j dead,listed.getD k false=true:= λ k hk=>by
 rcases iW.1 hk with⟨h1,h2⟩|⟨h1,_⟩
 ·refine Ds (md:=md) (p:= λ k=>listed.getD k false=true) hc _ _ (λ m hm=>by simpa using hm) (λ m hm=>?_) k h2
  rcases List.mem_append.1 hm with e|e
  ·rw[List.mem_filter]at e;exact uZ hj e.2
  ·exact hd m e
 ·exact hd k h1
theorem xl(h:listed.getD i true=false):listed.getD i false=false:=by
 rcases Nat.lt_or_ge i listed.size with h'|h'
 ·simpa[h']using h
 ·simp[Array.getElem?_eq_none h']at h
theorem BU(h:sf md ops listed=true):qX md ops listed:= λ k hk hn m hm Y0=>by
 unfold sf at h
 have h1:=List.all_eq_true.1 h k (List.mem_range.2 hn)
 rw[hk]at h1
 have h2:=List.all_eq_true.1 ((Bool.or_eq_true _ _▸h1).resolve_left bd) m (List.mem_range.2 Y0)
 rw[hm]at h2
 simpa using h2
def nt(P:Program)(md:Region.Mode)(ops:Array Oper)(Q:Exit->Act->World->Prop):Nat->List Nat->iV->Array Bool->Act->World->Prop
 |0,_,_,listed,a,w=>Region.ready md ops listed=[]/\Q .normal a w
 |fuel+1,dead,ob,listed,a,w=>
  (Region.ready md ops listed=[]->Q .normal a w)/\
  ∀i∈Region.ready md ops listed,wpOp P ops Q i (λ a' w'=>qo (gz md ops i dead) ob w'/\nt P md ops Q fuel (gz md ops i dead) ob (listed.setIfInBounds i true) a' w') a w
theorem qY:∀(fuel:Nat) (dead:List Nat) (ob:iV) (listed:Array Bool) (a:Act) (w:World),nt P md ops Q fuel dead ob listed a w->wpAny P md ops Q fuel listed a w
 |0,_,_,_,_,_,h=>h
 |fuel+1,_,_,_,_,_,h=>⟨h.1, λ i hi=>wpOp_mono (λ a' w' h'=>qY fuel _ _ _ a' w' h'.2) (h.2 i hi)⟩
theorem u9:∀(fuel:Nat) {dead kI:List Nat} (_:∀k,k∈dead->k∈kI) (ob:iV) (listed:Array Bool) (a:Act) (w:World),nt P md ops Q fuel dead ob listed a w->nt P md ops Q fuel kI ob listed a w
 |0,_,_,_,_,_,_,_,h=>h
 |fuel+1,_,_,hd,ob,_,_,_,h=>⟨h.1, λ i hi=>wpOp_mono (λ _ w' h'=>⟨pT (uY hd) ob w' h'.1,u9 fuel (uY hd) ob _ _ _ h'.2⟩) (h.2 i hi)⟩
theorem vb:∀(fuel:Nat) (dead:List Nat) (p:Nat×(World->Prop)) (ob:iV) (listed:Array Bool) (a:Act) (w:World),nt P md ops Q fuel dead (p::ob) listed a w->nt P md ops Q fuel dead ob listed a w
 |0,_,_,_,_,_,_,h=>h
 |fuel+1,_,p,ob,_,_,_,h=>⟨h.1, λ i hi=>wpOp_mono (λ _ _ h'=>⟨h'.1.2,vb fuel _ p ob _ _ _ h'.2⟩) (h.2 i hi)⟩
theorem sg{S:World->Prop}(hi:ops[i]? =some oi)(MY:∀(j:Nat) (o:Oper) cs b,ops[j]? =some o->o.op≠.select cs b)
 (hQ:∀c a w,Q (.panic c) (a.put oi.dst v) w->Q (.panic c) a w):
 ∀(fuel:Nat) (dead:List Nat) (ob:iV) (listed:Array Bool) (a:Act) (w:World),
  (∀j oj,ops[j]? =some oj->j≠i->listed.getD j true=false->(∀e∈oj.after,Region.binds md e=true->e.on≠i)->oi.apart ops oj=true)->
  i∈Region.ready md ops listed->YieldsIf P ops S oi v a->S w->(∀k∈dead,listed.getD k false=true)->qX md ops listed->qo dead ob w->
  nt P md ops Q fuel dead ((i,S)::ob) (listed.setIfInBounds i true) (a.put oi.dst v) w->nt P md ops Q (fuel+1) dead ob listed a w:=by
 intro fuel
 induction fuel with
 |zero=>
  intro dead ob listed a w _ hr hy hS hd ng ho H
  refine⟨λ h=>(by rw[h]at hr;cases hr), λ j hj=>?_⟩
  by_cases gy:j=i
  ·subst gy;exact hy.wpOp hi hS ⟨pT oV ob w ho,H⟩
  ·have:=ready_mono hj gy
   rw[H.1]at this
   cases this
 |succ fuel ih=>
  intro dead ob listed a w Dr hr hy hS hd ng ho H
  refine⟨λ h=>(by rw[h]at hr;cases hr), λ j hj=>?_⟩
  by_cases gy:j=i
  ·subst gy;exact hy.wpOp hi hS ⟨pT oV ob w ho,u9 _ oV _ _ _ _ (vb _ _ _ _ _ _ _ H)⟩
  ·have h1:=H.2 j (ready_mono hj gy)
   obtain⟨MZ,oj,U3,fK⟩:=mem_ready.1 hj
   have Kb:∀e∈oj.after,Region.binds md e=true->e.on≠i:= λ e he hb heq=>by
    have h1:=fK e he hb
    have h0:=(mem_ready.1 hr).1
    rw[heq]at h1
    rcases Nat.lt_or_ge i listed.size with h'|h'
    ·simp[h']at h0 h1;rw[h0]at h1;cases h1
    ·simp[Array.getElem?_eq_none h']at h1
   have vT:=zR ng hj hd
   have hd':(gz md ops j dead).contains i=false:=by
    rw[List.contains_eq_mem,decide_eq_false_iff_not]
    intro h
    have:=vT i h
    rw[xl (mem_ready.1 hr).1]at this
    cases this
   have h2:=wpOp_putIf U3 (Dr j oj U3 gy MZ Kb) (λ cs b=>MY i oi cs b hi) (λ cs b=>MY j oj cs b U3) hQ hy h1
   have Gp:∀k ok,ops[k]? =some ok->k≠i->(listed.setIfInBounds j true).getD k true=false->
    (∀e∈ok.after,Region.binds md e=true->e.on≠i)->oi.apart ops ok=true:= λ k ok hk MW YZ km=>by
    refine Dr k ok hk MW ?_ km
    by_cases Q9:j=k
    ·subst Q9;exact MZ
    ·rw[getD_set_ne true Q9]at YZ;exact YZ
   refine wpOp_mono (λ a' w' h3=>?_) h2
   have hS':S w':=by have:=h3.2.1.1;rw[hd']at this;exact this
   refine⟨h3.2.1.2,ih _ _ (listed.setIfInBounds j true) a' w' Gp (ready_mono hr (Ne.symm gy)) h3.1 hS' (λ k hk=>getD_set_true (vT k hk)) (ng.set hj) h3.2.1.2 ?_⟩
   rw[Array.setIfInBounds_comm _ _ gy]
   exact h3.2.2
def vU(P:Program)(md:Region.Mode)(ops:Array Oper)(Q:Exit->Act->World->Prop)(fuel:Nat)(dead:List Nat)(ob:iV)(listed:Array Bool)(a:Act)(w:World):Prop:=qo dead ob w->nt P md ops Q fuel dead ob listed a w
def gh(P:Program)(md:Region.Mode)(ops:Array Oper)(Q:Exit->Act->World->Prop)(dead:List Nat):List (Nat×Bool)->Nat->iV->Array Bool->Act->World->Prop
 |[],fuel,ob,listed,a,w=>vU P md ops Q fuel dead ob listed a w
 |(i,true)::is,fuel,ob,listed,a,w=>match ops[i]? with
  |some o=>∃v,(Region.wanted o (yielded ops a.tmps)=true/\(execOp a.eval o).run P w= .ok (.value v) w)/\gh P md ops Q dead is (fuel - 1) ((i, λ w'=>(execOp a.eval o).run P w'= .ok (.value v) w')::ob) (listed.setIfInBounds i true) (a.put o.dst v) w
  |none=>False
 |(i,false)::is,fuel,ob,listed,a,w=>match ops[i]? with
  |some o=>Region.wanted o (yielded ops a.tmps)=false/\gh P md ops Q dead is (fuel - 1) ((i, λ _=>True)::ob) (listed.setIfInBounds i true) (a.put o.dst undef) w
  |none=>False
def kJ(md:Region.Mode)(ops:Array Oper)(dead:List Nat):List (Nat×Bool)->Nat->Array Bool->Bool
 |[],_,_=>true
 |(i,_)::is,fuel,listed=>Region.free md ops listed i&&(Region.ready md ops listed).contains i&&decide (1<=fuel)&&kJ md ops dead is (fuel - 1) (listed.setIfInBounds i true)
theorem tW(hn:Region.noSelect ops=true)(hQ:∀d v c a w,Q (.panic c) (Act.put a d v) w->Q (.panic c) a w){dead:List Nat}:∀(is:List (Nat×Bool)) (fuel:Nat) (ob:iV) (listed:Array Bool) (a:Act) (w:World),
 kJ md ops dead is fuel listed=true->(∀k∈dead,listed.getD k false=true)->qX md ops listed->gh P md ops Q dead is fuel ob listed a w->vU P md ops Q fuel dead ob listed a w
 |[],_,_,_,_,_,_,_,_,h=>h
 |(i,true)::is,fuel,ob,listed,a,w,ht,hd,ng,h=>by
  unfold kJ at ht
  simp only[Bool.and_eq_true,decide_eq_true_eq]at ht
  obtain⟨⟨⟨t1,t2⟩,t4⟩,t5⟩:=ht
  have wK:i∈Region.ready md ops listed:=by simpa using t2
  have t3:dead.contains i=false:=by
   rw[List.contains_eq_mem,decide_eq_false_iff_not]
   intro h
   have:=hd i h
   rw[xl (mem_ready.1 wK).1]at this
   cases this
  unfold gh at h
  cases ho:ops[i]? with
  |none=>rw[ho]at h;exact h.elim
  |some o=>
   rw[ho]at h
   obtain⟨v,⟨h1,h2⟩,h3⟩:=h
   obtain⟨f,rfl⟩:∃f,fuel=f+1:=⟨fuel - 1,ag⟩
   intro hO
   refine sg ho (Region.noSelect_spec hn) (hQ _ _) f dead ob listed a w (Region.free_spec ho t1) (by simpa using t2) (S:= λ w'=>(execOp a.eval o).run P w'= .ok (.value v) w') (Or.inl ⟨h1, λ _ h=>h⟩) h2 hd ng hO ?_
   exact tW hn hQ is _ _ _ _ _ t5 (λ k hk=>getD_set_true (hd k hk)) (ng.set wK) h3 ⟨(by rw[show dead.contains i=false from t3];exact h2),hO⟩
 |(i,false)::is,fuel,ob,listed,a,w,ht,hd,ng,h=>by
  unfold kJ at ht
  simp only[Bool.and_eq_true,decide_eq_true_eq]at ht
  obtain⟨⟨⟨t1,t2⟩,t4⟩,t5⟩:=ht
  have wK:i∈Region.ready md ops listed:=by simpa using t2
  have t3:dead.contains i=false:=by
   rw[List.contains_eq_mem,decide_eq_false_iff_not]
   intro h
   have:=hd i h
   rw[xl (mem_ready.1 wK).1]at this
   cases this
  unfold gh at h
  cases ho:ops[i]? with
  |none=>rw[ho]at h;exact h.elim
  |some o=>
   rw[ho]at h
   obtain⟨h1,h3⟩:=h
   obtain⟨f,rfl⟩:∃f,fuel=f+1:=⟨fuel - 1,ag⟩
   intro hO
   refine sg ho (Region.noSelect_spec hn) (hQ _ _) f dead ob listed a w (Region.free_spec ho t1) (by simpa using t2) (S:= λ _=>True) (Or.inr ⟨h1,rfl⟩) trivial hd ng hO ?_
   exact tW hn hQ is _ _ _ _ _ t5 (λ k hk=>getD_set_true (hd k hk)) (ng.set wK) h3 ⟨(by rw[show dead.contains i=false from t3];trivial),hO⟩
theorem M0(is:List (Nat×Bool)){ob:iV}
 (hs:(Region.noSelect ops&&kJ md ops dead is fuel listed&&dead.all (listed.getD · false)&&sf md ops listed)=true)(hQ:∀d v c a w,Q (.panic c) (Act.put a d v) w->Q (.panic c) a w)
 (h:gh P md ops Q dead is fuel ob listed a w):vU P md ops Q fuel dead ob listed a w:=by
 simp only[Bool.and_eq_true]at hs
 exact tW hs.1.1.1 hQ is fuel ob listed a w hs.1.1.2 (λ k hk=>List.all_eq_true.1 hs.1.2 k hk) (BU hs.2) h
theorem sh{is:List (Nat×Bool)}{ob:iV}(ho:ops[i]? =some o)(hw:Region.wanted o (yielded ops a.tmps)=true)(v:Value)(hv:(execOp a.eval o).run P w= .ok (.value v) w)
 (h:gh P md ops Q dead is (fuel - 1) ((i, λ w'=>(execOp a.eval o).run P w'= .ok (.value v) w')::ob) (listed.setIfInBounds i true) (a.put o.dst v) w):gh P md ops Q dead ((i,true)::is) fuel ob listed a w:=by
 unfold gh;rw[ho];exact⟨v,⟨hw,hv⟩,h⟩
theorem Kc{is:List (Nat×Bool)}{ob:iV}(ho:ops[i]? =some o)(hw:Region.wanted o (yielded ops a.tmps)=false)
 (h:gh P md ops Q dead is (fuel - 1) ((i, λ _=>True)::ob) (listed.setIfInBounds i true) (a.put o.dst undef) w):gh P md ops Q dead ((i,false)::is) fuel ob listed a w:=by
 unfold gh;rw[ho];exact⟨hw,h⟩
theorem ah(f:Nat)(hf:fuel=f){ob:iV}(h:vU P md ops Q f dead ob listed a w):gh P md ops Q dead [] fuel ob listed a w:=by subst hf;exact h
theorem Y1(i:Nat)(kI:List Nat){ob:iV}(hr:Region.ready md ops listed=[i])(hd:gz md ops i dead=kI)(ho:ops[i]? =some o)
 (h:∀K':Act->World->Prop,Shut (∀a w,qo kI ob w->vU P md ops Q fuel kI ob (listed.setIfInBounds i true) a w->K' a w)->if Region.wanted o (yielded ops a.tmps)=true then Oper.wp P o a w K' Q else K' (a.put o.dst undef) w):
 vU P md ops Q (fuel+1) dead ob listed a w:= λ _=>
 ⟨(λ h0=>by rw[hr]at h0;cases h0), λ j hj=>by
   rw[hr,List.mem_singleton]at hj
   subst hj
   rw[hd]
   exact wpOp_step ho (λ K' hK=>h K' (λ a w hS hW=>hK a w ⟨hS,hW hS⟩))⟩
theorem U5(i j:Nat)(di dj:List Nat){ob:iV}(hr:Region.ready md ops listed=[i,j])(hdi:gz md ops i dead=di)(hdj:gz md ops j dead=dj)(ho:ops[i]? =some o)(hu:ops[j]? =some u)
 (h:∀K':Act->World->Prop,Shut (∀a w,qo di ob w->vU P md ops Q fuel di ob (listed.setIfInBounds i true) a w->K' a w)->if Region.wanted o (yielded ops a.tmps)=true then Oper.wp P o a w K' Q else K' (a.put o.dst undef) w)
 (h':∀K':Act->World->Prop,Shut (∀a w,qo dj ob w->vU P md ops Q fuel dj ob (listed.setIfInBounds j true) a w->K' a w)->if Region.wanted u (yielded ops a.tmps)=true then Oper.wp P u a w K' Q else K' (a.put u.dst undef) w):
 vU P md ops Q (fuel+1) dead ob listed a w:= λ _=>
 ⟨(λ h0=>by rw[hr]at h0;cases h0), λ m hm=>by
   rw[hr]at hm
   simp only[List.mem_cons,List.not_mem_nil,or_false]at hm
   rcases hm with rfl|rfl
   ·rw[hdi];exact wpOp_step ho (λ K' hK=>h K' (λ a w hS hW=>hK a w ⟨hS,hW hS⟩))
   ·rw[hdj];exact wpOp_step hu (λ K' hK=>h' K' (λ a w hS hW=>hK a w ⟨hS,hW hS⟩))⟩
theorem Y2{ob:iV}(hr:Region.ready md ops listed=[])(h:Q .normal a w):∀fuel,vU P md ops Q fuel dead ob listed a w
 |0=> λ _=>⟨hr,h⟩
 |_+1=> λ _=>⟨λ _=>h,by rw[hr];simp⟩
theorem U6(m:Nat)(hm:P.follows .mixedOrders=true)(hs:ops.size=m)(h:vU P .any ops Q m [] [] (Array.replicate m false) a w.drew):(Code.region id ops true).wp P Q a w:=
 wp_region_any hm (by subst hs;exact qY _ _ _ _ _ _ (h trivial))
end
section
variable {P : Program} {Q : Exit -> Act -> World -> Prop}
theorem Dt(m:Nat){l:Nat}(hm:P.follows .mixedOrders=true)(hd:Az ops=true)(hQ:¬ LetsOut Q)(hs:ops.size=m)
 (h:vU P .any ops Q m [] [] (Array.replicate m false) a w.drew):(Code.region id ops true).wpIn (Fence.wide.inRound l) n P Q a w:=
 wpIn_region_draw λ t=>by
  refine IX l n hQ (xk hd) _ _ _ ?_
  simp only[Region.schedule,hm,Bool.true_or,if_true]
  subst hs
  exact wpAny_sound ops.size t _ a _ (qY _ _ _ _ _ _ (h trivial))
end
section
variable {P : Program} {ops : Array Oper} {Q : Exit -> Act -> World -> Prop} {md : Region.Mode}
theorem Tu(is:List (Nat×Bool)){ob:iV}(h:gh P md ops Q dead is fuel ob listed a w)
 (hs:(Region.noSelect ops&&kJ md ops dead is fuel listed&&dead.all (listed.getD · false)&&sf md ops listed)=true:=by kernel_rfl)(hQ:∀d v c a w,Q (.panic c) (Act.put a d v) w->Q (.panic c) a w:=by intro d v c a w h;cases d<;>exact h):vU P md ops Q fuel dead ob listed a w:=M0 is hs hQ h
theorem tP(is:List Nat){ob:iV}(h:gh P md ops Q dead (is.map λ i=>(i,true)) fuel ob listed a w)
 (hs:(Region.noSelect ops&&kJ md ops dead (is.map λ i=>(i,true)) fuel listed&&dead.all (listed.getD · false)&&sf md ops listed)=true:=by kernel_rfl)(hQ:∀d v c a w,Q (.panic c) (Act.put a d v) w->Q (.panic c) a w:=by intro d v c a w h;cases d<;>exact h):vU P md ops Q fuel dead ob listed a w:=M0 _ hs hQ h
theorem tO{is:List (Nat×Bool)}{ob:iV}(hq:q)(ho:ops[i]? =some o:=by exact rfl)(hw:Region.wanted o (yielded ops a.tmps)=true:=by kernel_rfl)(hv:(execOp a.eval o).run P w= .ok (.value v) w:=by go_simp<;>with_reducible rfl)
 (h:q->gh P md ops Q dead is (fuel - 1) ((i, λ w'=>(execOp a.eval o).run P w'= .ok (.value v) w')::ob) (listed.setIfInBounds i true) (a.put o.dst v) w:=by intro h;(try simp only[Act.put,List.setIfInBounds_toArray,List.set_cons_zero,List.set_cons_succ,List.getElem_toArray,List.getElem_cons_zero,List.getElem_cons_succ]);exact h):gh P md ops Q dead ((i,true)::is) fuel ob listed a w:=sh ho hw v hv (h hq)
theorem tF{is:List (Nat×Bool)}{ob:iV}(hq:q)(ho:ops[i]? =some o:=by exact rfl)(hw:Region.wanted o (yielded ops a.tmps)=false:=by kernel_rfl)
 (h:q->gh P md ops Q dead is (fuel - 1) ((i, λ _=>True)::ob) (listed.setIfInBounds i true) (a.put o.dst undef) w:=by intro h;(try simp only[Act.put,List.setIfInBounds_toArray,List.set_cons_zero,List.set_cons_succ,List.getElem_toArray,List.getElem_cons_zero,List.getElem_cons_succ]);exact h):gh P md ops Q dead ((i,false)::is) fuel ob listed a w:=Kc ho hw (h hq)
theorem sP(i:Nat)(kI:List Nat){ob:iV}
 (h:∀K':Act->World->Prop,Shut (∀a w,qo kI ob w->vU P md ops Q fuel kI ob (listed.setIfInBounds i true) a w->K' a w)->if Region.wanted o (yielded ops a.tmps)=true then Oper.wp P o a w K' Q else K' (a.put o.dst undef) w)
 (hr:Region.ready md ops listed=[i]:=by kernel_rfl)(hd:gz md ops i dead=kI:=by kernel_rfl)(ho:ops[i]? =some o:=by exact rfl):vU P md ops Q (fuel+1) dead ob listed a w:=Y1 i kI hr hd ho h
theorem Gr(i j:Nat)(di dj:List Nat){ob:iV}
 (h:∀K':Act->World->Prop,Shut (∀a w,qo di ob w->vU P md ops Q fuel di ob (listed.setIfInBounds i true) a w->K' a w)->if Region.wanted o (yielded ops a.tmps)=true then Oper.wp P o a w K' Q else K' (a.put o.dst undef) w)
 (h':∀K':Act->World->Prop,Shut (∀a w,qo dj ob w->vU P md ops Q fuel dj ob (listed.setIfInBounds j true) a w->K' a w)->if Region.wanted u (yielded ops a.tmps)=true then Oper.wp P u a w K' Q else K' (a.put u.dst undef) w)
 (hr:Region.ready md ops listed=[i,j]:=by kernel_rfl)(hdi:gz md ops i dead=di:=by kernel_rfl)(hdj:gz md ops j dead=dj:=by kernel_rfl)(ho:ops[i]? =some o:=by exact rfl)(hu:ops[j]? =some u:=by exact rfl):
 vU P md ops Q (fuel+1) dead ob listed a w:=U5 i j di dj hr hdi hdj ho hu h h'
theorem nP{K':Act->World->Prop}{ob:iV}(hK:Shut (∀a w,qo dead ob w->vU P md ops Q fuel dead ob listed a w->K' a w))(h:vU P md ops Q fuel dead ob listed a w)(ho:qo dead ob w:=by(repeat(refine⟨?_,?_⟩;·(first|exact trivial|((try dsimp only);go_simp))));exact trivial):K' a w:=hK.out a w ho h
theorem dP{ob:iV}(h:Q .normal a w)(hr:Region.ready md ops listed=[]:=by kernel_rfl):vU P md ops Q fuel dead ob listed a w:=Y2 hr h fuel
theorem bP(m:Nat)(h:vU P .any ops Q m [] [] (Array.replicate m false) a w.drew)(hm:P.follows .mixedOrders=true:=by kernel_rfl)(hs:ops.size=m:=by exact rfl):(Code.region id ops true).wp P Q a w:=U6 m hm hs h
end
end Go.Proofs.YtkgapncajjafoaaGreatDoor

/- The store, part 22. -/
import Derived.Test.YtkgapncajjafoaaGreatDoorMAa
import Derived.Test.YtkgapncajjafoaaGreatDoorMAs
set_option maxRecDepth 100000
set_option maxHeartbeats 16000000
namespace Go.Proofs.YtkgapncajjafoaaGreatDoor
open Go.RowKit Go.Shelf
theorem ad6{V:World}{B k cf a1 d1 c1 a2 d2 c2 q L lc:Nat}{b la:Option Addr}(h:V.heap[B]? =some (.cells (uR b k cf a1 d1 c1 a2 d2 c2 q la L lc) 46)):
 V.rangeAt B 0 (cK b k cf)/\V.rangeAt B 5 (cw a1 d1 c1 a2 d2 c2 q)/\V.cell? (za B 21)=some (.int .u64 (q:Int))/\V.cell? (za B 22)=some (.slice la L lc):=
 ⟨bp (o:=0) [] (cK b k cf) (uW a1 d1 c1 a2 d2 c2 q la L lc) (aj h),
  bp (o:=0) (cK b k cf) (cw a1 d1 c1 a2 d2 c2 q) [.slice la L lc] (aj h),
  (aa h 21).T rfl,(aa h 22).T rfl⟩
end Go.Proofs.YtkgapncajjafoaaGreatDoor

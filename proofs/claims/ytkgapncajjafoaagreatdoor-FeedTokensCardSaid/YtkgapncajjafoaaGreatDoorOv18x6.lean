/- Part of the law's 'wakes', evaluated by the kernel: one call, with what it is given and what it gives. Printed by a program. -/
import Derived.Test.YtkgapncajjafoaaGreatDoorOrc
set_option linter.all false
set_option maxRecDepth 100000
namespace Go.Proofs.YtkgapncajjafoaaGreatDoor
open Go Go.Eng

/-- A call of function 18, evaluated: what it is given, and what it gives. -/
def ov18_6 : Ov := ⟨18, 6, [.agg ⟨[.slice none 0 0, .slice none 0 0, .int .i64 (-1), .int .i64 (-1), .bool false, .int .i64 (.ofNat 0), .int .i64 (.ofNat 0), .int .i64 (.ofNat 0), .int .i64 (.ofNat 0), .int .i64 (.ofNat 0), .int .u64 (.ofNat 0), .int .i64 (.ofNat 0), .int .i64 (.ofNat 0), .int .i64 (.ofNat 0), .int .i64 (.ofNat 0), .int .i64 (.ofNat 0), .int .i64 (.ofNat 0), .int .i64 (.ofNat 0), .int .u64 (.ofNat 0), .int .i64 (.ofNat 0), .int .i64 (.ofNat 0), .int .u64 (.ofNat 0), .slice none 0 0]⟩, .agg ⟨[.string ⟨⟨[97]⟩⟩, .bool false, .bool true, .int .i64 (.ofNat 0)]⟩],
 [(0, .obj (.cells [.int .i64 (.ofNat 0), .int .i64 (.ofNat 0)] 380 2 true true))],
 .tuple ⟨[.agg ⟨[.slice none 0 0, .slice (some ⟨598, 0, some 3⟩) 3 0, .int .i64 (-1), .int .i64 (-1), .bool false, .int .i64 (.ofNat 8), .int .i64 (.ofNat 0), .int .i64 (.ofNat 1), .int .i64 (.ofNat 0), .int .i64 (.ofNat 0), .int .u64 (.ofNat 0), .int .i64 (.ofNat 0), .int .i64 (.ofNat 0), .int .i64 (.ofNat 49), .int .i64 (.ofNat 0), .int .i64 (.ofNat 1), .int .i64 (.ofNat 0), .int .i64 (.ofNat 0), .int .u64 (.ofNat 0), .int .i64 (.ofNat 0), .int .i64 (.ofNat 0), .int .u64 (.ofNat 1), .slice (some ⟨653, 0, some 5⟩) 1 0]⟩, .bool true]⟩,
 [(0, .obj (.cells [.int .i64 (.ofNat 0), .int .i64 (.ofNat 0)] 380 2 true true)),
 (222, .bytes 3477664511970836480 8 5 8 false false),
 (393, .bytes 452312848583677764512654461703675118284163029716422329040169907716564722432 41 5 41 false false),
 (596, .bytes 553794492627396896234003138636222653839527319040 29 5 29 false false),
 (598, .obj (.cells [.slice (some ⟨222, 0, some 8⟩) 8 0, .slice (some ⟨393, 0, some 41⟩) 41 0, .slice (some ⟨596, 0, some 29⟩) 29 0] 34 3 false false)),
 (653, .obj (.cells [.int .u64 (.ofNat 1), .string ⟨⟨[97]⟩⟩, .int .u32 (.ofNat 1), .int .u32 (.ofNat 1972453252), .bool false] 56 5 false false))],
 654⟩
theorem ov18_6_run : ov18_6.run (callC E0 60 200) = some () := by kernel_rfl
theorem ov18_6_closed : ov18_6.closed = true := by kernel_rfl
end Go.Proofs.YtkgapncajjafoaaGreatDoor

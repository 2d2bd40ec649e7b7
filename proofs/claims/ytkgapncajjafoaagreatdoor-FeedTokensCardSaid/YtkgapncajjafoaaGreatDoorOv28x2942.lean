/- Part of the law's 'wakes', evaluated by the kernel: one call, with what it is given and what it gives. Printed by a program. -/
import Derived.Test.YtkgapncajjafoaaGreatDoorOrc
set_option linter.all false
set_option maxRecDepth 100000
namespace Go.Proofs.YtkgapncajjafoaaGreatDoor
open Go Go.Eng

/-- A call of function 28, evaluated: what it is given, and what it gives. -/
def ov28_2942 : Ov := ⟨28, 2942, [.agg ⟨[.slice none 0 0, .slice (some ⟨2836, 0, some 6⟩) 6 0, .int .i64 (-1), .int .i64 (-1), .bool false]⟩, .agg ⟨[.int .i64 (.ofNat 85), .int .i64 (.ofNat 0), .int .i64 (.ofNat 2), .int .i64 (.ofNat 0), .int .i64 (.ofNat 0), .int .u64 (.ofNat 0), .int .i64 (.ofNat 0), .int .i64 (.ofNat 0), .int .i64 (.ofNat 160), .int .i64 (.ofNat 0), .int .i64 (.ofNat 2), .int .i64 (.ofNat 0), .int .i64 (.ofNat 0), .int .u64 (.ofNat 0), .int .i64 (.ofNat 0), .int .i64 (.ofNat 0), .int .u64 (.ofNat 2)]⟩],
 [(0, .obj (.cells [.int .i64 (.ofNat 0), .int .i64 (.ofNat 0)] 380 2 true true)),
 (222, .bytes 3477664511970836480 8 5 8 false false),
 (393, .bytes 452312848583677764512654461703675118284163029716422329040169907716564722432 41 5 41 false false),
 (596, .bytes 553794492627396896234003138636222653839527319040 29 5 29 false false),
 (1765, .bytes 13584626999886080 7 5 7 false false),
 (2276, .bytes 267727108745100022381394763148659479093397397518720467258979254867174838400681118377335848555370830058161265869024337374632286810624394486557277290911181325312 75 5 75 false false),
 (2834, .bytes 817715384393591784504985325795436843431399898249842285673287244417412397629092163787641316059648 49 5 49 false false),
 (2836, .obj (.cells [.slice (some ⟨222, 0, some 8⟩) 8 0, .slice (some ⟨393, 0, some 41⟩) 41 0, .slice (some ⟨596, 0, some 29⟩) 29 0, .slice (some ⟨1765, 0, some 7⟩) 7 0, .slice (some ⟨2276, 0, some 75⟩) 75 0, .slice (some ⟨2834, 0, some 49⟩) 49 0] 34 6 false false))],
 .int .i64 (.ofNat 0),
 [(0, .obj (.cells [.int .i64 (.ofNat 0), .int .i64 (.ofNat 0)] 380 2 true true)),
 (222, .bytes 3477664511970836480 8 5 8 false false),
 (393, .bytes 452312848583677764512654461703675118284163029716422329040169907716564722432 41 5 41 false false),
 (596, .bytes 553794492627396896234003138636222653839527319040 29 5 29 false false),
 (1765, .bytes 13584626999886080 7 5 7 false false),
 (2276, .bytes 267727108745100022381394763148659479093397397518720467258979254867174838400681118377335848555370830058161265869024337374632286810624394486557277290911181325312 75 5 75 false false),
 (2834, .bytes 817715384393591784504985325795436843431399898249842285673287244417412397629092163787641316059648 49 5 49 false false),
 (2836, .obj (.cells [.slice (some ⟨222, 0, some 8⟩) 8 0, .slice (some ⟨393, 0, some 41⟩) 41 0, .slice (some ⟨596, 0, some 29⟩) 29 0, .slice (some ⟨1765, 0, some 7⟩) 7 0, .slice (some ⟨2276, 0, some 75⟩) 75 0, .slice (some ⟨2834, 0, some 49⟩) 49 0] 34 6 false false))],
 4188⟩
theorem ov28_2942_run : ov28_2942.run (callC E0 60 200) = some () := by kernel_rfl
theorem ov28_2942_closed : ov28_2942.closed = true := by kernel_rfl
end Go.Proofs.YtkgapncajjafoaaGreatDoor

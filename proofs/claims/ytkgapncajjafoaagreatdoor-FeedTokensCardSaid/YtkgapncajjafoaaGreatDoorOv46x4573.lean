/- Part of the law's 'wakes', evaluated by the kernel: one call, with what it is given and what it gives. Printed by a program. -/
import Derived.Test.YtkgapncajjafoaaGreatDoorOrc
set_option linter.all false
set_option maxRecDepth 100000
namespace Go.Proofs.YtkgapncajjafoaaGreatDoor
open Go Go.Eng

/-- A call of function 46, evaluated: what it is given, and what it gives. -/
def ov46_4573 : Ov := ⟨46, 4573, [.pointer (some ⟨4189, 0, some 37⟩), .agg ⟨[.int .i64 (.ofNat 85), .int .i64 (.ofNat 0), .int .i64 (.ofNat 2), .int .i64 (.ofNat 0), .int .i64 (.ofNat 0), .int .u64 (.ofNat 0), .int .i64 (.ofNat 0), .int .i64 (.ofNat 0), .int .i64 (.ofNat 160), .int .i64 (.ofNat 0), .int .i64 (.ofNat 2), .int .i64 (.ofNat 0), .int .i64 (.ofNat 0), .int .u64 (.ofNat 0), .int .i64 (.ofNat 0), .int .i64 (.ofNat 0), .int .u64 (.ofNat 2)]⟩],
 [(0, .obj (.cells [.int .i64 (.ofNat 0), .int .i64 (.ofNat 0)] 380 2 true true)),
 (222, .bytes 3477664511970836480 8 5 8 false false),
 (393, .bytes 452312848583677764512654461703675118284163029716422329040169907716564722432 41 5 41 false false),
 (596, .bytes 553794492627396896234003138636222653839527319040 29 5 29 false false),
 (1765, .bytes 13584626999886080 7 5 7 false false),
 (2276, .bytes 267727108745100022381394763148659479093397397518720467258979254867174838400681118377335848555370830058161265869024337374632286810624394486557277290911181325312 75 5 75 false false),
 (2834, .bytes 817715384393591784504985325795436843431399898249842285673287244417412397629092163787641316059648 49 5 49 false false),
 (2836, .obj (.cells [.slice (some ⟨222, 0, some 8⟩) 8 0, .slice (some ⟨393, 0, some 41⟩) 41 0, .slice (some ⟨596, 0, some 29⟩) 29 0, .slice (some ⟨1765, 0, some 7⟩) 7 0, .slice (some ⟨2276, 0, some 75⟩) 75 0, .slice (some ⟨2834, 0, some 49⟩) 49 0] 34 6 false false)),
 (4188, .obj (.cells [.slice none 0 0, .slice (some ⟨2836, 0, some 6⟩) 6 0, .int .i64 (-1), .int .i64 (-1), .bool false, .int .i64 (.ofNat 85), .int .i64 (.ofNat 0), .int .i64 (.ofNat 2), .int .i64 (.ofNat 0), .int .i64 (.ofNat 0), .int .u64 (.ofNat 0), .int .i64 (.ofNat 0), .int .i64 (.ofNat 0), .int .i64 (.ofNat 160), .int .i64 (.ofNat 0), .int .i64 (.ofNat 2), .int .i64 (.ofNat 0), .int .i64 (.ofNat 0), .int .u64 (.ofNat 0), .int .i64 (.ofNat 0), .int .i64 (.ofNat 0), .int .u64 (.ofNat 2)] 97 22 false true)),
 (4189, .obj (.cells [.pointer (some ⟨4188, 0, some 22⟩), .string ⟨⟨[97]⟩⟩, .string ⟨⟨[97]⟩⟩, .int .u32 (.ofNat 1), .int .u32 (.ofNat 1972453252), .int .u64 (.ofNat 1), .bool false, .int .i64 (.ofNat 1), .int .i64 (.ofNat 3), .int .i64 (.ofNat 0), .string ⟨⟨[]⟩⟩, .slice none 0 0, .slice none 0 0, .bool true, .string ⟨⟨[]⟩⟩, .int .u32 (.ofNat 2), .int .u32 (.ofNat 795851815), .int .u64 (.ofNat 3), .bool true, .int .i64 (.ofNat 0), .int .i64 (.ofNat 0), .int .i64 (.ofNat 0), .int .i64 (.ofNat 0), .int .i64 (.ofNat 0), .int .i64 (.ofNat 0), .int .u64 (.ofNat 0), .int .i64 (.ofNat 0), .int .i64 (.ofNat 0), .int .i64 (.ofNat 0), .int .i64 (.ofNat 0), .int .i64 (.ofNat 0), .int .i64 (.ofNat 0), .int .i64 (.ofNat 0), .int .u64 (.ofNat 0), .int .i64 (.ofNat 0), .int .i64 (.ofNat 0), .bool true] 124 37 false true))],
 .tuple ⟨[.agg ⟨[.slice none 0 0, .slice (some ⟨5950, 0, some 8⟩) 8 0, .int .i64 (-1), .int .i64 (-1), .bool false]⟩, .agg ⟨[.int .i64 (.ofNat 209), .int .i64 (.ofNat 0), .int .i64 (.ofNat 2), .int .i64 (.ofNat 0), .int .i64 (.ofNat 0), .int .u64 (.ofNat 0), .int .i64 (.ofNat 0), .int .i64 (.ofNat 0), .int .i64 (.ofNat 284), .int .i64 (.ofNat 0), .int .i64 (.ofNat 2), .int .i64 (.ofNat 0), .int .i64 (.ofNat 0), .int .u64 (.ofNat 0), .int .i64 (.ofNat 0), .int .i64 (.ofNat 0), .int .u64 (.ofNat 3)]⟩, .agg ⟨[.int .u32 (.ofNat 2), .int .u32 (.ofNat 795851815)]⟩, .int .i64 (.ofNat 0)]⟩,
 [(0, .obj (.cells [.int .i64 (.ofNat 0), .int .i64 (.ofNat 0)] 380 2 true true)),
 (222, .bytes 3477664511970836480 8 5 8 false false),
 (393, .bytes 452312848583677764512654461703675118284163029716422329040169907716564722432 41 5 41 false false),
 (596, .bytes 553794492627396896234003138636222653839527319040 29 5 29 false false),
 (1765, .bytes 13584626999886080 7 5 7 false false),
 (2276, .bytes 267727108745100022381394763148659479093397397518720467258979254867174838400681118377335848555370830058161265869024337374632286810624394486557277290911181325312 75 5 75 false false),
 (2834, .bytes 817715384393591784504985325795436843431399898249842285673287244417412397629092163787641316059648 49 5 49 false false),
 (2836, .obj (.cells [.slice (some ⟨222, 0, some 8⟩) 8 0, .slice (some ⟨393, 0, some 41⟩) 41 0, .slice (some ⟨596, 0, some 29⟩) 29 0, .slice (some ⟨1765, 0, some 7⟩) 7 0, .slice (some ⟨2276, 0, some 75⟩) 75 0, .slice (some ⟨2834, 0, some 49⟩) 49 0] 34 6 false false)),
 (4188, .obj (.cells [.slice none 0 0, .slice (some ⟨5950, 0, some 8⟩) 8 0, .int .i64 (-1), .int .i64 (-1), .bool false, .int .i64 (.ofNat 85), .int .i64 (.ofNat 0), .int .i64 (.ofNat 2), .int .i64 (.ofNat 0), .int .i64 (.ofNat 0), .int .u64 (.ofNat 0), .int .i64 (.ofNat 0), .int .i64 (.ofNat 0), .int .i64 (.ofNat 160), .int .i64 (.ofNat 0), .int .i64 (.ofNat 2), .int .i64 (.ofNat 0), .int .i64 (.ofNat 0), .int .u64 (.ofNat 0), .int .i64 (.ofNat 0), .int .i64 (.ofNat 0), .int .u64 (.ofNat 2)] 97 22 false true)),
 (4189, .obj (.cells [.pointer (some ⟨4188, 0, some 22⟩), .string ⟨⟨[97]⟩⟩, .string ⟨⟨[97]⟩⟩, .int .u32 (.ofNat 1), .int .u32 (.ofNat 1972453252), .int .u64 (.ofNat 1), .bool false, .int .i64 (.ofNat 1), .int .i64 (.ofNat 3), .int .i64 (.ofNat 0), .string ⟨⟨[]⟩⟩, .slice none 0 0, .slice none 0 0, .bool true, .string ⟨⟨[]⟩⟩, .int .u32 (.ofNat 2), .int .u32 (.ofNat 795851815), .int .u64 (.ofNat 3), .bool true, .int .i64 (.ofNat 0), .int .i64 (.ofNat 209), .int .i64 (.ofNat 0), .int .i64 (.ofNat 2), .int .i64 (.ofNat 0), .int .i64 (.ofNat 0), .int .u64 (.ofNat 0), .int .i64 (.ofNat 0), .int .i64 (.ofNat 0), .int .i64 (.ofNat 284), .int .i64 (.ofNat 0), .int .i64 (.ofNat 2), .int .i64 (.ofNat 0), .int .i64 (.ofNat 0), .int .u64 (.ofNat 0), .int .i64 (.ofNat 0), .int .i64 (.ofNat 0), .bool true] 124 37 false true)),
 (5258, .bytes 267727108745100022381394763148659479093397397518720275357649745072910077839026519272577786244307495648963009267484912077237514203764496935185595480344252335104 75 5 75 false false),
 (5948, .bytes 809371812349274250401010164033567556069868149426161237212782758793179016473274419119676102945280 49 5 49 false false),
 (5950, .obj (.cells [.slice (some ⟨222, 0, some 8⟩) 8 0, .slice (some ⟨393, 0, some 41⟩) 41 0, .slice (some ⟨596, 0, some 29⟩) 29 0, .slice (some ⟨1765, 0, some 7⟩) 7 0, .slice (some ⟨2276, 0, some 75⟩) 75 0, .slice (some ⟨2834, 0, some 49⟩) 49 0, .slice (some ⟨5258, 0, some 75⟩) 75 0, .slice (some ⟨5948, 0, some 49⟩) 49 0] 34 8 false false))],
 6036⟩
theorem ov46_4573_run : ov46_4573.run (callC E0 60 200) = some () := by kernel_rfl
theorem ov46_4573_closed : ov46_4573.closed = true := by kernel_rfl
end Go.Proofs.YtkgapncajjafoaaGreatDoor

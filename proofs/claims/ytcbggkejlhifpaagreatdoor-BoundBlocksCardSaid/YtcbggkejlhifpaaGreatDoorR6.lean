/- Records of calls, each checked by one computation. -/
import Derived.Test.YtcbggkejlhifpaaGreatDoorRb
import Derived.Test.YtcbggkejlhifpaaGreatDoorR1
import Derived.Test.YtcbggkejlhifpaaGreatDoorR2
import Derived.Test.YtcbggkejlhifpaaGreatDoorR4
namespace Go.Proofs.YtcbggkejlhifpaaGreatDoor
set_option maxRecDepth 100000
open Go.Ev Go.RowKit
noncomputable def r6 : Rec := ⟨19, [.agg 10 [.int .i64 (.ofNat 8), .int .u32 (.ofNat 1), .int .i64 (.ofNat 4), .int .i64 (.ofNat 4), .int .i64 (.ofNat 4), .int .i64 (.ofNat 4), .int .i64 (.ofNat 4), .int .i64 (.ofNat 1)] (T.put .leaf 1 (some (.int .i64 (.ofNat 1)))), .slice 1608 0 17 (.atl 17 6), .int .i64 (.ofNat 2)], [(1608, .cells (some 36) 102 [] b0), (0, .ro (some 0) 4 [.int .u8 (.ofNat 0), .int .u8 (.ofNat 111), .int .u8 (.ofNat 108), .int .u8 (.ofNat 102)] .leaf)], 1610, .tuple [.int .i64 (.ofNat 15), .bool true, .int .i64 (.ofNat 0)], [], 14890⟩
noncomputable def t6 : T Rec := (T.put (T.put (T.put (T.put (T.put .leaf r0.n0 (some r0)) r2.n0 (some r2)) r3.n0 (some r3)) r4.n0 (some r4)) r5.n0 (some r5))
theorem t6_ok : TabOk P t6 := (((((TabOk.leaf.put r0_snd).put r2_snd).put r3_snd).put r4_snd).put r5_snd)
theorem r6_ok : r6.ok (evT (GR t6) 100000 r6.f r6.args r6.start) = true := by kernel_rfl
theorem r6_snd : Snd P r6 := snd_of t6_ok r6_ok
end Go.Proofs.YtcbggkejlhifpaaGreatDoor

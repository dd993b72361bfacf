/- Records of calls, each checked by one computation. -/
import Derived.Test.YtcbggkejlhifpaaGreatDoorRb
import Derived.Test.YtcbggkejlhifpaaGreatDoorR3
import Derived.Test.YtcbggkejlhifpaaGreatDoorR5
namespace Go.Proofs.YtcbggkejlhifpaaGreatDoor
set_option maxRecDepth 100000
open Go.Ev Go.RowKit
noncomputable def r10 : Rec := ⟨19, [.agg 10 [.int .i64 (.ofNat 8), .int .u32 (.ofNat 1), .int .i64 (.ofNat 4), .int .i64 (.ofNat 4), .int .i64 (.ofNat 4), .int .i64 (.ofNat 4), .int .i64 (.ofNat 4), .int .i64 (.ofNat 1)] (T.put .leaf 1 (some (.int .i64 (.ofNat 1)))), .slice 1608 0 12 (.atl 17 6), .int .i64 (.ofNat 2)], [(1608, .cells (some 36) 102 [] b0), (0, .ro (some 0) 4 [.int .u8 (.ofNat 0), .int .u8 (.ofNat 111), .int .u8 (.ofNat 108), .int .u8 (.ofNat 102)] .leaf)], 14902, .tuple [.int .i64 (.ofNat 0), .bool false, .int .i64 (.ofNat 0)], [], 24079⟩
noncomputable def t10 : T Rec := (T.put (T.put .leaf r8.n0 (some r8)) r9.n0 (some r9))
theorem t10_ok : TabOk P t10 := ((TabOk.leaf.put r8_snd).put r9_snd)
theorem r10_ok : r10.ok (evT (GR t10) 100000 r10.f r10.args r10.start) = true := by kernel_rfl
theorem r10_snd : Snd P r10 := snd_of t10_ok r10_ok
end Go.Proofs.YtcbggkejlhifpaaGreatDoor

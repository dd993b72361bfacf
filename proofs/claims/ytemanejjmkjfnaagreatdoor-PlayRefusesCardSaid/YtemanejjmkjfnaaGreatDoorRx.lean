/- Records of calls, each checked by one computation. -/
import Derived.Test.YtemanejjmkjfnaaGreatDoorRb
import Derived.Test.YtemanejjmkjfnaaGreatDoorR1
import Derived.Test.YtemanejjmkjfnaaGreatDoorR2
import Derived.Test.YtemanejjmkjfnaaGreatDoorR3
import Derived.Test.YtemanejjmkjfnaaGreatDoorR4
import Derived.Test.YtemanejjmkjfnaaGreatDoorR5
import Derived.Test.YtemanejjmkjfnaaGreatDoorR6
namespace Go.Proofs.YtemanejjmkjfnaaGreatDoor
set_option maxRecDepth 100000
open Go.Ev Go.RowKit
noncomputable def r9 : Rec := ⟨14, [], [(0, .ro (some 0) 20 [.int .u64 (.ofNat 1), .int .u64 (.ofNat 10), .int .u64 (.ofNat 100), .int .u64 (.ofNat 1000), .int .u64 (.ofNat 10000), .int .u64 (.ofNat 100000), .int .u64 (.ofNat 1000000), .int .u64 (.ofNat 10000000), .int .u64 (.ofNat 100000000), .int .u64 (.ofNat 1000000000), .int .u64 (.ofNat 10000000000), .int .u64 (.ofNat 100000000000), .int .u64 (.ofNat 1000000000000), .int .u64 (.ofNat 10000000000000), .int .u64 (.ofNat 100000000000000), .int .u64 (.ofNat 1000000000000000), .int .u64 (.ofNat 10000000000000000), .int .u64 (.ofNat 100000000000000000), .int .u64 (.ofNat 1000000000000000000), .int .u64 (.ofNat 10000000000000000000)] .leaf), (1, .ro (some 0) 4 [.int .u8 (.ofNat 0), .int .u8 (.ofNat 111), .int .u8 (.ofNat 108), .int .u8 (.ofNat 102)] .leaf), (2, .ro (some 0) 32 [.int .u8 (.ofNat 0), .int .u8 (.ofNat 1), .int .u8 (.ofNat 28), .int .u8 (.ofNat 2), .int .u8 (.ofNat 29), .int .u8 (.ofNat 14), .int .u8 (.ofNat 24), .int .u8 (.ofNat 3), .int .u8 (.ofNat 30), .int .u8 (.ofNat 22), .int .u8 (.ofNat 20), .int .u8 (.ofNat 15), .int .u8 (.ofNat 25), .int .u8 (.ofNat 17), .int .u8 (.ofNat 4), .int .u8 (.ofNat 8), .int .u8 (.ofNat 31), .int .u8 (.ofNat 27), .int .u8 (.ofNat 13), .int .u8 (.ofNat 23), .int .u8 (.ofNat 21), .int .u8 (.ofNat 19), .int .u8 (.ofNat 16), .int .u8 (.ofNat 7), .int .u8 (.ofNat 26), .int .u8 (.ofNat 12), .int .u8 (.ofNat 18), .int .u8 (.ofNat 6), .int .u8 (.ofNat 11), .int .u8 (.ofNat 5), .int .u8 (.ofNat 10), .int .u8 (.ofNat 9)] .leaf), (3, .ro (some 0) 64 [] b3)], 1000, .bool true, [], 48676⟩
noncomputable def t9 : T Rec := (T.put (T.put (T.put (T.put (T.put (T.put .leaf r1.n0 (some r1)) r3.n0 (some r3)) r5.n0 (some r5)) r6.n0 (some r6)) r7.n0 (some r7)) r8.n0 (some r8))
theorem t9_ok : TabOk P t9 := ((((((TabOk.leaf.put r1_snd).put r3_snd).put r5_snd).put r6_snd).put r7_snd).put r8_snd)
theorem r9_ok : r9.ok (evT (GR t9) 100000 r9.f r9.args r9.start) = true := by kernel_rfl
theorem r9_snd : Snd P r9 := snd_of t9_ok r9_ok
end Go.Proofs.YtemanejjmkjfnaaGreatDoor

/- Records of calls, each checked by one computation. -/
import Derived.Test.YtgadijnefbmgkaaGreatDoorRb
import Derived.Test.YtgadijnefbmgkaaGreatDoorR1
import Derived.Test.YtgadijnefbmgkaaGreatDoorR3
import Derived.Test.YtgadijnefbmgkaaGreatDoorR4
import Derived.Test.YtgadijnefbmgkaaGreatDoorR5
import Derived.Test.YtgadijnefbmgkaaGreatDoorR6
namespace Go.Proofs.YtgadijnefbmgkaaGreatDoor
set_option maxRecDepth 100000
open Go.Ev Go.RowKit
noncomputable def r10 : Rec := ⟨5, [], [(0, .ro .none 12 [.str [], .str [109, 111, 100, 101, 108], .str [111, 110, 99, 101], .str [101, 110, 100, 101, 100], .str [115, 116, 101, 97, 100, 121], .str [99, 97, 117, 115, 101, 100], .str [117, 115, 101, 100], .str [99, 111, 117, 110, 116, 115], .str [113, 117, 111, 116, 97], .str [115, 116, 97, 108, 101], .str [108, 101, 97, 107, 115], .str [107, 101, 101, 112, 115]] .leaf), (2, .ro .none 4 [.int .u8 (.ofNat 0), .int .u8 (.ofNat 111), .int .u8 (.ofNat 108), .int .u8 (.ofNat 102)] .leaf)], 1000, .bool true, [], 11043⟩
noncomputable def t10 : T Rec := (T.put (T.put (T.put (T.put (T.put (T.put .leaf r0.n0 (some r0)) r2.n0 (some r2)) r3.n0 (some r3)) r5.n0 (some r5)) r7.n0 (some r7)) r9.n0 (some r9))
theorem t10_ok : TabOk P t10 := ((((((TabOk.leaf.put r0_snd).put r2_snd).put r3_snd).put r5_snd).put r7_snd).put r9_snd)
theorem r10_ok : r10.ok (evT (GR t10) 100000 r10.f r10.args r10.start) = true := by kernel_rfl
theorem r10_snd : Snd P r10 := snd_of t10_ok r10_ok
end Go.Proofs.YtgadijnefbmgkaaGreatDoor

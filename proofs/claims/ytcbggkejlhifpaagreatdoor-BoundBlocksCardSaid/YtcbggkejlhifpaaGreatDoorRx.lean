/- Records of calls, each checked by one computation. -/
import Derived.Test.YtcbggkejlhifpaaGreatDoorRb
import Derived.Test.YtcbggkejlhifpaaGreatDoorR6
import Derived.Test.YtcbggkejlhifpaaGreatDoorR7
namespace Go.Proofs.YtcbggkejlhifpaaGreatDoor
set_option maxRecDepth 100000
open Go.Ev Go.RowKit
noncomputable def r11 : Rec := ⟨8, [], [(0, .ro (some 0) 4 [.int .u8 (.ofNat 0), .int .u8 (.ofNat 111), .int .u8 (.ofNat 108), .int .u8 (.ofNat 102)] .leaf)], 1000, .bool true, [], 24079⟩
noncomputable def t11 : T Rec := (T.put (T.put .leaf r6.n0 (some r6)) r10.n0 (some r10))
theorem t11_ok : TabOk P t11 := ((TabOk.leaf.put r6_snd).put r10_snd)
theorem r11_ok : r11.ok (evT (GR t11) 100000 r11.f r11.args r11.start) = true := by kernel_rfl
theorem r11_snd : Snd P r11 := snd_of t11_ok r11_ok
end Go.Proofs.YtcbggkejlhifpaaGreatDoor

/- The facts of the row, all of them. -/
import Derived.Test.YtgadijnefbmgkaaGreatDoorK1
import Derived.Test.YtgadijnefbmgkaaGreatDoorK2
import Derived.Test.YtgadijnefbmgkaaGreatDoorK3
import Derived.Test.YtgadijnefbmgkaaGreatDoorK4
import Derived.Test.YtgadijnefbmgkaaGreatDoorK5
import Derived.Test.YtgadijnefbmgkaaGreatDoorK6
namespace Go.Proofs.YtgadijnefbmgkaaGreatDoor
set_option maxRecDepth 100000
namespace FactW
theorem both {a b : Bool} (ha : a = true) (hb : b = true) : (a && b) = true := by rw [ha, hb]; rfl
theorem all : joinedFacts Tryz.prog 4 Tryz.f4 Rows.judgeWordsSpec Rows.judgeWordsRow = true := (both (both (both (both (both (both (both (both (both (both (both (both (both (both (both (both (both (both (both (both (both (both (both (both (both (both (both (both (both (both (both a1 a2) a3) a4) a5) a6) a7) a8) a9) a10) a11) a12) a13) a14) a15) a16) a17) a18) a19) a20) a21) a22) a23) a24) a25) a26) a27) a28) a29) a30) a31) a32)
end FactW
end Go.Proofs.YtgadijnefbmgkaaGreatDoor

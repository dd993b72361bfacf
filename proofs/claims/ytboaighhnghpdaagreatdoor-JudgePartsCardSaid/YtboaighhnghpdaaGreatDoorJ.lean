/- The facts of the row, all of them. -/
import Derived.Test.YtboaighhnghpdaaGreatDoorJ1
import Derived.Test.YtboaighhnghpdaaGreatDoorJ2
import Derived.Test.YtboaighhnghpdaaGreatDoorJ3
import Derived.Test.YtboaighhnghpdaaGreatDoorJ4
import Derived.Test.YtboaighhnghpdaaGreatDoorJ5
import Derived.Test.YtboaighhnghpdaaGreatDoorJ6
namespace Go.Proofs.YtboaighhnghpdaaGreatDoor
set_option maxRecDepth 100000
namespace Fact
theorem both {a b : Bool} (ha : a = true) (hb : b = true) : (a && b) = true := by rw [ha, hb]; rfl
theorem all : joinedFacts Tryz.prog 3 Tryz.f3 Rows.judgePartsSpec Rows.judgePartsRow = true := (both (both (both (both (both (both (both (both (both (both (both (both (both (both (both (both (both (both (both (both (both (both (both (both (both (both (both (both (both (both (both a1 a2) a3) a4) a5) a6) a7) a8) a9) a10) a11) a12) a13) a14) a15) a16) a17) a18) a19) a20) a21) a22) a23) a24) a25) a26) a27) a28) a29) a30) a31) a32)
end Fact
end Go.Proofs.YtboaighhnghpdaaGreatDoor

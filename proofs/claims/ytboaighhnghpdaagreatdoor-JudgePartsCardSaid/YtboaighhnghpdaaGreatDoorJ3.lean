/- Facts of the row, one by one. -/
import Derived.Test.YtboaighhnghpdaaGreatDoorRows
import Derived.JoinedOf
import Derived.KernelRfl
namespace Go.Proofs.YtboaighhnghpdaaGreatDoor
set_option maxRecDepth 100000
namespace Fact
theorem a12 : ((Rows.judgePartsRow.recurses == Tryz.prog.recurses 3) : Bool) = true := by kernel_rfl
end Fact
end Go.Proofs.YtboaighhnghpdaaGreatDoor

/- Facts of the row, one by one. -/
import Derived.Test.YtgadijnefbmgkaaGreatDoorRows
import Derived.JoinedOf
import Derived.KernelRfl
namespace Go.Proofs.YtgadijnefbmgkaaGreatDoor
set_option maxRecDepth 100000
namespace FactW
theorem a11 : ((Rows.judgeWordsRow.unfollowed == Tryz.prog.unfollowed 4) : Bool) = true := by kernel_rfl
end FactW
end Go.Proofs.YtgadijnefbmgkaaGreatDoor

/- Facts of the row, one by one. -/
import Derived.Test.YtcbggkejlhifpaaGreatDoorRows
import Derived.JoinedOf
import Derived.KernelRfl
namespace Go.Proofs.YtcbggkejlhifpaaGreatDoor
set_option maxRecDepth 100000
namespace Fact
theorem a13 : ((Rows.boundBlocksRow.named == Tryz.prog.varsNamed 3) : Bool) = true := by kernel_rfl
end Fact
end Go.Proofs.YtcbggkejlhifpaaGreatDoor

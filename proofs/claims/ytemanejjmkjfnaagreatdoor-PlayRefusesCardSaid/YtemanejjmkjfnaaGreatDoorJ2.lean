/- Facts of the row, one by one. -/
import Derived.Test.YtemanejjmkjfnaaGreatDoorRows
import Derived.JoinedOf
import Derived.KernelRfl
namespace Go.Proofs.YtemanejjmkjfnaaGreatDoor
set_option maxRecDepth 100000
namespace Fact
theorem a11 : ((Rows.playRefusesRow.unfollowed == Tryz.prog.unfollowed 3) : Bool) = true := by kernel_rfl
end Fact
end Go.Proofs.YtemanejjmkjfnaaGreatDoor

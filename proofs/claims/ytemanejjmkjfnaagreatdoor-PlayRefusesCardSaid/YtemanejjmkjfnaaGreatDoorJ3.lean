/- Facts of the row, one by one. -/
import Derived.Test.YtemanejjmkjfnaaGreatDoorRows
import Derived.JoinedOf
import Derived.KernelRfl
namespace Go.Proofs.YtemanejjmkjfnaaGreatDoor
set_option maxRecDepth 100000
namespace Fact
theorem a12 : ((Rows.playRefusesRow.recurses == Tryz.prog.recurses 3) : Bool) = true := by kernel_rfl
end Fact
end Go.Proofs.YtemanejjmkjfnaaGreatDoor

/- Facts of the row, one by one. -/
import Derived.Test.YtepekoojmijoiaaGreatDoorRows
import Derived.JoinedOf
import Derived.KernelRfl
namespace Go.Proofs.YtepekoojmijoiaaGreatDoor
set_option maxRecDepth 100000
namespace Fact
theorem a2 : (laidOutB Tryz.prog : Bool) = true := by kernel_rfl
end Fact
end Go.Proofs.YtepekoojmijoiaaGreatDoor

/- Facts of the row, one by one. -/
import Derived.Test.YtboaighhnghpdaaGreatDoorRows
import Derived.JoinedOf
import Derived.KernelRfl
namespace Go.Proofs.YtboaighhnghpdaaGreatDoor
set_option maxRecDepth 100000
namespace Fact
theorem a1 : (Rows.judgePartsRow.wf (OpenSpec.ofChange Rows.judgePartsSpec) : Bool) = true := by kernel_rfl
theorem a2 : (laidOutB Tryz.prog : Bool) = true := by kernel_rfl
theorem a3 : (mapsRowed Tryz.prog : Bool) = true := by kernel_rfl
theorem a4 : (Tryz.f3.params.all (Tryz.prog.readableRec ·) : Bool) = true := by kernel_rfl
theorem a5 : (namedTie Tryz.prog Rows.judgePartsRow.named Rows.judgePartsSpec.vars : Bool) = true := by kernel_rfl
theorem a6 : ((Rows.judgePartsRow.stops == []) : Bool) = true := by kernel_rfl
theorem a7 : ((Tryz.prog.stops == []) : Bool) = true := by kernel_rfl
theorem a8 : ((Rows.judgePartsRow.knobs == []) : Bool) = true := by kernel_rfl
theorem a9 : ((Tryz.prog.stopKnobs == []) : Bool) = true := by kernel_rfl
theorem a10 : ((Rows.judgePartsRow.inPlace == Tryz.prog.inPlace 3) : Bool) = true := by kernel_rfl
end Fact
end Go.Proofs.YtboaighhnghpdaaGreatDoor

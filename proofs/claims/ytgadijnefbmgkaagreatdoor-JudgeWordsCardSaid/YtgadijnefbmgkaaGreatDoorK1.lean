/- Facts of the row, one by one. -/
import Derived.Test.YtgadijnefbmgkaaGreatDoorRows
import Derived.JoinedOf
import Derived.KernelRfl
namespace Go.Proofs.YtgadijnefbmgkaaGreatDoor
set_option maxRecDepth 100000
namespace FactW
theorem a1 : (Rows.judgeWordsRow.wf (OpenSpec.ofChange Rows.judgeWordsSpec) : Bool) = true := by kernel_rfl
theorem a2 : (laidOutB Tryz.prog : Bool) = true := by kernel_rfl
theorem a3 : (mapsRowed Tryz.prog : Bool) = true := by kernel_rfl
theorem a4 : (Tryz.f4.params.all (Tryz.prog.readableRec ·) : Bool) = true := by kernel_rfl
theorem a5 : (namedTie Tryz.prog Rows.judgeWordsRow.named Rows.judgeWordsSpec.vars : Bool) = true := by kernel_rfl
theorem a6 : ((Rows.judgeWordsRow.stops == []) : Bool) = true := by kernel_rfl
theorem a7 : ((Tryz.prog.stops == []) : Bool) = true := by kernel_rfl
theorem a8 : ((Rows.judgeWordsRow.knobs == []) : Bool) = true := by kernel_rfl
theorem a9 : ((Tryz.prog.stopKnobs == []) : Bool) = true := by kernel_rfl
theorem a10 : ((Rows.judgeWordsRow.inPlace == Tryz.prog.inPlace 4) : Bool) = true := by kernel_rfl
end FactW
end Go.Proofs.YtgadijnefbmgkaaGreatDoor

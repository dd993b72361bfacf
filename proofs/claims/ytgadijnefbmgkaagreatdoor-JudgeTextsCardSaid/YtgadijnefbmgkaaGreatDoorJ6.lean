/- Facts of the row, one by one. -/
import Derived.Test.YtgadijnefbmgkaaGreatDoorRows
import Derived.JoinedOf
import Derived.KernelRfl
namespace Go.Proofs.YtgadijnefbmgkaaGreatDoor
set_option maxRecDepth 100000
namespace Fact
theorem a24 : (Rows.judgeTextsRow.shortTexts.isNone : Bool) = true := by kernel_rfl
theorem a25 : (Tryz.prog.stopsHeard : Bool) = true := by kernel_rfl
theorem a26 : (Tryz.prog.mayEnter : Bool) = true := by kernel_rfl
theorem a27 : ((Rows.judgeTextsRow.lifted == Tryz.prog.liftsFinal) : Bool) = true := by kernel_rfl
theorem a28 : ((Tryz.prog.make == some Rows.judgeTextsRow.make) : Bool) = true := by kernel_rfl
theorem a29 : ((Rows.judgeTextsRow.kinds == (if Rows.judgeTextsRow.domain.isEmpty then [] else Tryz.f3.params.toList.map fun t => match Tryz.prog.underlying t with | some (.int k) => some k | _ => none)) : Bool) = true := by kernel_rfl
theorem a30 : ((Rows.judgeTextsRow.pinned == Rows.judgeTextsRow.pinnedBy) : Bool) = true := by kernel_rfl
theorem a31 : ((Rows.judgeTextsRow.veiled == (Tryz.f3.params.toList ++ Rows.judgeTextsSpec.plain.varTypes Tryz.prog ++ Tryz.f3.resultTypes.toList).any (Tryz.prog.veiledRec ·)) : Bool) = true := by kernel_rfl
theorem a32 : (Rows.judgeTextsRow.veiledFits Tryz.prog Tryz.f3.params.toList (Tryz.f3.params.toList ++ Rows.judgeTextsSpec.plain.varTypes Tryz.prog ++ Tryz.f3.resultTypes.toList) : Bool) = true := by kernel_rfl
end Fact
end Go.Proofs.YtgadijnefbmgkaaGreatDoor

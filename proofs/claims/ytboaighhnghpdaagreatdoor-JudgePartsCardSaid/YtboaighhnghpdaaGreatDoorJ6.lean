/- Facts of the row, one by one. -/
import Derived.Test.YtboaighhnghpdaaGreatDoorRows
import Derived.JoinedOf
import Derived.KernelRfl
namespace Go.Proofs.YtboaighhnghpdaaGreatDoor
set_option maxRecDepth 100000
namespace Fact
theorem a24 : (Rows.judgePartsRow.shortTexts.isNone : Bool) = true := by kernel_rfl
theorem a25 : (Tryz.prog.stopsHeard : Bool) = true := by kernel_rfl
theorem a26 : (Tryz.prog.mayEnter : Bool) = true := by kernel_rfl
theorem a27 : ((Rows.judgePartsRow.lifted == Tryz.prog.liftsFinal) : Bool) = true := by kernel_rfl
theorem a28 : ((Tryz.prog.make == some Rows.judgePartsRow.make) : Bool) = true := by kernel_rfl
theorem a29 : ((Rows.judgePartsRow.kinds == (if Rows.judgePartsRow.domain.isEmpty then [] else Tryz.f3.params.toList.map fun t => match Tryz.prog.underlying t with | some (.int k) => some k | _ => none)) : Bool) = true := by kernel_rfl
theorem a30 : ((Rows.judgePartsRow.pinned == Rows.judgePartsRow.pinnedBy) : Bool) = true := by kernel_rfl
theorem a31 : ((Rows.judgePartsRow.veiled == (Tryz.f3.params.toList ++ Rows.judgePartsSpec.plain.varTypes Tryz.prog ++ Tryz.f3.resultTypes.toList).any (Tryz.prog.veiledRec ·)) : Bool) = true := by kernel_rfl
theorem a32 : (Rows.judgePartsRow.veiledFits Tryz.prog Tryz.f3.params.toList (Tryz.f3.params.toList ++ Rows.judgePartsSpec.plain.varTypes Tryz.prog ++ Tryz.f3.resultTypes.toList) : Bool) = true := by kernel_rfl
end Fact
end Go.Proofs.YtboaighhnghpdaaGreatDoor

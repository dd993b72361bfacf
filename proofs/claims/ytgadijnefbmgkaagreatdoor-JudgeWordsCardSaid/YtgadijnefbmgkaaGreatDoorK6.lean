/- Facts of the row, one by one. -/
import Derived.Test.YtgadijnefbmgkaaGreatDoorRows
import Derived.JoinedOf
import Derived.KernelRfl
namespace Go.Proofs.YtgadijnefbmgkaaGreatDoor
set_option maxRecDepth 100000
namespace FactW
theorem a24 : (Rows.judgeWordsRow.shortTexts.isNone : Bool) = true := by kernel_rfl
theorem a25 : (Tryz.prog.stopsHeard : Bool) = true := by kernel_rfl
theorem a26 : (Tryz.prog.mayEnter : Bool) = true := by kernel_rfl
theorem a27 : ((Rows.judgeWordsRow.lifted == Tryz.prog.liftsFinal) : Bool) = true := by kernel_rfl
theorem a28 : ((Tryz.prog.make == some Rows.judgeWordsRow.make) : Bool) = true := by kernel_rfl
theorem a29 : ((Rows.judgeWordsRow.kinds == (if Rows.judgeWordsRow.domain.isEmpty then [] else Tryz.f4.params.toList.map fun t => match Tryz.prog.underlying t with | some (.int k) => some k | _ => none)) : Bool) = true := by kernel_rfl
theorem a30 : ((Rows.judgeWordsRow.pinned == Rows.judgeWordsRow.pinnedBy) : Bool) = true := by kernel_rfl
theorem a31 : ((Rows.judgeWordsRow.veiled == (Tryz.f4.params.toList ++ Rows.judgeWordsSpec.plain.varTypes Tryz.prog ++ Tryz.f4.resultTypes.toList).any (Tryz.prog.veiledRec ·)) : Bool) = true := by kernel_rfl
theorem a32 : (Rows.judgeWordsRow.veiledFits Tryz.prog Tryz.f4.params.toList (Tryz.f4.params.toList ++ Rows.judgeWordsSpec.plain.varTypes Tryz.prog ++ Tryz.f4.resultTypes.toList) : Bool) = true := by kernel_rfl
end FactW
end Go.Proofs.YtgadijnefbmgkaaGreatDoor

/- Facts of the row, one by one. -/
import Derived.Test.YtcbggkejlhifpaaGreatDoorRows
import Derived.JoinedOf
import Derived.KernelRfl
namespace Go.Proofs.YtcbggkejlhifpaaGreatDoor
set_option maxRecDepth 100000
namespace Fact
theorem a24 : (Rows.boundBlocksRow.shortTexts.isNone : Bool) = true := by kernel_rfl
theorem a25 : (Tryz.prog.stopsHeard : Bool) = true := by kernel_rfl
theorem a26 : (Tryz.prog.mayEnter : Bool) = true := by kernel_rfl
theorem a27 : ((Rows.boundBlocksRow.lifted == Tryz.prog.liftsFinal) : Bool) = true := by kernel_rfl
theorem a28 : ((Tryz.prog.make == some Rows.boundBlocksRow.make) : Bool) = true := by kernel_rfl
theorem a29 : ((Rows.boundBlocksRow.kinds == (if Rows.boundBlocksRow.domain.isEmpty then [] else Tryz.f3.params.toList.map fun t => match Tryz.prog.underlying t with | some (.int k) => some k | _ => none)) : Bool) = true := by kernel_rfl
theorem a30 : ((Rows.boundBlocksRow.pinned == Rows.boundBlocksRow.pinnedBy) : Bool) = true := by kernel_rfl
theorem a31 : ((Rows.boundBlocksRow.veiled == (Tryz.f3.params.toList ++ Rows.boundBlocksSpec.plain.varTypes Tryz.prog ++ Tryz.f3.resultTypes.toList).any (Tryz.prog.veiledRec ·)) : Bool) = true := by kernel_rfl
theorem a32 : (Rows.boundBlocksRow.veiledFits Tryz.prog Tryz.f3.params.toList (Tryz.f3.params.toList ++ Rows.boundBlocksSpec.plain.varTypes Tryz.prog ++ Tryz.f3.resultTypes.toList) : Bool) = true := by kernel_rfl
end Fact
end Go.Proofs.YtcbggkejlhifpaaGreatDoor

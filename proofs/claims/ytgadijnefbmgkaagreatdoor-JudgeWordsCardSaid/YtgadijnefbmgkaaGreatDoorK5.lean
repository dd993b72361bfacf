/- Facts of the row, one by one. -/
import Derived.Test.YtgadijnefbmgkaaGreatDoorRows
import Derived.JoinedOf
import Derived.KernelRfl
namespace Go.Proofs.YtgadijnefbmgkaaGreatDoor
set_option maxRecDepth 100000
namespace FactW
theorem a14 : ((Rows.judgeWordsRow.maps == (Tryz.f4.params.toList ++ Rows.judgeWordsSpec.plain.varTypes Tryz.prog).any (Tryz.prog.mapsRec ·)) : Bool) = true := by kernel_rfl
theorem a15 : ((Rows.judgeWordsRow.ifaces == (Tryz.f4.params.toList ++ Rows.judgeWordsSpec.plain.varTypes Tryz.prog).any (Tryz.prog.ifacesRec ·)) : Bool) = true := by kernel_rfl
theorem a16 : ((Rows.judgeWordsRow.mapsOut == Tryz.prog.mapsAmong Tryz.f4.resultTypes.toList) : Bool) = true := by kernel_rfl
theorem a17 : ((Rows.judgeWordsRow.loops == (Tryz.f4.params.toList ++ Rows.judgeWordsSpec.plain.varTypes Tryz.prog).any (Tryz.prog.loopsFrom ·)) : Bool) = true := by kernel_rfl
theorem a18 : ((Rows.judgeWordsRow.wideKeys == (Tryz.f4.params.toList ++ Rows.judgeWordsSpec.plain.varTypes Tryz.prog ++ Tryz.f4.resultTypes.toList).any (Tryz.prog.wideKeysFrom ·)) : Bool) = true := by kernel_rfl
theorem a19 : (Rows.judgeWordsSpec.vars.all (Tryz.prog.varReadable ·) : Bool) = true := by kernel_rfl
theorem a20 : (Tryz.f4.resultTypes.all (fun t => Tryz.prog.readableRec t && decide (t < Tryz.prog.types.size)) : Bool) = true := by kernel_rfl
theorem a21 : ((Rows.judgeWordsRow.ifacesOut == Tryz.f4.resultTypes.toList.any (Tryz.prog.ifacesRec ·)) : Bool) = true := by kernel_rfl
theorem a22 : ((Rows.judgeWordsRow.loopsOut == Tryz.f4.resultTypes.toList.any (Tryz.prog.loopsFrom ·)) : Bool) = true := by kernel_rfl
theorem a23 : ((Rows.judgeWordsRow.plainKeys == Tryz.prog.plainKeys) : Bool) = true := by kernel_rfl
end FactW
end Go.Proofs.YtgadijnefbmgkaaGreatDoor

/- Facts of the row, one by one. -/
import Derived.Test.YtboaighhnghpdaaGreatDoorRows
import Derived.JoinedOf
import Derived.KernelRfl
namespace Go.Proofs.YtboaighhnghpdaaGreatDoor
set_option maxRecDepth 100000
namespace Fact
theorem a14 : ((Rows.judgePartsRow.maps == (Tryz.f3.params.toList ++ Rows.judgePartsSpec.plain.varTypes Tryz.prog).any (Tryz.prog.mapsRec ·)) : Bool) = true := by kernel_rfl
theorem a15 : ((Rows.judgePartsRow.ifaces == (Tryz.f3.params.toList ++ Rows.judgePartsSpec.plain.varTypes Tryz.prog).any (Tryz.prog.ifacesRec ·)) : Bool) = true := by kernel_rfl
theorem a16 : ((Rows.judgePartsRow.mapsOut == Tryz.prog.mapsAmong Tryz.f3.resultTypes.toList) : Bool) = true := by kernel_rfl
theorem a17 : ((Rows.judgePartsRow.loops == (Tryz.f3.params.toList ++ Rows.judgePartsSpec.plain.varTypes Tryz.prog).any (Tryz.prog.loopsFrom ·)) : Bool) = true := by kernel_rfl
theorem a18 : ((Rows.judgePartsRow.wideKeys == (Tryz.f3.params.toList ++ Rows.judgePartsSpec.plain.varTypes Tryz.prog ++ Tryz.f3.resultTypes.toList).any (Tryz.prog.wideKeysFrom ·)) : Bool) = true := by kernel_rfl
theorem a19 : (Rows.judgePartsSpec.vars.all (Tryz.prog.varReadable ·) : Bool) = true := by kernel_rfl
theorem a20 : (Tryz.f3.resultTypes.all (fun t => Tryz.prog.readableRec t && decide (t < Tryz.prog.types.size)) : Bool) = true := by kernel_rfl
theorem a21 : ((Rows.judgePartsRow.ifacesOut == Tryz.f3.resultTypes.toList.any (Tryz.prog.ifacesRec ·)) : Bool) = true := by kernel_rfl
theorem a22 : ((Rows.judgePartsRow.loopsOut == Tryz.f3.resultTypes.toList.any (Tryz.prog.loopsFrom ·)) : Bool) = true := by kernel_rfl
theorem a23 : ((Rows.judgePartsRow.plainKeys == Tryz.prog.plainKeys) : Bool) = true := by kernel_rfl
end Fact
end Go.Proofs.YtboaighhnghpdaaGreatDoor

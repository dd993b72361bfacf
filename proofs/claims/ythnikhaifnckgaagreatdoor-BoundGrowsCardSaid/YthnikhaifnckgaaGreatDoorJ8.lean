/- Facts of the row, one by one. -/
import Derived.Test.YthnikhaifnckgaaGreatDoorRows
import Derived.JoinedOf
import Derived.KernelRfl
namespace Go.Proofs.YthnikhaifnckgaaGreatDoor
set_option maxRecDepth 100000
namespace Fact
theorem a1 : (Rows.boundGrowsRow.wf (OpenSpec.ofChange Rows.boundGrowsSpec) : Bool) = true := by kernel_rfl
theorem a4 : (Tryz.f3.params.all (Tryz.prog.readableRec ·) : Bool) = true := by kernel_rfl
theorem a5 : (namedTie Tryz.prog Rows.boundGrowsRow.named Rows.boundGrowsSpec.vars : Bool) = true := by kernel_rfl
theorem a6 : ((Rows.boundGrowsRow.stops == []) : Bool) = true := by kernel_rfl
theorem a7 : ((Tryz.prog.stops == []) : Bool) = true := by kernel_rfl
theorem a8 : ((Rows.boundGrowsRow.knobs == []) : Bool) = true := by kernel_rfl
theorem a9 : ((Tryz.prog.stopKnobs == []) : Bool) = true := by kernel_rfl
theorem a14 : ((Rows.boundGrowsRow.maps == (Tryz.f3.params.toList ++ Rows.boundGrowsSpec.plain.varTypes Tryz.prog).any (Tryz.prog.mapsRec ·)) : Bool) = true := by kernel_rfl
theorem a15 : ((Rows.boundGrowsRow.ifaces == (Tryz.f3.params.toList ++ Rows.boundGrowsSpec.plain.varTypes Tryz.prog).any (Tryz.prog.ifacesRec ·)) : Bool) = true := by kernel_rfl
theorem a16 : ((Rows.boundGrowsRow.mapsOut == Tryz.prog.mapsAmong Tryz.f3.resultTypes.toList) : Bool) = true := by kernel_rfl
theorem a17 : ((Rows.boundGrowsRow.loops == (Tryz.f3.params.toList ++ Rows.boundGrowsSpec.plain.varTypes Tryz.prog).any (Tryz.prog.loopsFrom ·)) : Bool) = true := by kernel_rfl
theorem a18 : ((Rows.boundGrowsRow.wideKeys == (Tryz.f3.params.toList ++ Rows.boundGrowsSpec.plain.varTypes Tryz.prog ++ Tryz.f3.resultTypes.toList).any (Tryz.prog.wideKeysFrom ·)) : Bool) = true := by kernel_rfl
theorem a19 : (Rows.boundGrowsSpec.vars.all (Tryz.prog.varReadable ·) : Bool) = true := by kernel_rfl
theorem a20 : (Tryz.f3.resultTypes.all (fun t => Tryz.prog.readableRec t && decide (t < Tryz.prog.types.size)) : Bool) = true := by kernel_rfl
theorem a21 : ((Rows.boundGrowsRow.ifacesOut == Tryz.f3.resultTypes.toList.any (Tryz.prog.ifacesRec ·)) : Bool) = true := by kernel_rfl
theorem a22 : ((Rows.boundGrowsRow.loopsOut == Tryz.f3.resultTypes.toList.any (Tryz.prog.loopsFrom ·)) : Bool) = true := by kernel_rfl
theorem a23 : ((Rows.boundGrowsRow.plainKeys == Tryz.prog.plainKeys) : Bool) = true := by kernel_rfl
theorem a24 : (Rows.boundGrowsRow.shortTexts.isNone : Bool) = true := by kernel_rfl
theorem a27 : ((Rows.boundGrowsRow.lifted == Tryz.prog.liftsFinal) : Bool) = true := by kernel_rfl
theorem a28 : ((Tryz.prog.make == some Rows.boundGrowsRow.make) : Bool) = true := by kernel_rfl
theorem a29 : ((Rows.boundGrowsRow.kinds == (if Rows.boundGrowsRow.domain.isEmpty then [] else Tryz.f3.params.toList.map fun t => match Tryz.prog.underlying t with | some (.int k) => some k | _ => none)) : Bool) = true := by kernel_rfl
theorem a30 : ((Rows.boundGrowsRow.pinned == Rows.boundGrowsRow.pinnedBy) : Bool) = true := by kernel_rfl
theorem a31 : ((Rows.boundGrowsRow.veiled == (Tryz.f3.params.toList ++ Rows.boundGrowsSpec.plain.varTypes Tryz.prog ++ Tryz.f3.resultTypes.toList).any (Tryz.prog.veiledRec ·)) : Bool) = true := by kernel_rfl
theorem a32 : (Rows.boundGrowsRow.veiledFits Tryz.prog Tryz.f3.params.toList (Tryz.f3.params.toList ++ Rows.boundGrowsSpec.plain.varTypes Tryz.prog ++ Tryz.f3.resultTypes.toList) : Bool) = true := by kernel_rfl
end Fact
end Go.Proofs.YthnikhaifnckgaaGreatDoor

/- Facts of the row, one by one. -/
import Derived.Test.YtepekoojmijoiaaGreatDoorRows
import Derived.JoinedOf
import Derived.KernelRfl
namespace Go.Proofs.YtepekoojmijoiaaGreatDoor
set_option maxRecDepth 100000
namespace Fact
theorem a1 : (Rows.boundRefusesRow.wf (OpenSpec.ofChange Rows.boundRefusesSpec) : Bool) = true := by kernel_rfl
theorem a4 : (Tryz.f3.params.all (Tryz.prog.readableRec ·) : Bool) = true := by kernel_rfl
theorem a5 : (namedTie Tryz.prog Rows.boundRefusesRow.named Rows.boundRefusesSpec.vars : Bool) = true := by kernel_rfl
theorem a6 : ((Rows.boundRefusesRow.stops == []) : Bool) = true := by kernel_rfl
theorem a7 : ((Tryz.prog.stops == []) : Bool) = true := by kernel_rfl
theorem a8 : ((Rows.boundRefusesRow.knobs == []) : Bool) = true := by kernel_rfl
theorem a9 : ((Tryz.prog.stopKnobs == []) : Bool) = true := by kernel_rfl
theorem a14 : ((Rows.boundRefusesRow.maps == (Tryz.f3.params.toList ++ Rows.boundRefusesSpec.plain.varTypes Tryz.prog).any (Tryz.prog.mapsRec ·)) : Bool) = true := by kernel_rfl
theorem a15 : ((Rows.boundRefusesRow.ifaces == (Tryz.f3.params.toList ++ Rows.boundRefusesSpec.plain.varTypes Tryz.prog).any (Tryz.prog.ifacesRec ·)) : Bool) = true := by kernel_rfl
theorem a16 : ((Rows.boundRefusesRow.mapsOut == Tryz.prog.mapsAmong Tryz.f3.resultTypes.toList) : Bool) = true := by kernel_rfl
theorem a17 : ((Rows.boundRefusesRow.loops == (Tryz.f3.params.toList ++ Rows.boundRefusesSpec.plain.varTypes Tryz.prog).any (Tryz.prog.loopsFrom ·)) : Bool) = true := by kernel_rfl
theorem a18 : ((Rows.boundRefusesRow.wideKeys == (Tryz.f3.params.toList ++ Rows.boundRefusesSpec.plain.varTypes Tryz.prog ++ Tryz.f3.resultTypes.toList).any (Tryz.prog.wideKeysFrom ·)) : Bool) = true := by kernel_rfl
theorem a19 : (Rows.boundRefusesSpec.vars.all (Tryz.prog.varReadable ·) : Bool) = true := by kernel_rfl
theorem a20 : (Tryz.f3.resultTypes.all (fun t => Tryz.prog.readableRec t && decide (t < Tryz.prog.types.size)) : Bool) = true := by kernel_rfl
theorem a21 : ((Rows.boundRefusesRow.ifacesOut == Tryz.f3.resultTypes.toList.any (Tryz.prog.ifacesRec ·)) : Bool) = true := by kernel_rfl
theorem a22 : ((Rows.boundRefusesRow.loopsOut == Tryz.f3.resultTypes.toList.any (Tryz.prog.loopsFrom ·)) : Bool) = true := by kernel_rfl
theorem a23 : ((Rows.boundRefusesRow.plainKeys == Tryz.prog.plainKeys) : Bool) = true := by kernel_rfl
theorem a24 : (Rows.boundRefusesRow.shortTexts.isNone : Bool) = true := by kernel_rfl
theorem a27 : ((Rows.boundRefusesRow.lifted == Tryz.prog.liftsFinal) : Bool) = true := by kernel_rfl
theorem a28 : ((Tryz.prog.make == some Rows.boundRefusesRow.make) : Bool) = true := by kernel_rfl
theorem a29 : ((Rows.boundRefusesRow.kinds == (if Rows.boundRefusesRow.domain.isEmpty then [] else Tryz.f3.params.toList.map fun t => match Tryz.prog.underlying t with | some (.int k) => some k | _ => none)) : Bool) = true := by kernel_rfl
theorem a30 : ((Rows.boundRefusesRow.pinned == Rows.boundRefusesRow.pinnedBy) : Bool) = true := by kernel_rfl
theorem a31 : ((Rows.boundRefusesRow.veiled == (Tryz.f3.params.toList ++ Rows.boundRefusesSpec.plain.varTypes Tryz.prog ++ Tryz.f3.resultTypes.toList).any (Tryz.prog.veiledRec ·)) : Bool) = true := by kernel_rfl
theorem a32 : (Rows.boundRefusesRow.veiledFits Tryz.prog Tryz.f3.params.toList (Tryz.f3.params.toList ++ Rows.boundRefusesSpec.plain.varTypes Tryz.prog ++ Tryz.f3.resultTypes.toList) : Bool) = true := by kernel_rfl
end Fact
end Go.Proofs.YtepekoojmijoiaaGreatDoor

/- The call that the row speaks of can be made: the facts of a first world. -/
import Derived.Test.YtemanejjmkjfnaaGreatDoorRow1
import Derived.Test.YtemanejjmkjfnaaGreatDoorTie
import Derived.Test.YtemanejjmkjfnaaGreatDoorCards
import Derived.ProofKit
import Derived.LaidMore
import Derived.OpenShut
import Derived.Stop.Joined
import Derived.SevenTiedAt
import Derived.Carry
namespace Go.Proofs.YtemanejjmkjfnaaGreatDoor
set_option maxRecDepth 100000
open Go.ChangeShapes Go.WideShapes Go.ChangeAt Go.WideMaps Go.WideElems Go.RowKit
namespace Claim
/-- the door's own heap meets the condition -/
theorem door_met (os : Os) (args : Array Value) : laidMetH Tryz.prog lets ((World.doorLaid Tryz.prog 400 os).forCall (fun _ _ => 0) ⟨#[], args, []⟩).memory :=
  laidMetH_of_parts3 (fuel := 8) (laidMet_of_run' 8 (by kernel_rfl) (by kernel_rfl)) (by kernel_rfl) (by kernel_rfl)
def start : Array Value := #[.agg #[.int .u8 0, .int .u8 0, .int .u8 0, .int .u8 0, .int .u8 0, .int .u8 0, .int .u8 0, .int .u8 0], .int .u16 0]
theorem noInit : Tryz.prog.inits.idxOf? 3 = .none := by kernel_rfl
theorem w1 (os : Os) : ((World.doorLaid Tryz.prog 400 os).forCall (fun _ _ => 0) ⟨#[], start, []⟩).Shaped Tryz.prog := World.shaped_of_RefB (by kernel_rfl) (by kernel_rfl)
theorem w2 (os : Os) : Input.okWideB Tryz.prog ((World.doorLaid Tryz.prog 400 os).forCall (fun _ _ => 0) ⟨#[], start, []⟩) 3 ⟨#[], start, []⟩ = true := by kernel_rfl
theorem w3 (os : Os) (H : Type) (enc : TypeId × Value → H) : Rows.playRefusesSpec.preB enc Tryz.prog Tryz.f3 [] false ((World.doorLaid Tryz.prog 400 os).forCall (fun _ _ => 0) ⟨#[], start, []⟩).memory start 8 = true := by kernel_rfl
theorem w4 (os : Os) (H : Type) (enc : TypeId × Value → H) : Rows.playRefusesSpec.sizedB enc Tryz.prog Tryz.f3 false ((World.doorLaid Tryz.prog 400 os).forCall (fun _ _ => 0) ⟨#[], start, []⟩).memory start 8 = true := by kernel_rfl
end Claim
end Go.Proofs.YtemanejjmkjfnaaGreatDoor

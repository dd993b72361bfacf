/- Contracts, each checked by one computation. -/
import Derived.Test.YtboaighhnghpdaaGreatDoorG
set_option linter.unusedVariables false
set_option linter.unusedSimpArgs false
set_option maxHeartbeats 1000000
namespace Go.Proofs.YtboaighhnghpdaaGreatDoor
open Go Go.Ev Go.Ae Go.RowKit
set_option maxRecDepth 100000
theorem k63:Go.Ae.fm (fq (cfL mP) 63) (C.spec 63)=true:=by kernel_rfl
theorem VW:Go.Ae.fm (fq (cfL mP) 200) (C.spec 200)=true:=by kernel_rfl
theorem Vm:Go.Ae.fm (fq (cfL oY) 104) (C.spec 104)=true:=by kernel_rfl
theorem Wm:Go.Ae.fm (fq (cfL oY) 363) (C.spec 363)=true:=by kernel_rfl
theorem k25:Go.Ae.fm (fq (cfL zL) 25) (C.spec 25)=true:=by kernel_rfl
theorem VA:Go.Ae.fm (fq (cfL Rc) 149) (C.spec 149)=true:=by kernel_rfl
theorem To:fq (cfW xg) 6 (CL.rB 0 0 1)=true:=by kernel_rfl
end Go.Proofs.YtboaighhnghpdaaGreatDoor

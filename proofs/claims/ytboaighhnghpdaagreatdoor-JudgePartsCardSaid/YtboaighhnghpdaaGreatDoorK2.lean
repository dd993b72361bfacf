/- Contracts, each checked by one computation. -/
import Derived.Test.YtboaighhnghpdaaGreatDoorG
set_option linter.unusedVariables false
set_option linter.unusedSimpArgs false
set_option maxHeartbeats 1000000
namespace Go.Proofs.YtboaighhnghpdaaGreatDoor
open Go Go.Ev Go.Ae Go.RowKit
set_option maxRecDepth 100000
theorem V1:Go.Ae.fm (fq (cfL mP) 213) (C.spec 213)=true:=by kernel_rfl
theorem VM:Go.Ae.fm (fq (cfL mP) 175) (C.spec 175)=true:=by kernel_rfl
theorem k37:Go.Ae.fm (fq (cfL oY) 37) (C.spec 37)=true:=by kernel_rfl
theorem Wa:Go.Ae.fm (fq (cfL oY) 249) (C.spec 249)=true:=by kernel_rfl
theorem VZ:Go.Ae.fm (fq (cfL zK) 204) (C.spec 204)=true:=by kernel_rfl
theorem k16:Go.Ae.fm (fq (cfL NZ) 16) (C.spec 16)=true:=by kernel_rfl
theorem k30:Go.Ae.fm (fq (cfL Re) 30) (C.spec 30)=true:=by kernel_rfl
theorem Tv:fq (cfW xg) 6 (CL.rB 1 1 1)=true:=by kernel_rfl
end Go.Proofs.YtboaighhnghpdaaGreatDoor

/- Contracts, each checked by one computation. -/
import Derived.Test.YtboaighhnghpdaaGreatDoorG
set_option linter.unusedVariables false
set_option linter.unusedSimpArgs false
set_option maxHeartbeats 1000000
namespace Go.Proofs.YtboaighhnghpdaaGreatDoor
open Go Go.Ev Go.Ae Go.RowKit
set_option maxRecDepth 100000
theorem Vz:Go.Ae.fm (fq (cfL mP) 146) (C.spec 146)=true:=by kernel_rfl
theorem Wj:Go.Ae.fm (fq (cfL mP) 286) (C.spec 286)=true:=by kernel_rfl
theorem V5:Go.Ae.fm (fq (cfL oY) 236) (C.spec 236)=true:=by kernel_rfl
theorem VP:Go.Ae.fm (fq (cfL zK) 183) (C.spec 183)=true:=by kernel_rfl
theorem Vy:Go.Ae.fm (fq (cfL zL) 144) (C.spec 144)=true:=by kernel_rfl
theorem NW:fq (cfL zO) 82 (fU (fU (fU (cnN 1 (C.spec 82)) ((0,4+1),(5,0))) ((0,6+1),(5,0))) ((5,0),(0,8)))=true:=by kernel_rfl
theorem Tt:fq (cfW xg) 6 (CL.rB 1 0 1)=true:=by kernel_rfl
end Go.Proofs.YtboaighhnghpdaaGreatDoor

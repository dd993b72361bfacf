/- Contracts, each checked by one computation. -/
import Derived.Test.YtboaighhnghpdaaGreatDoorG
set_option linter.unusedVariables false
set_option linter.unusedSimpArgs false
set_option maxHeartbeats 1000000
namespace Go.Proofs.YtboaighhnghpdaaGreatDoor
open Go Go.Ev Go.Ae Go.RowKit
set_option maxRecDepth 100000
theorem VF:Go.Ae.fm (fq (cfL mP) 167) (C.spec 167)=true:=by kernel_rfl
theorem k33:Go.Ae.fm (fq (cfL oY) 33) (C.spec 33)=true:=by kernel_rfl
theorem V8:Go.Ae.fm (fq (cfL oY) 247) (C.spec 247)=true:=by kernel_rfl
theorem VU:Go.Ae.fm (fq (cfL zK) 197) (C.spec 197)=true:=by kernel_rfl
theorem VD:Go.Ae.fm (fq (cfL zL) 154) (C.spec 154)=true:=by kernel_rfl
theorem NY:fq (cfL zO) 82 (fU (fU (fU (fU (cnN 1 (C.spec 82)) ((0,4+1),(5,0))) ((0,6+1),(5,0))) ((0,8+1),(5,0))) ((0,12+1),(5,0)))=true:=by kernel_rfl
theorem Tu:fq (cfW xg) 6 (CL.rB 1 1 0)=true:=by kernel_rfl
end Go.Proofs.YtboaighhnghpdaaGreatDoor

/- Contracts, each checked by one computation. -/
import Derived.Test.YtboaighhnghpdaaGreatDoorG
set_option linter.unusedVariables false
set_option linter.unusedSimpArgs false
set_option maxHeartbeats 1000000
namespace Go.Proofs.YtboaighhnghpdaaGreatDoor
open Go Go.Ev Go.Ae Go.RowKit
set_option maxRecDepth 100000
theorem Vu:Go.Ae.fm (fq (cfL mP) 133) (C.spec 133)=true:=by kernel_rfl
theorem Wd:Go.Ae.fm (fq (cfL mP) 269) (C.spec 269)=true:=by kernel_rfl
theorem VN:Go.Ae.fm (fq (cfL oY) 176) (C.spec 176)=true:=by kernel_rfl
theorem Vw:Go.Ae.fm (fq (cfL zK) 140) (C.spec 140)=true:=by kernel_rfl
theorem Kh:fq (cfL zL) 138 (fU (fU (fU (fU (cnN 0 (C.spec 138)) ((0,0+1),(11,0))) ((0,4+1),(11,0))) ((0,6+1),(11,0))) ((11,0),(0,9)))=true:=by kernel_rfl
theorem NT:fq (cfL zO) 82 (fU (cnN 1 (C.spec 82)) ((5,0),(0,4)))=true:=by kernel_rfl
theorem Ts:fq (cfW xg) 6 (CL.rB 1 0 0)=true:=by kernel_rfl
end Go.Proofs.YtboaighhnghpdaaGreatDoor

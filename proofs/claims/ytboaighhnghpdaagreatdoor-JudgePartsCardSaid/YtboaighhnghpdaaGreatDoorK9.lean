/- Contracts, each checked by one computation. -/
import Derived.Test.YtboaighhnghpdaaGreatDoorG
set_option linter.unusedVariables false
set_option linter.unusedSimpArgs false
set_option maxHeartbeats 1000000
namespace Go.Proofs.YtboaighhnghpdaaGreatDoor
open Go Go.Ev Go.Ae Go.RowKit
set_option maxRecDepth 100000
theorem Vn:Go.Ae.fm (fq (cfL mP) 105) (C.spec 105)=true:=by kernel_rfl
theorem V2:Go.Ae.fm (fq (cfL mP) 224) (C.spec 224)=true:=by kernel_rfl
theorem VH:Go.Ae.fm (fq (cfL oY) 169) (C.spec 169)=true:=by kernel_rfl
theorem Vo:Go.Ae.fm (fq (cfL zK) 120) (C.spec 120)=true:=by kernel_rfl
theorem Kc:fq (cfL zL) 138 (fU (cnN 0 (C.spec 138)) ((11,0),(0,0)))=true:=by kernel_rfl
theorem NQ:fq (cfL zO) 82 (fU (fU (fU (cnN 0 (C.spec 82)) ((0,4+1),(5,0))) ((0,6+1),(5,0))) ((5,0),(0,8)))=true:=by kernel_rfl
theorem Tz:fq (cfW Il) 3 (fU (fU (fU (fU (fU (CL.Hg (C.rg 32 0 17)) ((0,0+1),(31,0))) ((32,0),(0,0))) ((33,0),(0,(-1)))) ((0,(-1)+1),(34,0))) ((35,0),(0,0)))=true:=by kernel_rfl
end Go.Proofs.YtboaighhnghpdaaGreatDoor

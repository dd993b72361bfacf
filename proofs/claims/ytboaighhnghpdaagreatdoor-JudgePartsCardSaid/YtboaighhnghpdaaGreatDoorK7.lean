/- Contracts, each checked by one computation. -/
import Derived.Test.YtboaighhnghpdaaGreatDoorG
set_option linter.unusedVariables false
set_option linter.unusedSimpArgs false
set_option maxHeartbeats 1000000
namespace Go.Proofs.YtboaighhnghpdaaGreatDoor
open Go Go.Ev Go.Ae Go.RowKit
set_option maxRecDepth 100000
theorem k64:Go.Ae.fm (fq (cfL mP) 64) (C.spec 64)=true:=by kernel_rfl
theorem VX:Go.Ae.fm (fq (cfL mP) 201) (C.spec 201)=true:=by kernel_rfl
theorem Vv:Go.Ae.fm (fq (cfL oY) 135) (C.spec 135)=true:=by kernel_rfl
theorem Wn:Go.Ae.fm (fq (cfL oY) 364) (C.spec 364)=true:=by kernel_rfl
theorem k81:Go.Ae.fm (fq (cfL zL) 81) (C.spec 81)=true:=by kernel_rfl
theorem NO:fq (cfL zO) 82 (fU (cnN 0 (C.spec 82)) ((5,0),(0,4)))=true:=by kernel_rfl
theorem Ty:fq (cfW Il) 3 (fU (fU (fU (fU (fU (CL.Hg (C.rg 32 0 17)) ((0,0+1),(31,0))) ((32,0),(0,0))) ((33,0),(0,(-1)))) ((0,(-1)+1),(34,0))) ((0,0+1),(35,0)))=true:=by kernel_rfl
end Go.Proofs.YtboaighhnghpdaaGreatDoor

/- Contracts, each checked by one computation. -/
import Derived.Test.YtboaighhnghpdaaGreatDoorG
set_option linter.unusedVariables false
set_option linter.unusedSimpArgs false
set_option maxHeartbeats 1000000
namespace Go.Proofs.YtboaighhnghpdaaGreatDoor
open Go Go.Ev Go.Ae Go.RowKit
set_option maxRecDepth 100000
theorem Vx:Go.Ae.fm (fq (cfL mP) 142) (C.spec 142)=true:=by kernel_rfl
theorem Wh:Go.Ae.fm (fq (cfL mP) 275) (C.spec 275)=true:=by kernel_rfl
theorem V3:Go.Ae.fm (fq (cfL oY) 229) (C.spec 229)=true:=by kernel_rfl
theorem VK:Go.Ae.fm (fq (cfL zK) 172) (C.spec 172)=true:=by kernel_rfl
theorem Ki:fq (cfL zL) 138 (fU (fU (fU (fU (cnN 0 (C.spec 138)) ((0,0+1),(11,0))) ((0,4+1),(11,0))) ((0,6+1),(11,0))) ((0,9+1),(11,0)))=true:=by kernel_rfl
theorem NU:fq (cfL zO) 82 (fU (fU (cnN 1 (C.spec 82)) ((0,4+1),(5,0))) ((5,0),(0,6)))=true:=by kernel_rfl
theorem TD:fq (cfW Il) 3 (fU (fU (fU (fU (fU (CL.Hg (C.rg 32 0 17)) ((0,0+1),(31,0))) ((32,0),(0,0))) ((0,(-1)+1),(33,0))) ((34,0),(0,(-1)))) ((35,0),(0,0)))=true:=by kernel_rfl
end Go.Proofs.YtboaighhnghpdaaGreatDoor

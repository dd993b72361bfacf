/- Contracts, each checked by one computation. -/
import Derived.Test.YtboaighhnghpdaaGreatDoorG
set_option linter.unusedVariables false
set_option linter.unusedSimpArgs false
set_option maxHeartbeats 1000000
namespace Go.Proofs.YtboaighhnghpdaaGreatDoor
open Go Go.Ev Go.Ae Go.RowKit
set_option maxRecDepth 100000
theorem VE:Go.Ae.fm (fq (cfL mP) 155) (C.spec 155)=true:=by kernel_rfl
theorem k20:Go.Ae.fm (fq (cfL oY) 20) (C.spec 20)=true:=by kernel_rfl
theorem V6:Go.Ae.fm (fq (cfL oY) 237) (C.spec 237)=true:=by kernel_rfl
theorem VQ:Go.Ae.fm (fq (cfL zK) 190) (C.spec 190)=true:=by kernel_rfl
theorem VB:Go.Ae.fm (fq (cfL zL) 151) (C.spec 151)=true:=by kernel_rfl
theorem NX:fq (cfL zO) 82 (fU (fU (fU (fU (cnN 1 (C.spec 82)) ((0,4+1),(5,0))) ((0,6+1),(5,0))) ((0,8+1),(5,0))) ((5,0),(0,12)))=true:=by kernel_rfl
theorem TE:fq (cfW Il) 3 (fU (fU (fU (fU (fU (CL.Hg (C.rg 32 0 17)) ((0,0+1),(31,0))) ((32,0),(0,0))) ((0,(-1)+1),(33,0))) ((0,(-1)+1),(34,0))) ((0,0+1),(35,0)))=true:=by kernel_rfl
end Go.Proofs.YtboaighhnghpdaaGreatDoor

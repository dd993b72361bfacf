/- Contracts, each checked by one computation. -/
import Derived.Test.YtboaighhnghpdaaGreatDoorG
set_option linter.unusedVariables false
set_option linter.unusedSimpArgs false
set_option maxHeartbeats 1000000
namespace Go.Proofs.YtboaighhnghpdaaGreatDoor
open Go Go.Ev Go.Ae Go.RowKit
set_option maxRecDepth 100000
theorem Vt:Go.Ae.fm (fq (cfL mP) 131) (C.spec 131)=true:=by kernel_rfl
theorem Wc:Go.Ae.fm (fq (cfL mP) 265) (C.spec 265)=true:=by kernel_rfl
theorem VJ:Go.Ae.fm (fq (cfL oY) 171) (C.spec 171)=true:=by kernel_rfl
theorem Vr:Go.Ae.fm (fq (cfL zK) 127) (C.spec 127)=true:=by kernel_rfl
theorem Kg:fq (cfL zL) 138 (fU (fU (fU (cnN 0 (C.spec 138)) ((0,0+1),(11,0))) ((0,4+1),(11,0))) ((11,0),(0,6)))=true:=by kernel_rfl
theorem NS:fq (cfL zO) 82 (fU (fU (fU (fU (cnN 0 (C.spec 82)) ((0,4+1),(5,0))) ((0,6+1),(5,0))) ((0,8+1),(5,0))) ((0,12+1),(5,0)))=true:=by kernel_rfl
theorem TC:fq (cfW Il) 3 (fU (fU (fU (fU (fU (CL.Hg (C.rg 32 0 17)) ((0,0+1),(31,0))) ((32,0),(0,0))) ((0,(-1)+1),(33,0))) ((34,0),(0,(-1)))) ((0,0+1),(35,0)))=true:=by kernel_rfl
end Go.Proofs.YtboaighhnghpdaaGreatDoor

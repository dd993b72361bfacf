/- Contracts, each checked by one computation. -/
import Derived.Test.YtboaighhnghpdaaGreatDoorG
set_option linter.unusedVariables false
set_option linter.unusedSimpArgs false
set_option maxHeartbeats 1000000
namespace Go.Proofs.YtboaighhnghpdaaGreatDoor
open Go Go.Ev Go.Ae Go.RowKit
set_option maxRecDepth 100000
theorem k4:Go.Ae.fm (fq (cfL mP) 4) (C.spec 4)=true:=by kernel_rfl
theorem VL:Go.Ae.fm (fq (cfL mP) 174) (C.spec 174)=true:=by kernel_rfl
theorem k35:Go.Ae.fm (fq (cfL oY) 35) (C.spec 35)=true:=by kernel_rfl
theorem V9:Go.Ae.fm (fq (cfL oY) 248) (C.spec 248)=true:=by kernel_rfl
theorem VY:Go.Ae.fm (fq (cfL zK) 202) (C.spec 202)=true:=by kernel_rfl
theorem V4:Go.Ae.fm (fq (cfL zL) 235) (C.spec 235)=true:=by kernel_rfl
theorem k57:Go.Ae.fm (fq (cfL Rd) 57) (C.spec 57)=true:=by kernel_rfl
theorem TF:fq (cfW Il) 3 (fU (fU (fU (fU (fU (CL.Hg (C.rg 32 0 17)) ((0,0+1),(31,0))) ((32,0),(0,0))) ((0,(-1)+1),(33,0))) ((0,(-1)+1),(34,0))) ((35,0),(0,0)))=true:=by kernel_rfl
end Go.Proofs.YtboaighhnghpdaaGreatDoor

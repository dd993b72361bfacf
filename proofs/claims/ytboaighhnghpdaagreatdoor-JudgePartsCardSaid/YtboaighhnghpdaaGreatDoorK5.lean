/- Contracts, each checked by one computation. -/
import Derived.Test.YtboaighhnghpdaaGreatDoorG
set_option linter.unusedVariables false
set_option linter.unusedSimpArgs false
set_option maxHeartbeats 1000000
namespace Go.Proofs.YtboaighhnghpdaaGreatDoor
open Go Go.Ev Go.Ae Go.RowKit
set_option maxRecDepth 100000
theorem k43:Go.Ae.fm (fq (cfL mP) 43) (C.spec 43)=true:=by kernel_rfl
theorem VV:Go.Ae.fm (fq (cfL mP) 198) (C.spec 198)=true:=by kernel_rfl
theorem Vl:Go.Ae.fm (fq (cfL oY) 103) (C.spec 103)=true:=by kernel_rfl
theorem Wl:Go.Ae.fm (fq (cfL oY) 361) (C.spec 361)=true:=by kernel_rfl
theorem Wg:Go.Ae.fm (fq (cfL zK) 273) (C.spec 273)=true:=by kernel_rfl
theorem VT:Go.Ae.fm (fq (cfL NZ) 196) (C.spec 196)=true:=by kernel_rfl
theorem Tx:fq (cfW Il) 3 (fU (fU (fU (fU (fU (CL.Hg (C.rg 32 0 17)) ((0,0+1),(31,0))) ((32,0),(0,0))) ((33,0),(0,(-1)))) ((34,0),(0,(-1)))) ((35,0),(0,0)))=true:=by kernel_rfl
end Go.Proofs.YtboaighhnghpdaaGreatDoor

/- Contracts, each checked by one computation. -/
import Derived.Test.YtboaighhnghpdaaGreatDoorG
set_option linter.unusedVariables false
set_option linter.unusedSimpArgs false
set_option maxHeartbeats 1000000
namespace Go.Proofs.YtboaighhnghpdaaGreatDoor
open Go Go.Ev Go.Ae Go.RowKit
set_option maxRecDepth 100000
theorem Vj:Go.Ae.fm (fq (cfL mP) 100) (C.spec 100)=true:=by kernel_rfl
theorem V0:Go.Ae.fm (fq (cfL mP) 212) (C.spec 212)=true:=by kernel_rfl
theorem VG:Go.Ae.fm (fq (cfL oY) 168) (C.spec 168)=true:=by kernel_rfl
theorem k74:Go.Ae.fm (fq (cfL zK) 74) (C.spec 74)=true:=by kernel_rfl
theorem Vp:Go.Ae.fm (fq (cfL zL) 123) (C.spec 123)=true:=by kernel_rfl
theorem NP:fq (cfL zO) 82 (fU (fU (cnN 0 (C.spec 82)) ((0,4+1),(5,0))) ((5,0),(0,6)))=true:=by kernel_rfl
theorem Tp:fq (cfW xg) 6 (CL.rB 0 1 0)=true:=by kernel_rfl
end Go.Proofs.YtboaighhnghpdaaGreatDoor

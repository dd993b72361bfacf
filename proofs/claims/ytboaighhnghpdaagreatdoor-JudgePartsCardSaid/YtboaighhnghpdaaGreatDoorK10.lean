/- Contracts, each checked by one computation. -/
import Derived.Test.YtboaighhnghpdaaGreatDoorG
set_option linter.unusedVariables false
set_option linter.unusedSimpArgs false
set_option maxHeartbeats 1000000
namespace Go.Proofs.YtboaighhnghpdaaGreatDoor
open Go Go.Ev Go.Ae Go.RowKit
set_option maxRecDepth 100000
theorem Vs:Go.Ae.fm (fq (cfL mP) 129) (C.spec 129)=true:=by kernel_rfl
theorem V7:Go.Ae.fm (fq (cfL mP) 244) (C.spec 244)=true:=by kernel_rfl
theorem VI:Go.Ae.fm (fq (cfL oY) 170) (C.spec 170)=true:=by kernel_rfl
theorem Vq:Go.Ae.fm (fq (cfL zK) 125) (C.spec 125)=true:=by kernel_rfl
theorem Ke:fq (cfL zL) 138 (fU (fU (cnN 0 (C.spec 138)) ((0,0+1),(11,0))) ((11,0),(0,4)))=true:=by kernel_rfl
theorem NR:fq (cfL zO) 82 (fU (fU (fU (fU (cnN 0 (C.spec 82)) ((0,4+1),(5,0))) ((0,6+1),(5,0))) ((0,8+1),(5,0))) ((5,0),(0,12)))=true:=by kernel_rfl
theorem Tq:fq (cfW xg) 6 (CL.rB 0 1 1)=true:=by kernel_rfl
end Go.Proofs.YtboaighhnghpdaaGreatDoor

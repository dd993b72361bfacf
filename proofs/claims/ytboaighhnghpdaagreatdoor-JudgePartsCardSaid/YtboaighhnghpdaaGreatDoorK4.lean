/- Contracts, each checked by one computation. -/
import Derived.Test.YtboaighhnghpdaaGreatDoorG
set_option linter.unusedVariables false
set_option linter.unusedSimpArgs false
set_option maxHeartbeats 1000000
namespace Go.Proofs.YtboaighhnghpdaaGreatDoor
open Go Go.Ev Go.Ae Go.RowKit
set_option maxRecDepth 100000
theorem k22:Go.Ae.fm (fq (cfL mP) 22) (C.spec 22)=true:=by kernel_rfl
theorem VS:Go.Ae.fm (fq (cfL mP) 194) (C.spec 194)=true:=by kernel_rfl
theorem Vk:Go.Ae.fm (fq (cfL oY) 102) (C.spec 102)=true:=by kernel_rfl
theorem Wi:Go.Ae.fm (fq (cfL oY) 281) (C.spec 281)=true:=by kernel_rfl
theorem Wf:Go.Ae.fm (fq (cfL zK) 272) (C.spec 272)=true:=by kernel_rfl
theorem k56:Go.Ae.fm (fq (cfL NZ) 56) (C.spec 56)=true:=by kernel_rfl
theorem Tn:fq (cfW xg) 6 (CL.rB 0 0 0)=true:=by kernel_rfl
end Go.Proofs.YtboaighhnghpdaaGreatDoor

/- Contracts, each checked by one computation. -/
import Derived.Test.YtboaighhnghpdaaGreatDoorG
set_option linter.unusedVariables false
set_option linter.unusedSimpArgs false
set_option maxHeartbeats 1000000
namespace Go.Proofs.YtboaighhnghpdaaGreatDoor
open Go Go.Ev Go.Ae Go.RowKit
set_option maxRecDepth 100000
theorem k21:Go.Ae.fm (fq (cfL mP) 21) (C.spec 21)=true:=by kernel_rfl
theorem VO:Go.Ae.fm (fq (cfL mP) 182) (C.spec 182)=true:=by kernel_rfl
theorem k39:Go.Ae.fm (fq (cfL oY) 39) (C.spec 39)=true:=by kernel_rfl
theorem Wb:Go.Ae.fm (fq (cfL oY) 258) (C.spec 258)=true:=by kernel_rfl
theorem We:Go.Ae.fm (fq (cfL zK) 271) (C.spec 271)=true:=by kernel_rfl
theorem k38:Go.Ae.fm (fq (cfL NZ) 38) (C.spec 38)=true:=by kernel_rfl
theorem Tw:fq (cfW Il) 3 (fU (fU (fU (fU (fU (CL.Hg (C.rg 32 0 17)) ((0,0+1),(31,0))) ((32,0),(0,0))) ((33,0),(0,(-1)))) ((34,0),(0,(-1)))) ((0,0+1),(35,0)))=true:=by kernel_rfl
theorem kLc:fq (cfW Il) 3 (fU (fU (CL.Hg (C.rg 32 0 17)) ((0,0+1),(31,0))) ((0,0+1),(32,0)))=true:=by kernel_rfl
theorem kLn:fq (cfW Il) 3 (fU (CL.Hg (C.rg 32 0 17)) ((31,0),(0,0)))=true:=by kernel_rfl
theorem Wo:Go.Ae.fm (fq (cfW Ik) 7) (CL.spec 7)=true:=by kernel_rfl
theorem Wp:Go.Ae.fm (fq (cfW Ik) 8) (CL.spec 8)=true:=by kernel_rfl
theorem Wq:Go.Ae.fm (fq (cfW Ik) 9) (CL.spec 9)=true:=by kernel_rfl
theorem TI:Go.Ae.fm (fq (cfW Ik) 31) (CL.spec 31)=true:=by kernel_rfl
theorem TJ:Go.Ae.fm (fq (cfW Ik) 34) (CL.spec 34)=true:=by kernel_rfl
theorem TK:Go.Ae.fm (fq (cfW Ik) 36) (CL.spec 36)=true:=by kernel_rfl
theorem kJf:fq (cfW xg) 6 (CL.K8 (CL.JI++CL.le1 32) (.tp [.k .nils,C.I 32]) [])=true:=by kernel_rfl
end Go.Proofs.YtboaighhnghpdaaGreatDoor

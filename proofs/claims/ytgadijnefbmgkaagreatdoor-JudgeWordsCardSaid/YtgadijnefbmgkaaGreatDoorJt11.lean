/- Text of no numbers: both say the same. -/
import Derived.Test.YtgadijnefbmgkaaGreatDoorJt10
namespace Go.Proofs.YtgadijnefbmgkaaGreatDoor
set_option maxRecDepth 100000
open Go.Ev Go.RowKit
noncomputable abbrev noneV : V := .tuple [.str nothing, .int .i64 (Int.ofNat 0)]
theorem vTextN  : (fnW G0 JT.sp 40 iText [.nils] hE (fun v _ => v = noneV)) = (
(((true) = (true)) → (V.tuple [V.str [110, 111, 116, 104, 105, 110, 103], V.int IntKind.i64 (Int.ofNat 0)]) = (V.tuple [V.str nothing, V.int IntKind.i64 (Int.ofNat 0)])) ∧
(((true) = (false)) → (((false) = (true)) → False) ∧
 (((false) = (false)) → (V.tuple [V.str [], V.int IntKind.i64 (Int.ofNat 0)]) = (V.tuple [V.str nothing, V.int IntKind.i64 (Int.ofNat 0)])))) := by kernel_rfl
theorem vRTextN  : (fnW G0 RT.sp 40 iRText [.nils] hE (fun v _ => v = noneV)) = (
(((false) = (true)) → False) ∧
(((false) = (false)) → (((true) = (true)) → (V.tuple [V.str [110, 111, 116, 104, 105, 110, 103], V.int IntKind.i64 (Int.ofNat 0)]) = (V.tuple [V.str nothing, V.int IntKind.i64 (Int.ofNat 0)])) ∧
 (((true) = (false)) → (V.tuple [V.str [], V.int IntKind.i64 (Int.ofNat 0)]) = (V.tuple [V.str nothing, V.int IntKind.i64 (Int.ofNat 0)])))) := by kernel_rfl
theorem textN : fnW G0 JT.sp 40 iText [.nils] hE (fun v _ => v = noneV) := by
  rw [vTextN]
  repeat' (first | exact rfl | exact trivial | apply And.intro | intro)
  all_goals contradiction
theorem rtextN : fnW G0 RT.sp 40 iRText [.nils] hE (fun v _ => v = noneV) := by
  rw [vRTextN]
  repeat' (first | exact rfl | exact trivial | apply And.intro | intro)
  all_goals contradiction
end Go.Proofs.YtgadijnefbmgkaaGreatDoor

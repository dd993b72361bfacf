/- bound.turn at the operations of a block: what it says, kind by kind. -/
import Derived.Test.YtcbggkejlhifpaaGreatDoorBm2
namespace Go.Proofs.YtcbggkejlhifpaaGreatDoor
set_option maxRecDepth 100000
set_option maxHeartbeats 4000000
open Go.Ev Go.RowKit
namespace BT
noncomputable def sp : SpF where
  at' := fun f t => match Nat.beq f iOpChk, t with
    | true, 46 => .is true | true, 53 => .is true
    | _, _ => match Nat.beq f iTurn, t with
      | true, 19 => .is true | true, 30 => .is true | _, _ => .keep
abbrev oA (k m a b c : Int) (t : List UInt8) : V := .agg 6 [.int .i64 k, .int .i64 m, .int .i64 a, .int .i64 b, .int .i64 c, .str t] .leaf
abbrev is (k : Nat) (b : Bool) : V → H → Prop := fun v _ => v = .tuple [.int .i64 (Int.ofNat k), .bool b]
theorem k0 (a b c d e f g h i j : Int) : (fnW G0 sp 200 iTurn [cfgV a b c d e f g h i j, oA 7 0 0 0 0 []] hE (is 0 true)) = (
((true) = (true)) ∧
(((true) = (true)) ∧
 (((ilt (Int.ofNat 0) b) = (true)) ∧
  ((((b) = (b)) ∧
    (((Int.ofNat 0) = (Int.ofNat 0)) ∧
     (((Int.ofNat 0) = (Int.ofNat 0)) ∧
      (True)))) ∧
   ((V.tuple [V.int IntKind.i64 (Int.ofNat 0), V.bool true]) = (V.tuple [V.int IntKind.i64 (Int.ofNat 0), V.bool true])))))) := by kernel_rfl
theorem k1 (a b c d e f g h i j : Int) : (fnW G0 sp 200 iTurn [cfgV a b c d e f g h i j, oA 7 1 0 0 0 []] hE (is 1 true)) = (
((true) = (true)) ∧
(((true) = (true)) ∧
 (((ilt (Int.ofNat 1) b) = (true)) ∧
  ((((b) = (b)) ∧
    (((Int.ofNat 1) = (Int.ofNat 1)) ∧
     (((Int.ofNat 1) = (Int.ofNat 1)) ∧
      (True)))) ∧
   ((V.tuple [V.int IntKind.i64 (Int.ofNat 1), V.bool true]) = (V.tuple [V.int IntKind.i64 (Int.ofNat 1), V.bool true])))))) := by kernel_rfl
theorem k4 (a b c d e f g h i j : Int) (x : Int) : (fnW G0 sp 200 iTurn [cfgV a b c d e f g h i j, oA 13 0 x 0 0 []] hE (is 4 true)) = (
((!ilt x (Int.ofNat 1)) = (true)) ∧
(((!ilt (Int.ofNat 10000) x) = (true)) ∧
 ((V.tuple [V.int IntKind.i64 (Int.ofNat 4), V.bool true]) = (V.tuple [V.int IntKind.i64 (Int.ofNat 4), V.bool true])))) := by kernel_rfl
theorem k5 (a b c d e f g h i j : Int) : (fnW G0 sp 200 iTurn [cfgV a b c d e f g h i j, oA 14 0 0 0 0 []] hE (is 5 true)) = (
(V.tuple [V.int IntKind.i64 (Int.ofNat 5), V.bool true]) = (V.tuple [V.int IntKind.i64 (Int.ofNat 5), V.bool true])) := by kernel_rfl
theorem k6 (a b c d e f g h i j : Int) (x : Int) : (fnW G0 sp 200 iTurn [cfgV a b c d e f g h i j, oA 15 0 x 0 0 []] hE (is 6 true)) = (
((!ilt x (Int.ofNat 1)) = (true)) ∧
(((!ilt (Int.ofNat 1048576) x) = (true)) ∧
 (((!ilt x i) = (true)) ∧
  ((((i) = (i)) ∧
    (((x) = (x)) ∧
     (True))) ∧
   ((V.tuple [V.int IntKind.i64 (Int.ofNat 6), V.bool true]) = (V.tuple [V.int IntKind.i64 (Int.ofNat 6), V.bool true])))))) := by kernel_rfl
theorem k7 (a b c d e f g h i j : Int) : (fnW G0 sp 200 iTurn [cfgV a b c d e f g h i j, oA 16 0 0 0 0 []] hE (is 7 true)) = (
(V.tuple [V.int IntKind.i64 (Int.ofNat 7), V.bool true]) = (V.tuple [V.int IntKind.i64 (Int.ofNat 7), V.bool true])) := by kernel_rfl
theorem n1 (a b c d e f g h i j : Int) (x y : Int) : (fnW G0 sp 200 iTurn [cfgV a b c d e f g h i j, oA 1 x y 0 0 []] hE (is 0 false)) = (
((!ilt x (Int.ofNat 0)) = (true)) ∧
(((!ilt (Int.ofNat 3) x) = (true)) ∧
 (((!ilt y (Int.ofNat 0)) = (true)) ∧
  (((!ilt (Int.ofNat 4) y) = (true)) ∧
   ((V.tuple [V.int IntKind.i64 (Int.ofNat 0), V.bool false]) = (V.tuple [V.int IntKind.i64 (Int.ofNat 0), V.bool false])))))) := by kernel_rfl
theorem n3 (a b c d e f g h i j : Int) (x y z w : Int) : (fnW G0 sp 200 iTurn [cfgV a b c d e f g h i j, oA 3 x y z w []] hE (is 0 false)) = (
((!ilt x (Int.ofNat 0)) = (true)) ∧
(((!ilt (Int.ofNat 3) x) = (true)) ∧
 (((!ilt y (Int.ofNat 0)) = (true)) ∧
  (((!ilt (Int.ofNat 31) y) = (true)) ∧
   (((!ilt z (Int.ofNat 0)) = (true)) ∧
    (((!ilt (Int.ofNat 3) z) = (true)) ∧
     (((!ilt w (Int.negSucc 0)) = (true)) ∧
      (((!ilt (Int.ofNat 31) w) = (true)) ∧
       ((V.tuple [V.int IntKind.i64 (Int.ofNat 0), V.bool false]) = (V.tuple [V.int IntKind.i64 (Int.ofNat 0), V.bool false])))))))))) := by kernel_rfl
theorem n4 (a b c d e f g h i j : Int) (x y : Int) : (fnW G0 sp 200 iTurn [cfgV a b c d e f g h i j, oA 4 x y 0 0 []] hE (is 0 false)) = (
((!ilt x (Int.ofNat 0)) = (true)) ∧
(((!ilt (Int.ofNat 3) x) = (true)) ∧
 (((!ilt y (Int.ofNat 0)) = (true)) ∧
  (((!ilt (Int.ofNat 31) y) = (true)) ∧
   ((V.tuple [V.int IntKind.i64 (Int.ofNat 0), V.bool false]) = (V.tuple [V.int IntKind.i64 (Int.ofNat 0), V.bool false])))))) := by kernel_rfl
theorem n5 (a b c d e f g h i j : Int) (x y z : Int) : (fnW G0 sp 200 iTurn [cfgV a b c d e f g h i j, oA 5 x y z 0 []] hE (is 0 false)) = (
((!ilt x (Int.ofNat 0)) = (true)) ∧
(((!ilt (Int.ofNat 3) x) = (true)) ∧
 (((!ilt y (Int.negSucc 0)) = (true)) ∧
  (((!ilt (Int.ofNat 31) y) = (true)) ∧
   (((!ilt z (Int.ofNat 0)) = (true)) ∧
    (((!ilt (Int.ofNat 7) z) = (true)) ∧
     ((V.tuple [V.int IntKind.i64 (Int.ofNat 0), V.bool false]) = (V.tuple [V.int IntKind.i64 (Int.ofNat 0), V.bool false])))))))) := by kernel_rfl
theorem n6 (a b c d e f g h i j : Int) (x z : Int) : (fnW G0 sp 200 iTurn [cfgV a b c d e f g h i j, oA 6 x 0 z 0 []] hE (is 0 false)) = (
((!ilt x (Int.ofNat 0)) = (true)) ∧
(((!ilt (Int.ofNat 3) x) = (true)) ∧
 (((!ilt z (Int.ofNat 0)) = (true)) ∧
  (((!ilt (Int.ofNat 7) z) = (true)) ∧
   ((V.tuple [V.int IntKind.i64 (Int.ofNat 0), V.bool false]) = (V.tuple [V.int IntKind.i64 (Int.ofNat 0), V.bool false])))))) := by kernel_rfl
theorem n2 (a b c d e f g h i j : Int) (x y z : Int) : (fnW G0 sp 200 iTurn [cfgV a b c d e f g h i j, oA 2 x y z 0 []] hE (is 0 false)) = (
((!ilt x (Int.ofNat 0)) = (true)) ∧
(((!ilt (Int.ofNat 3) x) = (true)) ∧
 (((!ilt y (Int.ofNat 0)) = (true)) ∧
  (((!ilt (Int.ofNat 31) y) = (true)) ∧
   (((!ilt z (Int.ofNat 0)) = (true)) ∧
    (((!ilt (Int.ofNat 3) z) = (true)) ∧
     ((V.tuple [V.int IntKind.i64 (Int.ofNat 0), V.bool false]) = (V.tuple [V.int IntKind.i64 (Int.ofNat 0), V.bool false])))))))) := by kernel_rfl
theorem n10 (a b c d e f g h i j : Int) (x y : Int) : (fnW G0 sp 200 iTurn [cfgV a b c d e f g h i j, oA 10 x y 0 0 []] hE (is 0 false)) = (
((!ilt x (Int.ofNat 0)) = (true)) ∧
(((!ilt (Int.ofNat 3) x) = (true)) ∧
 (((!ilt y (Int.ofNat 0)) = (true)) ∧
  (((!ilt (Int.ofNat 1999) y) = (true)) ∧
   ((V.tuple [V.int IntKind.i64 (Int.ofNat 0), V.bool false]) = (V.tuple [V.int IntKind.i64 (Int.ofNat 0), V.bool false])))))) := by kernel_rfl
theorem n12 (a b c d e f g h i j : Int) (x y : Int) : (fnW G0 sp 200 iTurn [cfgV a b c d e f g h i j, oA 12 x y 0 0 []] hE (is 0 false)) = (
((!ilt x (Int.ofNat 0)) = (true)) ∧
(((!ilt (Int.ofNat 3) x) = (true)) ∧
 (((!ilt y (Int.ofNat 0)) = (true)) ∧
  (((!ilt (Int.ofNat 1999) y) = (true)) ∧
   ((V.tuple [V.int IntKind.i64 (Int.ofNat 0), V.bool false]) = (V.tuple [V.int IntKind.i64 (Int.ofNat 0), V.bool false])))))) := by kernel_rfl
theorem n8 (a b c d e f g h i j : Int) (x y z : Int) : (fnW G0 sp 200 iTurn [cfgV a b c d e f g h i j, oA 8 x y z 0 [116, 97, 103]] hE (is 0 false)) = (
((!ilt x (Int.ofNat 0)) = (true)) ∧
(((!ilt (Int.ofNat 3) x) = (true)) ∧
 (((!ilt y (Int.ofNat 1)) = (true)) ∧
  (((!ilt (Int.ofNat 3) y) = (true)) ∧
   (((!ilt z (Int.ofNat 0)) = (true)) ∧
    (((!ilt (Int.ofNat 1048576) z) = (true)) ∧
     ((V.tuple [V.int IntKind.i64 (Int.ofNat 0), V.bool false]) = (V.tuple [V.int IntKind.i64 (Int.ofNat 0), V.bool false])))))))) := by kernel_rfl
end BT
end Go.Proofs.YtcbggkejlhifpaaGreatDoor

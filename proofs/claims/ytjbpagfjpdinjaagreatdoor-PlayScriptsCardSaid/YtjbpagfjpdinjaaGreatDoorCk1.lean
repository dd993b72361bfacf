/- op.Check at the operations that are drawn: what it says, kind by kind. -/
import Derived.Test.YtjbpagfjpdinjaaGreatDoorOp3
import Derived.Test.YtjbpagfjpdinjaaGreatDoorEvE
namespace Go.Proofs.YtjbpagfjpdinjaaGreatDoor
set_option maxRecDepth 100000
set_option maxHeartbeats 4000000
open Go.Ev Go.RowKit
def gLet : Nat := iLetters
def letters : List Nat := [0, 111, 108, 102]
noncomputable def gsL : List (Nat × List V) := [(gLet, bytesV letters)]
noncomputable def roL (l : List (Nat × List V)) : List (Nat × O) := l.map fun p => (p.1, .ro (some 0) p.2.length p.2 .leaf)
namespace CK
noncomputable def hL : H := ⟨varsT gsL, 1000⟩
noncomputable def sp : SpF where
  at' := fun f t => match Nat.beq f iOpChk, t with
    | true, 46 => .is true | true, 53 => .is true | _, _ => .keep
abbrev oA (k m a b c : Int) (t : List UInt8) : V := .agg 6 [.int .i64 k, .int .i64 m, .int .i64 a, .int .i64 b, .int .i64 c, .str t] .leaf
abbrev okV : V → H → Prop := fun v _ => v = .int .i64 (Int.ofNat 0)
theorem v1 (m a : Int) : (fnW G0 sp 200 iOpChk [oA 1 m a 0 0 []] hL okV) = (
((!ilt m (Int.ofNat 0)) = (true)) ∧
(((!ilt (Int.ofNat 3) m) = (true)) ∧
 (((!ilt a (Int.ofNat 0)) = (true)) ∧
  (((!ilt (Int.ofNat 4) a) = (true)) ∧
   ((V.int IntKind.i64 (Int.ofNat 0)) = (V.int IntKind.i64 (Int.ofNat 0))))))) := by kernel_rfl
theorem v2 (m a b : Int) : (fnW G0 sp 200 iOpChk [oA 2 m a b 0 []] hL okV) = (
((!ilt m (Int.ofNat 0)) = (true)) ∧
(((!ilt (Int.ofNat 3) m) = (true)) ∧
 (((!ilt a (Int.ofNat 0)) = (true)) ∧
  (((!ilt (Int.ofNat 31) a) = (true)) ∧
   (((!ilt b (Int.ofNat 0)) = (true)) ∧
    (((!ilt (Int.ofNat 3) b) = (true)) ∧
     ((V.int IntKind.i64 (Int.ofNat 0)) = (V.int IntKind.i64 (Int.ofNat 0))))))))) := by kernel_rfl
theorem v3 (m a b c : Int) : (fnW G0 sp 200 iOpChk [oA 3 m a b c []] hL okV) = (
((!ilt m (Int.ofNat 0)) = (true)) ∧
(((!ilt (Int.ofNat 3) m) = (true)) ∧
 (((!ilt a (Int.ofNat 0)) = (true)) ∧
  (((!ilt (Int.ofNat 31) a) = (true)) ∧
   (((!ilt b (Int.ofNat 0)) = (true)) ∧
    (((!ilt (Int.ofNat 3) b) = (true)) ∧
     (((!ilt c (Int.negSucc 0)) = (true)) ∧
      (((!ilt (Int.ofNat 31) c) = (true)) ∧
       ((V.int IntKind.i64 (Int.ofNat 0)) = (V.int IntKind.i64 (Int.ofNat 0))))))))))) := by kernel_rfl
theorem v4 (m a : Int) : (fnW G0 sp 200 iOpChk [oA 4 m a 0 0 []] hL okV) = (
((!ilt m (Int.ofNat 0)) = (true)) ∧
(((!ilt (Int.ofNat 3) m) = (true)) ∧
 (((!ilt a (Int.ofNat 0)) = (true)) ∧
  (((!ilt (Int.ofNat 31) a) = (true)) ∧
   ((V.int IntKind.i64 (Int.ofNat 0)) = (V.int IntKind.i64 (Int.ofNat 0))))))) := by kernel_rfl
theorem v5 (m a b : Int) : (fnW G0 sp 200 iOpChk [oA 5 m a b 0 []] hL okV) = (
((!ilt m (Int.ofNat 0)) = (true)) ∧
(((!ilt (Int.ofNat 3) m) = (true)) ∧
 (((!ilt a (Int.negSucc 0)) = (true)) ∧
  (((!ilt (Int.ofNat 31) a) = (true)) ∧
   (((!ilt b (Int.ofNat 0)) = (true)) ∧
    (((!ilt (Int.ofNat 7) b) = (true)) ∧
     ((V.int IntKind.i64 (Int.ofNat 0)) = (V.int IntKind.i64 (Int.ofNat 0))))))))) := by kernel_rfl
theorem v6 (m b : Int) : (fnW G0 sp 200 iOpChk [oA 6 m 0 b 0 []] hL okV) = (
((!ilt m (Int.ofNat 0)) = (true)) ∧
(((!ilt (Int.ofNat 3) m) = (true)) ∧
 (((!ilt b (Int.ofNat 0)) = (true)) ∧
  (((!ilt (Int.ofNat 7) b) = (true)) ∧
   ((V.int IntKind.i64 (Int.ofNat 0)) = (V.int IntKind.i64 (Int.ofNat 0))))))) := by kernel_rfl
theorem v7 (m : Int) : (fnW G0 sp 200 iOpChk [oA 7 m 0 0 0 []] hL okV) = (
((!ilt m (Int.ofNat 0)) = (true)) ∧
(((!ilt (Int.ofNat 3) m) = (true)) ∧
 ((V.int IntKind.i64 (Int.ofNat 0)) = (V.int IntKind.i64 (Int.ofNat 0))))) := by kernel_rfl
theorem v9 (m a : Int) : (fnW G0 sp 200 iOpChk [oA 9 m a 0 0 []] hL okV) = (
((!ilt m (Int.ofNat 0)) = (true)) ∧
(((!ilt (Int.ofNat 3) m) = (true)) ∧
 (((!ilt a (Int.ofNat 0)) = (true)) ∧
  (((!ilt (Int.ofNat 1999) a) = (true)) ∧
   ((V.int IntKind.i64 (Int.ofNat 0)) = (V.int IntKind.i64 (Int.ofNat 0))))))) := by kernel_rfl
theorem v10 (m a : Int) : (fnW G0 sp 200 iOpChk [oA 10 m a 0 0 []] hL okV) = (
((!ilt m (Int.ofNat 0)) = (true)) ∧
(((!ilt (Int.ofNat 3) m) = (true)) ∧
 (((!ilt a (Int.ofNat 0)) = (true)) ∧
  (((!ilt (Int.ofNat 1999) a) = (true)) ∧
   ((V.int IntKind.i64 (Int.ofNat 0)) = (V.int IntKind.i64 (Int.ofNat 0))))))) := by kernel_rfl
theorem v11 (m a b : Int) : (fnW G0 sp 200 iOpChk [oA 11 m a b 0 []] hL okV) = (
((!ilt m (Int.ofNat 0)) = (true)) ∧
(((!ilt (Int.ofNat 3) m) = (true)) ∧
 (((!ilt a (Int.ofNat 0)) = (true)) ∧
  (((!ilt (Int.ofNat 1999) a) = (true)) ∧
   (((!ilt b (Int.ofNat 1)) = (true)) ∧
    (((!ilt (Int.ofNat 1048576) b) = (true)) ∧
     ((V.int IntKind.i64 (Int.ofNat 0)) = (V.int IntKind.i64 (Int.ofNat 0))))))))) := by kernel_rfl
theorem v12 (m a : Int) : (fnW G0 sp 200 iOpChk [oA 12 m a 0 0 []] hL okV) = (
((!ilt m (Int.ofNat 0)) = (true)) ∧
(((!ilt (Int.ofNat 3) m) = (true)) ∧
 (((!ilt a (Int.ofNat 0)) = (true)) ∧
  (((!ilt (Int.ofNat 1999) a) = (true)) ∧
   ((V.int IntKind.i64 (Int.ofNat 0)) = (V.int IntKind.i64 (Int.ofNat 0))))))) := by kernel_rfl
theorem v13 (a : Int) : (fnW G0 sp 200 iOpChk [oA 13 0 a 0 0 []] hL okV) = (
((!ilt a (Int.ofNat 1)) = (true)) ∧
(((!ilt (Int.ofNat 10000) a) = (true)) ∧
 ((V.int IntKind.i64 (Int.ofNat 0)) = (V.int IntKind.i64 (Int.ofNat 0))))) := by kernel_rfl
theorem v14  : (fnW G0 sp 200 iOpChk [oA 14 0 0 0 0 []] hL okV) = (
(V.int IntKind.i64 (Int.ofNat 0)) = (V.int IntKind.i64 (Int.ofNat 0))) := by kernel_rfl
theorem v15 (a : Int) : (fnW G0 sp 200 iOpChk [oA 15 0 a 0 0 []] hL okV) = (
((!ilt a (Int.ofNat 1)) = (true)) ∧
(((!ilt (Int.ofNat 1048576) a) = (true)) ∧
 ((V.int IntKind.i64 (Int.ofNat 0)) = (V.int IntKind.i64 (Int.ofNat 0))))) := by kernel_rfl
theorem v16  : (fnW G0 sp 200 iOpChk [oA 16 0 0 0 0 []] hL okV) = (
(V.int IntKind.i64 (Int.ofNat 0)) = (V.int IntKind.i64 (Int.ofNat 0))) := by kernel_rfl
theorem v8a (m a b : Int) : (fnW G0 sp 200 iOpChk [oA 8 m a b 0 [97]] hL okV) = (
((!ilt m (Int.ofNat 0)) = (true)) ∧
(((!ilt (Int.ofNat 3) m) = (true)) ∧
 (((!ilt a (Int.ofNat 1)) = (true)) ∧
  (((!ilt (Int.ofNat 3) a) = (true)) ∧
   (((!ilt b (Int.ofNat 0)) = (true)) ∧
    (((!ilt (Int.ofNat 1048576) b) = (true)) ∧
     ((V.int IntKind.i64 (Int.ofNat 0)) = (V.int IntKind.i64 (Int.ofNat 0))))))))) := by kernel_rfl
theorem v8b (m a b : Int) : (fnW G0 sp 200 iOpChk [oA 8 m a b 0 [98, 32, 99]] hL okV) = (
((!ilt m (Int.ofNat 0)) = (true)) ∧
(((!ilt (Int.ofNat 3) m) = (true)) ∧
 (((!ilt a (Int.ofNat 1)) = (true)) ∧
  (((!ilt (Int.ofNat 3) a) = (true)) ∧
   (((!ilt b (Int.ofNat 0)) = (true)) ∧
    (((!ilt (Int.ofNat 1048576) b) = (true)) ∧
     ((V.int IntKind.i64 (Int.ofNat 0)) = (V.int IntKind.i64 (Int.ofNat 0))))))))) := by kernel_rfl
theorem v8c (m a b : Int) : (fnW G0 sp 200 iOpChk [oA 8 m a b 0 [109, 97, 105, 110]] hL okV) = (
((!ilt m (Int.ofNat 0)) = (true)) ∧
(((!ilt (Int.ofNat 3) m) = (true)) ∧
 (((!ilt a (Int.ofNat 1)) = (true)) ∧
  (((!ilt (Int.ofNat 3) a) = (true)) ∧
   (((!ilt b (Int.ofNat 0)) = (true)) ∧
    (((!ilt (Int.ofNat 1048576) b) = (true)) ∧
     ((V.int IntKind.i64 (Int.ofNat 0)) = (V.int IntKind.i64 (Int.ofNat 0))))))))) := by kernel_rfl
theorem v17a  : (fnW G0 sp 200 iOpChk [oA 17 0 0 0 0 [111]] hL okV) = (
(((True) ∧
  (([111] : List UInt8) = ([111]))) ∧
 (True)) ∧
((V.int IntKind.i64 (Int.ofNat 0)) = (V.int IntKind.i64 (Int.ofNat 0)))) := by kernel_rfl
theorem v17b  : (fnW G0 sp 200 iOpChk [oA 17 0 0 0 0 [108]] hL okV) = (
(((True) ∧
  (([108] : List UInt8) = ([108]))) ∧
 (True)) ∧
((V.int IntKind.i64 (Int.ofNat 0)) = (V.int IntKind.i64 (Int.ofNat 0)))) := by kernel_rfl
theorem v17c  : (fnW G0 sp 200 iOpChk [oA 17 0 0 0 0 [102]] hL okV) = (
(((True) ∧
  (([102] : List UInt8) = ([102]))) ∧
 (True)) ∧
((V.int IntKind.i64 (Int.ofNat 0)) = (V.int IntKind.i64 (Int.ofNat 0)))) := by kernel_rfl
theorem v17d  : (fnW G0 sp 200 iOpChk [oA 17 0 0 0 0 [108, 111]] hL okV) = (
(((True) ∧
  (([108, 111] : List UInt8) = ([108, 111]))) ∧
 (True)) ∧
((((True) ∧
   (([108, 111] : List UInt8) = ([108, 111]))) ∧
  (True)) ∧
 ((V.int IntKind.i64 (Int.ofNat 0)) = (V.int IntKind.i64 (Int.ofNat 0))))) := by kernel_rfl
theorem v17e  : (fnW G0 sp 200 iOpChk [oA 17 0 0 0 0 [111, 108]] hL okV) = (
(((True) ∧
  (([111, 108] : List UInt8) = ([111, 108]))) ∧
 (True)) ∧
((((True) ∧
   (([111, 108] : List UInt8) = ([111, 108]))) ∧
  (True)) ∧
 ((V.int IntKind.i64 (Int.ofNat 0)) = (V.int IntKind.i64 (Int.ofNat 0))))) := by kernel_rfl
theorem m1  : (fnW G0 sp 200 iMut [.int .i64 1] hE (fun v _ => v = .bool true)) = (
(V.bool true) = (V.bool true)) := by kernel_rfl
theorem m2  : (fnW G0 sp 200 iMut [.int .i64 2] hE (fun v _ => v = .bool true)) = (
(V.bool true) = (V.bool true)) := by kernel_rfl
theorem m3  : (fnW G0 sp 200 iMut [.int .i64 3] hE (fun v _ => v = .bool true)) = (
(V.bool true) = (V.bool true)) := by kernel_rfl
theorem m4  : (fnW G0 sp 200 iMut [.int .i64 4] hE (fun v _ => v = .bool true)) = (
(V.bool true) = (V.bool true)) := by kernel_rfl
theorem m5  : (fnW G0 sp 200 iMut [.int .i64 5] hE (fun v _ => v = .bool true)) = (
(V.bool true) = (V.bool true)) := by kernel_rfl
theorem m6  : (fnW G0 sp 200 iMut [.int .i64 6] hE (fun v _ => v = .bool true)) = (
(V.bool true) = (V.bool true)) := by kernel_rfl
theorem m7  : (fnW G0 sp 200 iMut [.int .i64 7] hE (fun v _ => v = .bool true)) = (
(V.bool true) = (V.bool true)) := by kernel_rfl
theorem m8  : (fnW G0 sp 200 iMut [.int .i64 8] hE (fun v _ => v = .bool true)) = (
(V.bool true) = (V.bool true)) := by kernel_rfl
theorem m9  : (fnW G0 sp 200 iMut [.int .i64 9] hE (fun v _ => v = .bool true)) = (
(V.bool true) = (V.bool true)) := by kernel_rfl
theorem m10  : (fnW G0 sp 200 iMut [.int .i64 10] hE (fun v _ => v = .bool true)) = (
(V.bool true) = (V.bool true)) := by kernel_rfl
theorem m11  : (fnW G0 sp 200 iMut [.int .i64 11] hE (fun v _ => v = .bool true)) = (
(V.bool true) = (V.bool true)) := by kernel_rfl
theorem m12  : (fnW G0 sp 200 iMut [.int .i64 12] hE (fun v _ => v = .bool true)) = (
(V.bool true) = (V.bool true)) := by kernel_rfl
theorem m13  : (fnW G0 sp 200 iMut [.int .i64 13] hE (fun v _ => v = .bool false)) = (
(V.bool false) = (V.bool false)) := by kernel_rfl
theorem m14  : (fnW G0 sp 200 iMut [.int .i64 14] hE (fun v _ => v = .bool false)) = (
(V.bool false) = (V.bool false)) := by kernel_rfl
theorem m15  : (fnW G0 sp 200 iMut [.int .i64 15] hE (fun v _ => v = .bool false)) = (
(V.bool false) = (V.bool false)) := by kernel_rfl
theorem m16  : (fnW G0 sp 200 iMut [.int .i64 16] hE (fun v _ => v = .bool false)) = (
(V.bool false) = (V.bool false)) := by kernel_rfl
theorem m17  : (fnW G0 sp 200 iMut [.int .i64 17] hE (fun v _ => v = .bool false)) = (
(V.bool false) = (V.bool false)) := by kernel_rfl
end CK
end Go.Proofs.YtjbpagfjpdinjaaGreatDoor

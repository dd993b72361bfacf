/- slices.Equal at two rows of operations: its parts. -/
import Derived.Test.YtjbpagfjpdinjaaGreatDoorRn2
namespace Go.Proofs.YtjbpagfjpdinjaaGreatDoor
set_option maxRecDepth 100000
set_option maxHeartbeats 4000000
open Go.Ev Go.RowKit
namespace EQ
noncomputable def fn : Func := match Tryz.prog.funcs[iEqual]? with
  | some f => f
  | .none => default
noncomputable def code : Code := match fn.body with
  | some c => c
  | .none => .skip
noncomputable def e0 : Code := cFst code
noncomputable def u1 : Code := cSnd code
noncomputable def e1 : Code := cFst u1
noncomputable def u2 : Code := cSnd u1
noncomputable def z : Code := cFst u2
noncomputable def u3 : Code := cSnd u2
noncomputable def r3 : Code := cFst z
noncomputable def bl : Code := cSnd z
noncomputable def lp : Code := cFst bl
noncomputable def bd : Code := cFst lp
theorem isFn : Tryz.prog.funcs[iEqual]? = some fn := by kernel_rfl
theorem body : fn.body = some code := by kernel_rfl
theorem tmps : fn.ntmps = 26 := by kernel_rfl
theorem cut : code = nest [e0, e1] u2 := by kernel_rfl
theorem q3 : u2 = .seq z u3 := by kernel_rfl
theorem q4 : z = .seq r3 bl := by kernel_rfl
theorem q5 : bl = .block 0 lp := by kernel_rfl
theorem q6 : lp = .loop bd := by kernel_rfl
theorem ok0 : [e0, e1].all okC = true := by kernel_rfl
theorem ok3 : okC r3 = true := by kernel_rfl
theorem ok5 : okC bd = true := by kernel_rfl
theorem ok9 : okC u3 = true := by kernel_rfl
abbrev opK : List LK := [.int .i64, .int .i64, .int .i64, .int .i64, .int .i64, .str]
noncomputable def sp : SpF where
  at' := fun f t => match Nat.beq f iEqual, t with
    | true, 10 => .is false | true, 14 => .both | true, 18 => .idx | true, 19 => .ldA opK | true, 22 => .idx | true, 23 => .ldA opK | true, 24 => .is false | _, _ => .keep
noncomputable def S (l : List (Nat × V)) (h : H) : St := ⟨envL 26 l, h, []⟩
abbrev roO (A : List V) : O := .ro none A.length A .leaf
noncomputable def hQ (A B : List V) : H := ⟨T.put (T.put .leaf 1002 (some (roO A))) 1003 (some (roO B)), 1010⟩
noncomputable def hasS (l : List (Nat × V)) (st : St) : Prop := hasT st.env l ∧ st.env.sz = 26 ∧ noDefs st.defs = true
abbrev sA (n : Nat) (c : Cap) : V := .slice 1002 0 n c
abbrev sB (n : Nat) (c : Cap) : V := .slice 1003 0 n c
noncomputable def inv (n : Nat) (c d : Cap) (i : Int) : List (Nat × V) := [(0, sA n c), (1, sB n d), (12, .int .i64 (Int.ofNat n)), (13, .int .i64 i)]
noncomputable def retIs (Q : V → Prop) (st : St) : Prop := match takeAll st.defs st.h with
  | some h2 => match resultsO G0 h2 st.env fn with
    | some v => Q v
    | .none => False
  | .none => False
noncomputable def KN (l : List (Nat × V)) (h : H) (x : X) (st : St) : Prop := match x with
  | .normal => hasS l st ∧ eqH st.h h
  | _ => False
noncomputable def K5 (n : Nat) (c d : Cap) (i : Int) (h : H) (E : Prop) (x : X) (st : St) : Prop := match x with
  | .normal => E ∧ hasS (inv n c d (wr .i64 (Int.add i (Int.ofNat 1)))) st ∧ eqH st.h ⟨h.tr, 1019⟩
  | .exit k => (E → False) ∧ Nat.beq k 0 = true ∧ hasS [(0, sA n c)] st ∧ eqH st.h h
  | _ => False
noncomputable def ldQ (b : Nat) (k : Nat) (A B : List V) : Option V := rLoad (G0.ty tOp) ⟨(hQ A B).tr, 1019⟩ (some (.ptr b (Nat.add 0 (Nat.mul k 6))))
theorem w1 (n : Nat) (c d : Cap) (A B : List V) : (evL G0 sp 60 iEqual [e0, e1] (KN [(0, sA n c), (1, sB n d)] (hQ A B)) (S [(0, sA n c), (1, sB n d)] (hQ A B))) = (
((!ieq (Int.ofNat n) (Int.ofNat n)) = (false)) ∧
(((((some (V.slice 1002 0 n c)) = (some (V.slice 1002 0 n c))) ∧
   (((some (V.slice 1003 0 n d)) = (some (V.slice 1003 0 n d))) ∧
    (True))) ∧
  (((26) = (26)) ∧
   ((true) = (true)))) ∧
 (((((T.leaf.node none
          (T.leaf.node none
            ((T.leaf.node none
                  (T.leaf.node none
                    (T.leaf.node none
                      (T.leaf.node none (T.leaf.node (some (O.ro none B.length B T.leaf)) T.leaf))))).node
              none T.leaf))).node
      none T.leaf).node
  none
  (T.leaf.node none
    ((T.leaf.node none
          ((T.leaf.node none
                (T.leaf.node none
                  (T.leaf.node none (T.leaf.node none (T.leaf.node (some (O.ro none A.length A T.leaf)) T.leaf))))).node
            none T.leaf)).node
      none T.leaf))) = (((T.leaf.node none
          (T.leaf.node none
            ((T.leaf.node none
                  (T.leaf.node none
                    (T.leaf.node none
                      (T.leaf.node none (T.leaf.node (some (O.ro none B.length B T.leaf)) T.leaf))))).node
              none T.leaf))).node
      none T.leaf).node
  none
  (T.leaf.node none
    ((T.leaf.node none
          ((T.leaf.node none
                (T.leaf.node none
                  (T.leaf.node none (T.leaf.node none (T.leaf.node (some (O.ro none A.length A T.leaf)) T.leaf))))).node
            none T.leaf)).node
      none T.leaf)))) ∧
  ((1010) = (1010))))) := by kernel_rfl
theorem w3 (n : Nat) (c d : Cap) (A B : List V) : (evW G0 sp 60 r3 none iEqual (S [(0, sA n c), (1, sB n d)] (hQ A B)) (KN (inv n c d (Int.ofNat 0)) (hQ A B))) = (
((((some (V.slice 1002 0 n c)) = (some (V.slice 1002 0 n c))) ∧
  (((some (V.slice 1003 0 n d)) = (some (V.slice 1003 0 n d))) ∧
   (((some (V.int IntKind.i64 (Int.ofNat n))) = (some (V.int IntKind.i64 (Int.ofNat n)))) ∧
    (((some (V.int IntKind.i64 (Int.ofNat 0))) = (some (V.int IntKind.i64 (Int.ofNat 0)))) ∧
     (True))))) ∧
 (((26) = (26)) ∧
  ((true) = (true)))) ∧
(((((T.leaf.node none
          (T.leaf.node none
            ((T.leaf.node none
                  (T.leaf.node none
                    (T.leaf.node none
                      (T.leaf.node none (T.leaf.node (some (O.ro none B.length B T.leaf)) T.leaf))))).node
              none T.leaf))).node
      none T.leaf).node
  none
  (T.leaf.node none
    ((T.leaf.node none
          ((T.leaf.node none
                (T.leaf.node none
                  (T.leaf.node none (T.leaf.node none (T.leaf.node (some (O.ro none A.length A T.leaf)) T.leaf))))).node
            none T.leaf)).node
      none T.leaf))) = (((T.leaf.node none
          (T.leaf.node none
            ((T.leaf.node none
                  (T.leaf.node none
                    (T.leaf.node none
                      (T.leaf.node none (T.leaf.node (some (O.ro none B.length B T.leaf)) T.leaf))))).node
              none T.leaf))).node
      none T.leaf).node
  none
  (T.leaf.node none
    ((T.leaf.node none
          ((T.leaf.node none
                (T.leaf.node none
                  (T.leaf.node none (T.leaf.node none (T.leaf.node (some (O.ro none A.length A T.leaf)) T.leaf))))).node
            none T.leaf)).node
      none T.leaf)))) ∧
 ((1010) = (1010)))) := by kernel_rfl
theorem w5 (n : Nat) (c d : Cap) (A B : List V) (k : Nat) (E : Prop) : (evW G0 sp 60 bd none iEqual (S (inv n c d (Int.ofNat k)) (hQ A B)) (K5 n c d (Int.ofNat k) (hQ A B) E)) = (
(((ilt (Int.ofNat k) (Int.ofNat n)) = (true)) → ((false) = (false)) ∧
 (((ilt (Int.ofNat k) (Int.ofNat n)) = (true)) ∧
  ((∃ l, (ldQ 1002 k A B) = (some (V.agg 6 l T.leaf)) ∧ LK.shape [LK.int IntKind.i64, LK.int IntKind.i64, LK.int IntKind.i64, LK.int IntKind.i64, LK.int IntKind.i64, LK.str] l) ∧
   (∀ y0 : Int, ∀ y1 : Int, ∀ y2 : Int, ∀ y3 : Int, ∀ y4 : Int, ∀ y5 : List UInt8, ((ldQ 1002 k A B) = (some
  (V.agg 6
    ([] ++ [V.int IntKind.i64 y0] ++ [V.int IntKind.i64 y1] ++ [V.int IntKind.i64 y2] ++ [V.int IntKind.i64 y3] ++
        [V.int IntKind.i64 y4] ++
      [V.str y5])
    T.leaf))) → ((false) = (false)) ∧
    (((ilt (Int.ofNat k) (Int.ofNat n)) = (true)) ∧
     ((∃ l, (ldQ 1003 k A B) = (some (V.agg 6 l T.leaf)) ∧ LK.shape [LK.int IntKind.i64, LK.int IntKind.i64, LK.int IntKind.i64, LK.int IntKind.i64, LK.int IntKind.i64, LK.str] l) ∧
      (∀ y6 : Int, ∀ y7 : Int, ∀ y8 : Int, ∀ y9 : Int, ∀ y10 : Int, ∀ y11 : List UInt8, ((ldQ 1003 k A B) = (some
  (V.agg 6
    ([] ++ [V.int IntKind.i64 y6] ++ [V.int IntKind.i64 y7] ++ [V.int IntKind.i64 y8] ++ [V.int IntKind.i64 y9] ++
        [V.int IntKind.i64 y10] ++
      [V.str y11])
    T.leaf))) → ((!(ieq y0 y6 && (ieq y1 y7 && (ieq y2 y8 && (ieq y3 y9 && (ieq y4 y10 && (y5 == y11 && true))))))) = (false)) ∧
       (((((ldQ 1003 k A B) = (some
  (V.agg 6
    ([] ++ [V.int IntKind.i64 y6] ++ [V.int IntKind.i64 y7] ++ [V.int IntKind.i64 y8] ++ [V.int IntKind.i64 y9] ++
        [V.int IntKind.i64 y10] ++
      [V.str y11])
    T.leaf))) ∧
          (((y6) = (y6)) ∧
           (((y7) = (y7)) ∧
            (((y8) = (y8)) ∧
             (((y9) = (y9)) ∧
              (((y10) = (y10)) ∧
               (((y11) = (y11)) ∧
                (True)))))))) ∧
         ((((ldQ 1002 k A B) = (some
  (V.agg 6
    ([] ++ [V.int IntKind.i64 y0] ++ [V.int IntKind.i64 y1] ++ [V.int IntKind.i64 y2] ++ [V.int IntKind.i64 y3] ++
        [V.int IntKind.i64 y4] ++
      [V.str y5])
    T.leaf))) ∧
           (((y0) = (y0)) ∧
            (((y1) = (y1)) ∧
             (((y2) = (y2)) ∧
              (((y3) = (y3)) ∧
               (((y4) = (y4)) ∧
                (((y5) = (y5)) ∧
                 (True)))))))) ∧
          (True))) ∧
        (((E)) ∧
         (((((some (V.slice 1002 0 n c)) = (some (V.slice 1002 0 n c))) ∧
            (((some (V.slice 1003 0 n d)) = (some (V.slice 1003 0 n d))) ∧
             (((some (V.int IntKind.i64 (Int.ofNat n))) = (some (V.int IntKind.i64 (Int.ofNat n)))) ∧
              (((some (V.int IntKind.i64 (wr IntKind.i64 ((Int.ofNat k).add (Int.ofNat 1))))) = (some (V.int IntKind.i64 (wr IntKind.i64 ((Int.ofNat k).add (Int.ofNat 1)))))) ∧
               (True))))) ∧
           (((26) = (26)) ∧
            ((true) = (true)))) ∧
          (((((T.leaf.node none
          (T.leaf.node none
            ((T.leaf.node none
                  (T.leaf.node none
                    (T.leaf.node none
                      (T.leaf.node none (T.leaf.node (some (O.ro none B.length B T.leaf)) T.leaf))))).node
              none T.leaf))).node
      none T.leaf).node
  none
  (T.leaf.node none
    ((T.leaf.node none
          ((T.leaf.node none
                (T.leaf.node none
                  (T.leaf.node none (T.leaf.node none (T.leaf.node (some (O.ro none A.length A T.leaf)) T.leaf))))).node
            none T.leaf)).node
      none T.leaf))) = (((T.leaf.node none
          (T.leaf.node none
            ((T.leaf.node none
                  (T.leaf.node none
                    (T.leaf.node none
                      (T.leaf.node none (T.leaf.node (some (O.ro none B.length B T.leaf)) T.leaf))))).node
              none T.leaf))).node
      none T.leaf).node
  none
  (T.leaf.node none
    ((T.leaf.node none
          ((T.leaf.node none
                (T.leaf.node none
                  (T.leaf.node none (T.leaf.node none (T.leaf.node (some (O.ro none A.length A T.leaf)) T.leaf))))).node
            none T.leaf)).node
      none T.leaf)))) ∧
           ((1019) = (1019))))))))))))) ∧
(((ilt (Int.ofNat k) (Int.ofNat n)) = (false)) → (((E)) → False) ∧
 (((true) = (true)) ∧
  (((((some (V.slice 1002 0 n c)) = (some (V.slice 1002 0 n c))) ∧
     (True)) ∧
    (((26) = (26)) ∧
     ((true) = (true)))) ∧
   (((((T.leaf.node none
          (T.leaf.node none
            ((T.leaf.node none
                  (T.leaf.node none
                    (T.leaf.node none
                      (T.leaf.node none (T.leaf.node (some (O.ro none B.length B T.leaf)) T.leaf))))).node
              none T.leaf))).node
      none T.leaf).node
  none
  (T.leaf.node none
    ((T.leaf.node none
          ((T.leaf.node none
                (T.leaf.node none
                  (T.leaf.node none (T.leaf.node none (T.leaf.node (some (O.ro none A.length A T.leaf)) T.leaf))))).node
            none T.leaf)).node
      none T.leaf))) = (((T.leaf.node none
          (T.leaf.node none
            ((T.leaf.node none
                  (T.leaf.node none
                    (T.leaf.node none
                      (T.leaf.node none (T.leaf.node (some (O.ro none B.length B T.leaf)) T.leaf))))).node
              none T.leaf))).node
      none T.leaf).node
  none
  (T.leaf.node none
    ((T.leaf.node none
          ((T.leaf.node none
                (T.leaf.node none
                  (T.leaf.node none (T.leaf.node none (T.leaf.node (some (O.ro none A.length A T.leaf)) T.leaf))))).node
            none T.leaf)).node
      none T.leaf)))) ∧
    ((1010) = (1010))))))) := by kernel_rfl
theorem w9 (n : Nat) (c : Cap) (h : H) : (evW G0 sp 60 u3 none iEqual (S [(0, sA n c)] h) (fun x st => match x with | .ret => retIs (fun v => v = .bool true) st | _ => False)) = (
(V.bool true) = (V.bool true)) := by kernel_rfl
end EQ
end Go.Proofs.YtjbpagfjpdinjaaGreatDoor

/- estrayref46.Text: its parts, one round of its loop, and what lies behind. -/
import Derived.Test.YtgadijnefbmgkaaGreatDoorJt0
namespace Go.Proofs.YtgadijnefbmgkaaGreatDoor
set_option maxRecDepth 100000
set_option maxHeartbeats 2000000
open Go.Ev Go.RowKit
namespace RT
noncomputable def fn : Func := match Tryz.prog.funcs[iRText]? with
  | some f => f
  | .none => default
noncomputable def code : Code := match fn.body with
  | some c => c
  | .none => .skip
noncomputable def r0 : Code := cFst code
noncomputable def x1 : Code := cSnd code
noncomputable def r1 : Code := cFst x1
noncomputable def x2 : Code := cSnd x1
noncomputable def r2 : Code := cFst x2
noncomputable def x3 : Code := cSnd x2
noncomputable def z : Code := cFst x3
noncomputable def x4 : Code := cSnd x3
noncomputable def r3 : Code := cFst z
noncomputable def bl : Code := cSnd z
noncomputable def lp : Code := cFst bl
noncomputable def bd : Code := cFst lp
theorem isFn : Tryz.prog.funcs[iRText]? = some fn := by kernel_rfl
theorem body : fn.body = some code := by kernel_rfl
theorem q0 : code = .seq r0 x1 := by kernel_rfl
theorem q1 : x1 = .seq r1 x2 := by kernel_rfl
theorem q2 : x2 = .seq r2 x3 := by kernel_rfl
theorem q3 : x3 = .seq z x4 := by kernel_rfl
theorem q4 : z = .seq r3 bl := by kernel_rfl
theorem q5 : bl = .block 0 lp := by kernel_rfl
theorem q6 : lp = .loop bd := by kernel_rfl
theorem q7 : fn.ntmps = 59 := by kernel_rfl
theorem o0 : okC r0 = true := by kernel_rfl
theorem o1 : okC r1 = true := by kernel_rfl
theorem o2 : okC r2 = true := by kernel_rfl
theorem o3 : okC r3 = true := by kernel_rfl
theorem o5 : okC bd = true := by kernel_rfl
theorem o6 : okC x4 = true := by kernel_rfl
noncomputable def sp : SpF where
  at' := fun f t => match Nat.beq f iRText, t with
    | true, 11 => .both | true, 16 => .idx | true, 17 => .ldI .i64 | true, 18 => .both | true, 22 => .idx | true, 23 => .ldI .i64 | true, 24 => .both | true, 28 => .both | true, 32 => .idx | true, 33 => .ldI .i64 | true, 37 => .idx | true, 38 => .ldI .i64 | true, 39 => .both
    | true, 43 => .both | true, 50 => .idx | true, 51 => .ldI .i64 | true, 52 => .idx | true, 53 => .ldS | true, 57 => .both | _, _ => .keep
noncomputable def S (l : List (Nat × V)) (h : H) : St := ⟨envL 59 l, h, []⟩
noncomputable def roB (n : Nat) (xs : List Int) : O := .ro none n (ints xs) .leaf
noncomputable def hI (n : Nat) (xs : List Int) : H := ⟨T.put .leaf 1000 (some (roB n xs)), 1001⟩
noncomputable def hY (e : Option TypeId) (n : Nat) (xs : List Int) (nx : Nat) : H := ⟨T.put (T.put .leaf 1000 (some (roB n xs))) 1001 (some (.cells e 12 words .leaf)), nx⟩
abbrev sl (n : Nat) (c : Cap) : V := .slice 1000 0 n c
abbrev sl4 : V := .slice 1001 0 12 (.known 12)
noncomputable def inv (n : Nat) (c : Cap) (s : List UInt8) (i : Int) : List (Nat × V) := [(0, sl n c), (4, sl4), (5, .str s), (6, .int .i64 i)]
noncomputable def isW : Option O → Prop
  | some (.cells _ n pat tr) => Nat.beq n 12 = true ∧ gather n pat tr 0 12 = some words
  | _ => False
noncomputable def hasS (l : List (Nat × V)) (st : St) : Prop := hasT st.env l ∧ st.env.sz = 59 ∧ noDefs st.defs = true
noncomputable def memP (n : Nat) (xs : List Int) (st : St) : Prop := st.h.tr.get 1000 = some (roB n xs) ∧ isW (st.h.tr.get 1001)
noncomputable def K0 (l : List (Nat × V)) (n : Nat) (xs : List Int) (nx : Nat) (x : X) (st : St) : Prop := match x with
  | .normal => hasS l st ∧ st.h.next = nx ∧ st.h.tr.get 1000 = some (roB n xs)
  | _ => False
noncomputable def K3 (l : List (Nat × V)) (n : Nat) (xs : List Int) (nx : Nat) (x : X) (st : St) : Prop := match x with
  | .normal => hasS l st ∧ st.h.next = nx ∧ memP n xs st
  | _ => False
/-- what is returned -/
noncomputable def retIs (Q : V → Prop) (st : St) : Prop := match takeAll st.defs st.h with
  | some h2 => match resultsO G0 h2 st.env fn with
    | some v => Q v
    | .none => False
  | .none => False
noncomputable def K5 (n : Nat) (xs : List Int) (c : Cap) (_nx : Nat) (i : Int) (Q : List UInt8 → Prop) (R : V → Prop) (E : Prop) (s : List UInt8) (x : X) (st : St) : Prop := match x with
  | .normal => (match st.env.tr.get 5 with
    | some (.str s') => Q s' ∧ hasS [(0, sl n c), (4, sl4), (5, .str s'), (6, .int .i64 (wr .i64 (Int.add i (Int.ofNat 1))))] st
    | _ => False) ∧ memP n xs st
  | .ret => retIs R st
  | .exit k => E ∧ Nat.beq k 0 = true ∧ hasS [(0, sl n c), (5, .str s)] st ∧ memP n xs st
theorem w0 (n : Nat) (xs : List Int) (c : Cap) : (evW G0 sp 40 r0 none iRText (S [(0, sl n c)] (hI n xs)) (K0 [(0, sl n c)] n xs 1001)) = (
((((some (V.slice 1000 0 n c)) = (some (V.slice 1000 0 n c))) ∧
  (True)) ∧
 (((59) = (59)) ∧
  ((true) = (true)))) ∧
(((1001) = (1001)) ∧
 ((some (O.ro none n (ints xs) T.leaf)) = (some (O.ro none n (ints xs) T.leaf))))) := by kernel_rfl
theorem w1 (n : Nat) (xs : List Int) (c : Cap) : (evW G0 sp 40 r1 none iRText (S [(0, sl n c)] (hI n xs)) (K3 [(0, sl n c), (4, sl4)] n xs 1002)) = (
((((some (V.slice 1000 0 n c)) = (some (V.slice 1000 0 n c))) ∧
  (((some (V.slice 1001 0 12 (Cap.known 12))) = (some (V.slice 1001 0 12 (Cap.known 12)))) ∧
   (True))) ∧
 (((59) = (59)) ∧
  ((true) = (true)))) ∧
(((1002) = (1002)) ∧
 (((some (O.ro none n (ints xs) T.leaf)) = (some (O.ro none n (ints xs) T.leaf))) ∧
  (((true) = (true)) ∧
   ((some
  [V.str [], V.str [109, 111, 100, 101, 108], V.str [111, 110, 99, 101], V.str [101, 110, 100, 101, 100],
    V.str [115, 116, 101, 97, 100, 121], V.str [99, 97, 117, 115, 101, 100], V.str [117, 115, 101, 100],
    V.str [99, 111, 117, 110, 116, 115], V.str [113, 117, 111, 116, 97], V.str [115, 116, 97, 108, 101],
    V.str [108, 101, 97, 107, 115], V.str [107, 101, 101, 112, 115]]) = (some words)))))) := by kernel_rfl
theorem w2 (n : Nat) (xs : List Int) (c : Cap) (e : Option TypeId) (nx : Nat) : (evW G0 sp 40 r2 none iRText (S [(0, sl n c), (4, sl4)] (hY e n xs nx)) (K3 [(0, sl n c), (4, sl4), (5, .str [])] n xs nx)) = (
((((some (V.slice 1000 0 n c)) = (some (V.slice 1000 0 n c))) ∧
  (((some (V.slice 1001 0 12 (Cap.known 12))) = (some (V.slice 1001 0 12 (Cap.known 12)))) ∧
   (((some (V.str [])) = (some (V.str []))) ∧
    (True)))) ∧
 (((59) = (59)) ∧
  ((true) = (true)))) ∧
(((nx) = (nx)) ∧
 (((some (O.ro none n (ints xs) T.leaf)) = (some (O.ro none n (ints xs) T.leaf))) ∧
  (((true) = (true)) ∧
   ((some
  [V.str [], V.str [109, 111, 100, 101, 108], V.str [111, 110, 99, 101], V.str [101, 110, 100, 101, 100],
    V.str [115, 116, 101, 97, 100, 121], V.str [99, 97, 117, 115, 101, 100], V.str [117, 115, 101, 100],
    V.str [99, 111, 117, 110, 116, 115], V.str [113, 117, 111, 116, 97], V.str [115, 116, 97, 108, 101],
    V.str [108, 101, 97, 107, 115], V.str [107, 101, 101, 112, 115]]) = (some words)))))) := by kernel_rfl
theorem w3 (n : Nat) (xs : List Int) (c : Cap) (e : Option TypeId) (nx : Nat) : (evW G0 sp 40 r3 none iRText (S [(0, sl n c), (4, sl4), (5, .str [])] (hY e n xs nx)) (K3 (inv n c [] (Int.ofNat 0)) n xs nx)) = (
((((some (V.slice 1000 0 n c)) = (some (V.slice 1000 0 n c))) ∧
  (((some (V.slice 1001 0 12 (Cap.known 12))) = (some (V.slice 1001 0 12 (Cap.known 12)))) ∧
   (((some (V.str [])) = (some (V.str []))) ∧
    (((some (V.int IntKind.i64 (Int.ofNat 0))) = (some (V.int IntKind.i64 (Int.ofNat 0)))) ∧
     (True))))) ∧
 (((59) = (59)) ∧
  ((true) = (true)))) ∧
(((nx) = (nx)) ∧
 (((some (O.ro none n (ints xs) T.leaf)) = (some (O.ro none n (ints xs) T.leaf))) ∧
  (((true) = (true)) ∧
   ((some
  [V.str [], V.str [109, 111, 100, 101, 108], V.str [111, 110, 99, 101], V.str [101, 110, 100, 101, 100],
    V.str [115, 116, 101, 97, 100, 121], V.str [99, 97, 117, 115, 101, 100], V.str [117, 115, 101, 100],
    V.str [99, 111, 117, 110, 116, 115], V.str [113, 117, 111, 116, 97], V.str [115, 116, 97, 108, 101],
    V.str [108, 101, 97, 107, 115], V.str [107, 101, 101, 112, 115]]) = (some words)))))) := by kernel_rfl
theorem w5 (n : Nat) (xs : List Int) (c : Cap) (e : Option TypeId) (nx : Nat) (k : Nat) (s : List UInt8) (Q : List UInt8 → Prop) (R : V → Prop) (E : Prop) : (evW G0 sp 40 bd none iRText (S (inv n c s (Int.ofNat k)) (hY e n xs nx)) (K5 n xs c nx (Int.ofNat k) Q R E s)) = (
(((ilt (Int.ofNat k) (Int.ofNat n)) = (true)) → ((false) = (false)) ∧
 (((ilt (Int.ofNat k) (Int.ofNat n)) = (true)) ∧
  ((∃ x, (cell n (ints xs) T.leaf (Nat.add 0 (k.mul 1))) = (some (V.int IntKind.i64 x))) ∧
   (∀ y0 : Int, ((cell n (ints xs) T.leaf (Nat.add 0 (k.mul 1))) = (some (V.int IntKind.i64 y0))) → (((ilt y0 (Int.ofNat 1)) = (true)) → ((((cell n (ints xs) T.leaf (Nat.add 0 (k.mul 1))) = (some (V.int IntKind.i64 y0))) ∧
       ((y0) = (y0))) ∧
      (True)) ∧
     ((R (V.tuple [V.str [], V.int IntKind.i64 (Int.ofNat 2)])))) ∧
    (((ilt y0 (Int.ofNat 1)) = (false)) → ((false) = (false)) ∧
     (((ilt (Int.ofNat k) (Int.ofNat n)) = (true)) ∧
      ((∃ x, (cell n (ints xs) T.leaf (Nat.add 0 (k.mul 1))) = (some (V.int IntKind.i64 x))) ∧
       (∀ y1 : Int, ((cell n (ints xs) T.leaf (Nat.add 0 (k.mul 1))) = (some (V.int IntKind.i64 y1))) → (((ilt (Int.ofNat 11) y1) = (true)) → ((((cell n (ints xs) T.leaf (Nat.add 0 (k.mul 1))) = (some (V.int IntKind.i64 y1))) ∧
           ((y1) = (y1))) ∧
          ((((cell n (ints xs) T.leaf (Nat.add 0 (k.mul 1))) = (some (V.int IntKind.i64 y0))) ∧
            ((y0) = (y0))) ∧
           (True))) ∧
         ((R (V.tuple [V.str [], V.int IntKind.i64 (Int.ofNat 2)])))) ∧
        (((ilt (Int.ofNat 11) y1) = (false)) → (((ilt (Int.ofNat 0) (Int.ofNat k)) = (true)) → ((false) = (false)) ∧
          (((ilt (Int.ofNat k) (Int.ofNat n)) = (true)) ∧
           ((∃ x, (cell n (ints xs) T.leaf (Nat.add 0 (k.mul 1))) = (some (V.int IntKind.i64 x))) ∧
            (∀ y2 : Int, ((cell n (ints xs) T.leaf (Nat.add 0 (k.mul 1))) = (some (V.int IntKind.i64 y2))) → ((ilt (wr IntKind.i64 ((Int.ofNat k).sub (Int.ofNat 1))) (Int.ofNat 0)) = (false)) ∧
             (((ilt (wr IntKind.i64 ((Int.ofNat k).sub (Int.ofNat 1))) (Int.ofNat n)) = (true)) ∧
              ((∃ x, (cell n (ints xs) T.leaf
  (Nat.add 0
    ((match wr IntKind.i64 ((Int.ofNat k).sub (Int.ofNat 1)) with
        | Int.ofNat n => n
        | Int.negSucc _a => 0).mul
      1))) = (some (V.int IntKind.i64 x))) ∧
               (∀ y3 : Int, ((cell n (ints xs) T.leaf
  (Nat.add 0
    ((match wr IntKind.i64 ((Int.ofNat k).sub (Int.ofNat 1)) with
        | Int.ofNat n => n
        | Int.negSucc _a => 0).mul
      1))) = (some (V.int IntKind.i64 y3))) → (((!ilt y3 y2) = (true)) → ((((cell n (ints xs) T.leaf
  (Nat.add 0
    ((match wr IntKind.i64 ((Int.ofNat k).sub (Int.ofNat 1)) with
        | Int.ofNat n => n
        | Int.negSucc _a => 0).mul
      1))) = (some (V.int IntKind.i64 y3))) ∧
                   ((y3) = (y3))) ∧
                  ((((cell n (ints xs) T.leaf (Nat.add 0 (k.mul 1))) = (some (V.int IntKind.i64 y2))) ∧
                    ((y2) = (y2))) ∧
                   ((((cell n (ints xs) T.leaf (Nat.add 0 (k.mul 1))) = (some (V.int IntKind.i64 y1))) ∧
                     ((y1) = (y1))) ∧
                    ((((cell n (ints xs) T.leaf (Nat.add 0 (k.mul 1))) = (some (V.int IntKind.i64 y0))) ∧
                      ((y0) = (y0))) ∧
                     (True))))) ∧
                 ((R (V.tuple [V.str [], V.int IntKind.i64 (Int.ofNat 2)])))) ∧
                (((!ilt y3 y2) = (false)) → ((((cell n (ints xs) T.leaf
  (Nat.add 0
    ((match wr IntKind.i64 ((Int.ofNat k).sub (Int.ofNat 1)) with
        | Int.ofNat n => n
        | Int.negSucc _a => 0).mul
      1))) = (some (V.int IntKind.i64 y3))) ∧
                   ((y3) = (y3))) ∧
                  ((((cell n (ints xs) T.leaf (Nat.add 0 (k.mul 1))) = (some (V.int IntKind.i64 y2))) ∧
                    ((y2) = (y2))) ∧
                   ((((cell n (ints xs) T.leaf (Nat.add 0 (k.mul 1))) = (some (V.int IntKind.i64 y1))) ∧
                     ((y1) = (y1))) ∧
                    ((((cell n (ints xs) T.leaf (Nat.add 0 (k.mul 1))) = (some (V.int IntKind.i64 y0))) ∧
                      ((y0) = (y0))) ∧
                     (True))))) ∧
                 ((((ilt (Int.ofNat 0) (Int.ofNat k)) = (true)) → (((s.length.add 2).ble 1000000000) = (true)) ∧
                   (((false) = (false)) ∧
                    (((ilt (Int.ofNat k) (Int.ofNat n)) = (true)) ∧
                     ((∃ x, (cell n (ints xs) T.leaf (Nat.add 0 (k.mul 1))) = (some (V.int IntKind.i64 x))) ∧
                      (∀ y4 : Int, ((cell n (ints xs) T.leaf (Nat.add 0 (k.mul 1))) = (some (V.int IntKind.i64 y4))) → ((ilt y4 (Int.ofNat 0)) = (false)) ∧
                       (((ilt y4 (Int.ofNat 12)) = (true)) ∧
                        ((∃ x, (cell 12 words T.leaf
  (Nat.add 0
    ((match y4 with
        | Int.ofNat n => n
        | Int.negSucc _a => 0).mul
      1))) = (some (V.str x))) ∧
                         (∀ y5 : List UInt8, ((cell 12 words T.leaf
  (Nat.add 0
    ((match y4 with
        | Int.ofNat n => n
        | Int.negSucc _a => 0).mul
      1))) = (some (V.str y5))) → ((((s ++ [44, 32]).length.add y5.length).ble 1000000000) = (true)) ∧
                          ((((Q (s ++ [44, 32] ++ y5))) ∧
                            ((((some (V.slice 1000 0 n c)) = (some (V.slice 1000 0 n c))) ∧
                              (((some (V.slice 1001 0 12 (Cap.known 12))) = (some (V.slice 1001 0 12 (Cap.known 12)))) ∧
                               (((some (V.str (s ++ [44, 32] ++ y5))) = (some (V.str (s ++ [44, 32] ++ y5)))) ∧
                                (((some (V.int IntKind.i64 (wr IntKind.i64 ((Int.ofNat k).add (Int.ofNat 1))))) = (some (V.int IntKind.i64 (wr IntKind.i64 ((Int.ofNat k).add (Int.ofNat 1)))))) ∧
                                 (True))))) ∧
                             (((59) = (59)) ∧
                              ((true) = (true))))) ∧
                           (((some (O.ro none n (ints xs) T.leaf)) = (some (O.ro none n (ints xs) T.leaf))) ∧
                            (((true) = (true)) ∧
                             ((some
  [V.str [], V.str [109, 111, 100, 101, 108], V.str [111, 110, 99, 101], V.str [101, 110, 100, 101, 100],
    V.str [115, 116, 101, 97, 100, 121], V.str [99, 97, 117, 115, 101, 100], V.str [117, 115, 101, 100],
    V.str [99, 111, 117, 110, 116, 115], V.str [113, 117, 111, 116, 97], V.str [115, 116, 97, 108, 101],
    V.str [108, 101, 97, 107, 115], V.str [107, 101, 101, 112, 115]]) = (some words))))))))))))) ∧
                  (((ilt (Int.ofNat 0) (Int.ofNat k)) = (false)) → ((false) = (false)) ∧
                   (((ilt (Int.ofNat k) (Int.ofNat n)) = (true)) ∧
                    ((∃ x, (cell n (ints xs) T.leaf (Nat.add 0 (k.mul 1))) = (some (V.int IntKind.i64 x))) ∧
                     (∀ y4 : Int, ((cell n (ints xs) T.leaf (Nat.add 0 (k.mul 1))) = (some (V.int IntKind.i64 y4))) → ((ilt y4 (Int.ofNat 0)) = (false)) ∧
                      (((ilt y4 (Int.ofNat 12)) = (true)) ∧
                       ((∃ x, (cell 12 words T.leaf
  (Nat.add 0
    ((match y4 with
        | Int.ofNat n => n
        | Int.negSucc _a => 0).mul
      1))) = (some (V.str x))) ∧
                        (∀ y5 : List UInt8, ((cell 12 words T.leaf
  (Nat.add 0
    ((match y4 with
        | Int.ofNat n => n
        | Int.negSucc _a => 0).mul
      1))) = (some (V.str y5))) → (((s.length.add y5.length).ble 1000000000) = (true)) ∧
                         ((((Q (s ++ y5))) ∧
                           ((((some (V.slice 1000 0 n c)) = (some (V.slice 1000 0 n c))) ∧
                             (((some (V.slice 1001 0 12 (Cap.known 12))) = (some (V.slice 1001 0 12 (Cap.known 12)))) ∧
                              (((some (V.str (s ++ y5))) = (some (V.str (s ++ y5)))) ∧
                               (((some (V.int IntKind.i64 (wr IntKind.i64 ((Int.ofNat k).add (Int.ofNat 1))))) = (some (V.int IntKind.i64 (wr IntKind.i64 ((Int.ofNat k).add (Int.ofNat 1)))))) ∧
                                (True))))) ∧
                            (((59) = (59)) ∧
                             ((true) = (true))))) ∧
                          (((some (O.ro none n (ints xs) T.leaf)) = (some (O.ro none n (ints xs) T.leaf))) ∧
                           (((true) = (true)) ∧
                            ((some
  [V.str [], V.str [109, 111, 100, 101, 108], V.str [111, 110, 99, 101], V.str [101, 110, 100, 101, 100],
    V.str [115, 116, 101, 97, 100, 121], V.str [99, 97, 117, 115, 101, 100], V.str [117, 115, 101, 100],
    V.str [99, 111, 117, 110, 116, 115], V.str [113, 117, 111, 116, 97], V.str [115, 116, 97, 108, 101],
    V.str [108, 101, 97, 107, 115], V.str [107, 101, 101, 112, 115]]) = (some words))))))))))))))))))))) ∧
         (((ilt (Int.ofNat 0) (Int.ofNat k)) = (false)) → ((((cell n (ints xs) T.leaf (Nat.add 0 (k.mul 1))) = (some (V.int IntKind.i64 y1))) ∧
            ((y1) = (y1))) ∧
           ((((cell n (ints xs) T.leaf (Nat.add 0 (k.mul 1))) = (some (V.int IntKind.i64 y0))) ∧
             ((y0) = (y0))) ∧
            (True))) ∧
          ((((ilt (Int.ofNat 0) (Int.ofNat k)) = (true)) → (((s.length.add 2).ble 1000000000) = (true)) ∧
            (((false) = (false)) ∧
             (((ilt (Int.ofNat k) (Int.ofNat n)) = (true)) ∧
              ((∃ x, (cell n (ints xs) T.leaf (Nat.add 0 (k.mul 1))) = (some (V.int IntKind.i64 x))) ∧
               (∀ y2 : Int, ((cell n (ints xs) T.leaf (Nat.add 0 (k.mul 1))) = (some (V.int IntKind.i64 y2))) → ((ilt y2 (Int.ofNat 0)) = (false)) ∧
                (((ilt y2 (Int.ofNat 12)) = (true)) ∧
                 ((∃ x, (cell 12 words T.leaf
  (Nat.add 0
    ((match y2 with
        | Int.ofNat n => n
        | Int.negSucc _a => 0).mul
      1))) = (some (V.str x))) ∧
                  (∀ y3 : List UInt8, ((cell 12 words T.leaf
  (Nat.add 0
    ((match y2 with
        | Int.ofNat n => n
        | Int.negSucc _a => 0).mul
      1))) = (some (V.str y3))) → ((((s ++ [44, 32]).length.add y3.length).ble 1000000000) = (true)) ∧
                   ((((Q (s ++ [44, 32] ++ y3))) ∧
                     ((((some (V.slice 1000 0 n c)) = (some (V.slice 1000 0 n c))) ∧
                       (((some (V.slice 1001 0 12 (Cap.known 12))) = (some (V.slice 1001 0 12 (Cap.known 12)))) ∧
                        (((some (V.str (s ++ [44, 32] ++ y3))) = (some (V.str (s ++ [44, 32] ++ y3)))) ∧
                         (((some (V.int IntKind.i64 (wr IntKind.i64 ((Int.ofNat k).add (Int.ofNat 1))))) = (some (V.int IntKind.i64 (wr IntKind.i64 ((Int.ofNat k).add (Int.ofNat 1)))))) ∧
                          (True))))) ∧
                      (((59) = (59)) ∧
                       ((true) = (true))))) ∧
                    (((some (O.ro none n (ints xs) T.leaf)) = (some (O.ro none n (ints xs) T.leaf))) ∧
                     (((true) = (true)) ∧
                      ((some
  [V.str [], V.str [109, 111, 100, 101, 108], V.str [111, 110, 99, 101], V.str [101, 110, 100, 101, 100],
    V.str [115, 116, 101, 97, 100, 121], V.str [99, 97, 117, 115, 101, 100], V.str [117, 115, 101, 100],
    V.str [99, 111, 117, 110, 116, 115], V.str [113, 117, 111, 116, 97], V.str [115, 116, 97, 108, 101],
    V.str [108, 101, 97, 107, 115], V.str [107, 101, 101, 112, 115]]) = (some words))))))))))))) ∧
           (((ilt (Int.ofNat 0) (Int.ofNat k)) = (false)) → ((false) = (false)) ∧
            (((ilt (Int.ofNat k) (Int.ofNat n)) = (true)) ∧
             ((∃ x, (cell n (ints xs) T.leaf (Nat.add 0 (k.mul 1))) = (some (V.int IntKind.i64 x))) ∧
              (∀ y2 : Int, ((cell n (ints xs) T.leaf (Nat.add 0 (k.mul 1))) = (some (V.int IntKind.i64 y2))) → ((ilt y2 (Int.ofNat 0)) = (false)) ∧
               (((ilt y2 (Int.ofNat 12)) = (true)) ∧
                ((∃ x, (cell 12 words T.leaf
  (Nat.add 0
    ((match y2 with
        | Int.ofNat n => n
        | Int.negSucc _a => 0).mul
      1))) = (some (V.str x))) ∧
                 (∀ y3 : List UInt8, ((cell 12 words T.leaf
  (Nat.add 0
    ((match y2 with
        | Int.ofNat n => n
        | Int.negSucc _a => 0).mul
      1))) = (some (V.str y3))) → (((s.length.add y3.length).ble 1000000000) = (true)) ∧
                  ((((Q (s ++ y3))) ∧
                    ((((some (V.slice 1000 0 n c)) = (some (V.slice 1000 0 n c))) ∧
                      (((some (V.slice 1001 0 12 (Cap.known 12))) = (some (V.slice 1001 0 12 (Cap.known 12)))) ∧
                       (((some (V.str (s ++ y3))) = (some (V.str (s ++ y3)))) ∧
                        (((some (V.int IntKind.i64 (wr IntKind.i64 ((Int.ofNat k).add (Int.ofNat 1))))) = (some (V.int IntKind.i64 (wr IntKind.i64 ((Int.ofNat k).add (Int.ofNat 1)))))) ∧
                         (True))))) ∧
                     (((59) = (59)) ∧
                      ((true) = (true))))) ∧
                   (((some (O.ro none n (ints xs) T.leaf)) = (some (O.ro none n (ints xs) T.leaf))) ∧
                    (((true) = (true)) ∧
                     ((some
  [V.str [], V.str [109, 111, 100, 101, 108], V.str [111, 110, 99, 101], V.str [101, 110, 100, 101, 100],
    V.str [115, 116, 101, 97, 100, 121], V.str [99, 97, 117, 115, 101, 100], V.str [117, 115, 101, 100],
    V.str [99, 111, 117, 110, 116, 115], V.str [113, 117, 111, 116, 97], V.str [115, 116, 97, 108, 101],
    V.str [108, 101, 97, 107, 115], V.str [107, 101, 101, 112, 115]]) = (some words))))))))))))))))))))))) ∧
(((ilt (Int.ofNat k) (Int.ofNat n)) = (false)) → ((E)) ∧
 (((true) = (true)) ∧
  (((((some (V.slice 1000 0 n c)) = (some (V.slice 1000 0 n c))) ∧
     (((some (V.str s)) = (some (V.str s))) ∧
      (True))) ∧
    (((59) = (59)) ∧
     ((true) = (true)))) ∧
   (((some (O.ro none n (ints xs) T.leaf)) = (some (O.ro none n (ints xs) T.leaf))) ∧
    (((true) = (true)) ∧
     ((some
  [V.str [], V.str [109, 111, 100, 101, 108], V.str [111, 110, 99, 101], V.str [101, 110, 100, 101, 100],
    V.str [115, 116, 101, 97, 100, 121], V.str [99, 97, 117, 115, 101, 100], V.str [117, 115, 101, 100],
    V.str [99, 111, 117, 110, 116, 115], V.str [113, 117, 111, 116, 97], V.str [115, 116, 97, 108, 101],
    V.str [108, 101, 97, 107, 115], V.str [107, 101, 101, 112, 115]]) = (some words)))))))) := by kernel_rfl
theorem w6 (n : Nat) (xs : List Int) (c : Cap) (e : Option TypeId) (nx : Nat) (s : List UInt8) (R : V → Prop) : (evW G0 sp 40 x4 none iRText (S [(0, sl n c), (5, .str s)] (hY e n xs nx)) (fun x st => match x with | .ret => retIs R st | _ => False)) = (
(((ieq (Int.ofNat n) (Int.ofNat 0)) = (true)) → (R (V.tuple [V.str [110, 111, 116, 104, 105, 110, 103], V.int IntKind.i64 (Int.ofNat 0)]))) ∧
(((ieq (Int.ofNat n) (Int.ofNat 0)) = (false)) → (R (V.tuple [V.str s, V.int IntKind.i64 (Int.ofNat 0)])))) := by kernel_rfl
end RT
end Go.Proofs.YtgadijnefbmgkaaGreatDoor

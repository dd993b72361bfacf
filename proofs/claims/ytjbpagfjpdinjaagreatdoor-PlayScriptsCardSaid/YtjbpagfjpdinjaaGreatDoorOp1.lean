/- (*dice).op: the memory that it is called in; what it does. -/
import Derived.Test.YtjbpagfjpdinjaaGreatDoorSc0
import Derived.Test.YtjbpagfjpdinjaaGreatDoorCf
import Derived.Test.YtjbpagfjpdinjaaGreatDoorPr0
namespace Go.Proofs.YtjbpagfjpdinjaaGreatDoor
set_option maxRecDepth 100000
set_option maxHeartbeats 4000000
open Go.Ev Go.RowKit
namespace OD
/-- the recipes -/
noncomputable def recs : O := (.cells (some tRec) 45 [.int .i64 (.ofNat 2), .int .i64 (.ofNat 1), .func (.func iA1) [] [.ptr 1020 0, .ptr 1021 0], .int .i64 (.ofNat 2), .int .i64 (.ofNat 3), .func (.func iStore) [] [], .int .i64 (.ofNat 1), .int .i64 (.ofNat 2), .func (.func iAb1) [] [.ptr 1022 0, .ptr 1023 0, .ptr 1024 0, .ptr 1025 0], .int .i64 (.ofNat 2), .int .i64 (.ofNat 4), .func (.func iA1) [] [.ptr 1026 0, .ptr 1027 0], .int .i64 (.ofNat 1), .int .i64 (.ofNat 5), .func (.func iAb1) [] [.ptr 1028 0, .ptr 1029 0, .ptr 1030 0, .ptr 1031 0], .int .i64 (.ofNat 1), .int .i64 (.ofNat 6), .func (.func iB1) [] [.ptr 1032 0], .int .i64 (.ofNat 2), .int .i64 (.ofNat 8), .func (.func iOpen) [] [], .int .i64 (.ofNat 1), .int .i64 (.ofNat 9), .func (.func iA1) [] [.ptr 1033 0, .ptr 1034 0], .int .i64 (.ofNat 1), .int .i64 (.ofNat 10), .func (.func iA1) [] [.ptr 1035 0, .ptr 1036 0], .int .i64 (.ofNat 1), .int .i64 (.ofNat 11), .func (.func iAb1) [] [.ptr 1037 0, .ptr 1038 0, .ptr 1039 0, .ptr 1040 0], .int .i64 (.ofNat 1), .int .i64 (.ofNat 12), .func (.func iA1) [] [.ptr 1041 0, .ptr 1042 0], .int .i64 (.ofNat 2), .int .i64 (.ofNat 7), .func (.func iNothing) [] [], .int .i64 (.ofNat 1), .int .i64 (.ofNat 13), .func (.func iA1) [] [.ptr 1043 0, .ptr 1044 0], .int .i64 (.ofNat 1), .int .i64 (.ofNat 14), .func (.func iNothing) [] [], .int .i64 (.ofNat 1), .int .i64 (.ofNat 0), .func (.func iOther) [] []] .leaf)
/-- what the recipes' functions hold, and these -/
noncomputable def kept : List (Nat × O) := [(1020, (.cells (some tInt) 1 [.int .i64 (.ofNat 5)] .leaf)), (1021, (.cells (some tInt) 1 [.int .i64 (.ofNat 0)] .leaf)), (1022, (.cells (some tInt) 1 [.int .i64 (.ofNat 4)] .leaf)), (1023, (.cells (some tInt) 1 [.int .i64 (.ofNat 0)] .leaf)), (1024, (.cells (some tInt) 1 [.int .i64 (.ofNat 4)] .leaf)), (1025, (.cells (some tInt) 1 [.int .i64 (.ofNat 0)] .leaf)), (1026, (.cells (some tInt) 1 [.int .i64 (.ofNat 4)] .leaf)), (1027, (.cells (some tInt) 1 [.int .i64 (.ofNat 0)] .leaf)), (1028, (.cells (some tInt) 1 [.int .i64 (.ofNat 4)] .leaf)), (1029, (.cells (some tInt) 1 [.int .i64 (.negSucc 0)] .leaf)), (1030, (.cells (some tInt) 1 [.int .i64 (.ofNat 3)] .leaf)), (1031, (.cells (some tInt) 1 [.int .i64 (.ofNat 0)] .leaf)), (1032, (.cells (some tInt) 1 [.int .i64 (.ofNat 3)] .leaf)), (1033, (.cells (some tInt) 1 [.int .i64 (.ofNat 6)] .leaf)), (1034, (.cells (some tInt) 1 [.int .i64 (.ofNat 0)] .leaf)), (1035, (.cells (some tInt) 1 [.int .i64 (.ofNat 8)] .leaf)), (1036, (.cells (some tInt) 1 [.int .i64 (.ofNat 0)] .leaf)), (1037, (.cells (some tInt) 1 [.int .i64 (.ofNat 8)] .leaf)), (1038, (.cells (some tInt) 1 [.int .i64 (.ofNat 0)] .leaf)), (1039, (.cells (some tInt) 1 [.int .i64 (.ofNat 20)] .leaf)), (1040, (.cells (some tInt) 1 [.int .i64 (.ofNat 1)] .leaf)), (1041, (.cells (some tInt) 1 [.int .i64 (.ofNat 8)] .leaf)), (1042, (.cells (some tInt) 1 [.int .i64 (.ofNat 0)] .leaf)), (1043, (.cells (some tInt) 1 [.int .i64 (.ofNat 30)] .leaf)), (1044, (.cells (some tInt) 1 [.int .i64 (.ofNat 1)] .leaf)), (1045, recs)]
noncomputable abbrev diceO (x m : Int) : O := .cells (some tDice) 2 [.int .u32 x, .int .i64 m] .leaf
noncomputable def keptT : T O := putPre kept .leaf
noncomputable def tD (x m : Int) : T O := T.put keptT 1016 (some (diceO x m))
noncomputable def hD (x m : Int) (nx : Nat) : H := ⟨tD x m, nx⟩
noncomputable def cellsA (v : V) : Option (List V) := match canonV v with
  | some (.agg n l .leaf) => match Nat.beq n 6 with
    | true => some l
    | false => .none
  | _ => .none
noncomputable def diceX (o : Option O) : Option (V × V) := match o with
  | some (.cells (some e) 2 pat tr) => match Nat.beq e tDice, cell 2 pat tr 0, cell 2 pat tr 1 with
    | true, some a, some b => some (a, b)
    | _, _, _ => .none
  | _ => .none
noncomputable def sp : SpF where
  at' := fun f t => match Nat.beq f iOp, t with
    | true, 10 => .upto 20
    | _, _ => match Nat.beq f iOther, t with
      | true, 5 => .upto 3 | true, 12 => .upto 5
      | _, _ => match Nat.beq f iOpen, t with
        | true, 11 => .upto 3 | _, _ => .keep
abbrev args : List V := [.ptr 1016 0, .slice 1045 0 15 (.known 15)]
theorem vOp (x m : Int) (Q : Option (List V) → Option (V × V) → Bool → Nat → Prop) : (fnW G0 sp 200 iOp args (hD x m 1047) (fun v h' => Q (cellsA v) (diceX (h'.tr.get 1016)) (Go.Ev.has h' kept) h'.next)) = (
((false) = (false)) ∧
(((ilt
  ((wr IntKind.i64
        ((wr IntKind.u32 ((wr IntKind.u32 ((Int.ofNat 69069).mul x)).add (Int.ofNat 1))).fdiv (Int.ofNat 65536))).tmod
    (Int.ofNat 20))
  (Int.ofNat 0)) = (false)) ∧
 (((ilt
  ((wr IntKind.i64
        ((wr IntKind.u32 ((wr IntKind.u32 ((Int.ofNat 69069).mul x)).add (Int.ofNat 1))).fdiv (Int.ofNat 65536))).tmod
    (Int.ofNat 20))
  (Int.ofNat 20)) = (true)) ∧
  (((((((((((((((((((((True) ∧
                      ((((wr IntKind.i64
      ((wr IntKind.u32 ((wr IntKind.u32 ((Int.ofNat 69069).mul x)).add (Int.ofNat 1))).fdiv (Int.ofNat 65536))).tmod
  (Int.ofNat 20)) = (Int.ofNat 0)) → ((ieq m (Int.ofNat 0)) = (false)) ∧
                       (((false) = (false)) ∧
                        ((((True) ∧
                           (((Int.ofNat 0) = (Int.ofNat 0)) ∧
                            ((Int.ofNat 0) = (Int.ofNat 0)))) ∧
                          (((True) ∧
                            ((True) ∧
                             ((Int.ofNat 5) = (Int.ofNat 5)))) ∧
                           (True))) ∧
                         ((Q
  (some
    [V.int IntKind.i64 (Int.ofNat 1),
      V.int IntKind.i64
        ((wr IntKind.i64
              ((wr IntKind.u32
                    ((wr IntKind.u32
                          ((Int.ofNat 69069).mul
                            (wr IntKind.u32 ((wr IntKind.u32 ((Int.ofNat 69069).mul x)).add (Int.ofNat 1))))).add
                      (Int.ofNat 1))).fdiv
                (Int.ofNat 65536))).tmod
          m),
      V.int IntKind.i64
        (wr IntKind.i64
          (((wr IntKind.i64
                    ((wr IntKind.u32
                          ((wr IntKind.u32
                                ((Int.ofNat 69069).mul
                                  (wr IntKind.u32
                                    ((wr IntKind.u32
                                          ((Int.ofNat 69069).mul
                                            (wr IntKind.u32
                                              ((wr IntKind.u32 ((Int.ofNat 69069).mul x)).add (Int.ofNat 1))))).add
                                      (Int.ofNat 1))))).add
                            (Int.ofNat 1))).fdiv
                      (Int.ofNat 65536))).tmod
                (Int.ofNat 5)).add
            (Int.ofNat 0))),
      V.int IntKind.i64 (Int.ofNat 0), V.int IntKind.i64 (Int.ofNat 0), V.str []])
  (some
    (V.int IntKind.u32
        (wr IntKind.u32
          ((wr IntKind.u32
                ((Int.ofNat 69069).mul
                  (wr IntKind.u32
                    ((wr IntKind.u32
                          ((Int.ofNat 69069).mul
                            (wr IntKind.u32 ((wr IntKind.u32 ((Int.ofNat 69069).mul x)).add (Int.ofNat 1))))).add
                      (Int.ofNat 1))))).add
            (Int.ofNat 1))),
      V.int IntKind.i64 m))
  true 1062)))))) ∧
                     ((((wr IntKind.i64
      ((wr IntKind.u32 ((wr IntKind.u32 ((Int.ofNat 69069).mul x)).add (Int.ofNat 1))).fdiv (Int.ofNat 65536))).tmod
  (Int.ofNat 20)) = (Int.ofNat 1)) → ((ieq m (Int.ofNat 0)) = (false)) ∧
                      (((false) = (false)) ∧
                       ((((True) ∧
                          (((Int.ofNat 0) = (Int.ofNat 0)) ∧
                           ((Int.ofNat 0) = (Int.ofNat 0)))) ∧
                         (((True) ∧
                           ((True) ∧
                            ((Int.ofNat 5) = (Int.ofNat 5)))) ∧
                          (True))) ∧
                        ((Q
  (some
    [V.int IntKind.i64 (Int.ofNat 1),
      V.int IntKind.i64
        ((wr IntKind.i64
              ((wr IntKind.u32
                    ((wr IntKind.u32
                          ((Int.ofNat 69069).mul
                            (wr IntKind.u32 ((wr IntKind.u32 ((Int.ofNat 69069).mul x)).add (Int.ofNat 1))))).add
                      (Int.ofNat 1))).fdiv
                (Int.ofNat 65536))).tmod
          m),
      V.int IntKind.i64
        (wr IntKind.i64
          (((wr IntKind.i64
                    ((wr IntKind.u32
                          ((wr IntKind.u32
                                ((Int.ofNat 69069).mul
                                  (wr IntKind.u32
                                    ((wr IntKind.u32
                                          ((Int.ofNat 69069).mul
                                            (wr IntKind.u32
                                              ((wr IntKind.u32 ((Int.ofNat 69069).mul x)).add (Int.ofNat 1))))).add
                                      (Int.ofNat 1))))).add
                            (Int.ofNat 1))).fdiv
                      (Int.ofNat 65536))).tmod
                (Int.ofNat 5)).add
            (Int.ofNat 0))),
      V.int IntKind.i64 (Int.ofNat 0), V.int IntKind.i64 (Int.ofNat 0), V.str []])
  (some
    (V.int IntKind.u32
        (wr IntKind.u32
          ((wr IntKind.u32
                ((Int.ofNat 69069).mul
                  (wr IntKind.u32
                    ((wr IntKind.u32
                          ((Int.ofNat 69069).mul
                            (wr IntKind.u32 ((wr IntKind.u32 ((Int.ofNat 69069).mul x)).add (Int.ofNat 1))))).add
                      (Int.ofNat 1))))).add
            (Int.ofNat 1))),
      V.int IntKind.i64 m))
  true 1062)))))) ∧
                    ((((wr IntKind.i64
      ((wr IntKind.u32 ((wr IntKind.u32 ((Int.ofNat 69069).mul x)).add (Int.ofNat 1))).fdiv (Int.ofNat 65536))).tmod
  (Int.ofNat 20)) = (Int.ofNat 2)) → ((ieq m (Int.ofNat 0)) = (false)) ∧
                     (((false) = (false)) ∧
                      (((false) = (false)) ∧
                       ((((True) ∧
                          (((Int.ofNat 0) = (Int.ofNat 0)) ∧
                           (((Int.ofNat 0) = (Int.ofNat 0)) ∧
                            (((Int.ofNat 0) = (Int.ofNat 0)) ∧
                             ((Int.ofNat 0) = (Int.ofNat 0)))))) ∧
                         (((True) ∧
                           ((True) ∧
                            ((True) ∧
                             (((Int.ofNat 4) = (Int.ofNat 4)) ∧
                              ((Int.ofNat 4) = (Int.ofNat 4)))))) ∧
                          (((True) ∧
                            ((True) ∧
                             (((Int.ofNat 0) = (Int.ofNat 0)) ∧
                              (((Int.ofNat 0) = (Int.ofNat 0)) ∧
                               ((Int.ofNat 0) = (Int.ofNat 0)))))) ∧
                           (((True) ∧
                             ((True) ∧
                              ((True) ∧
                               ((True) ∧
                                ((Int.ofNat 4) = (Int.ofNat 4)))))) ∧
                            (True))))) ∧
                        (((false) = (false)) ∧
                         ((Q
  (some
    [V.int IntKind.i64 (Int.ofNat 3),
      V.int IntKind.i64
        ((wr IntKind.i64
              ((wr IntKind.u32
                    ((wr IntKind.u32
                          ((Int.ofNat 69069).mul
                            (wr IntKind.u32 ((wr IntKind.u32 ((Int.ofNat 69069).mul x)).add (Int.ofNat 1))))).add
                      (Int.ofNat 1))).fdiv
                (Int.ofNat 65536))).tmod
          m),
      V.int IntKind.i64
        (wr IntKind.i64
          (((wr IntKind.i64
                    ((wr IntKind.u32
                          ((wr IntKind.u32
                                ((Int.ofNat 69069).mul
                                  (wr IntKind.u32
                                    ((wr IntKind.u32
                                          ((Int.ofNat 69069).mul
                                            (wr IntKind.u32
                                              ((wr IntKind.u32 ((Int.ofNat 69069).mul x)).add (Int.ofNat 1))))).add
                                      (Int.ofNat 1))))).add
                            (Int.ofNat 1))).fdiv
                      (Int.ofNat 65536))).tmod
                (Int.ofNat 4)).add
            (Int.ofNat 0))),
      V.int IntKind.i64
        (wr IntKind.i64
          (((wr IntKind.i64
                    ((wr IntKind.u32
                          ((wr IntKind.u32
                                ((Int.ofNat 69069).mul
                                  (wr IntKind.u32
                                    ((wr IntKind.u32
                                          ((Int.ofNat 69069).mul
                                            (wr IntKind.u32
                                              ((wr IntKind.u32
                                                    ((Int.ofNat 69069).mul
                                                      (wr IntKind.u32
                                                        ((wr IntKind.u32 ((Int.ofNat 69069).mul x)).add
                                                          (Int.ofNat 1))))).add
                                                (Int.ofNat 1))))).add
                                      (Int.ofNat 1))))).add
                            (Int.ofNat 1))).fdiv
                      (Int.ofNat 65536))).tmod
                (Int.ofNat 4)).add
            (Int.ofNat 0))),
      V.int IntKind.i64
        (wr IntKind.i64
          (((wr IntKind.i64
                    ((wr IntKind.u32
                          ((wr IntKind.u32
                                ((Int.ofNat 69069).mul
                                  (wr IntKind.u32
                                    ((wr IntKind.u32
                                          ((Int.ofNat 69069).mul
                                            (wr IntKind.u32
                                              ((wr IntKind.u32
                                                    ((Int.ofNat 69069).mul
                                                      (wr IntKind.u32
                                                        ((wr IntKind.u32
                                                              ((Int.ofNat 69069).mul
                                                                (wr IntKind.u32
                                                                  ((wr IntKind.u32 ((Int.ofNat 69069).mul x)).add
                                                                    (Int.ofNat 1))))).add
                                                          (Int.ofNat 1))))).add
                                                (Int.ofNat 1))))).add
                                      (Int.ofNat 1))))).add
                            (Int.ofNat 1))).fdiv
                      (Int.ofNat 65536))).tmod
                (Int.ofNat 5)).sub
            (Int.ofNat 1))),
      V.str []])
  (some
    (V.int IntKind.u32
        (wr IntKind.u32
          ((wr IntKind.u32
                ((Int.ofNat 69069).mul
                  (wr IntKind.u32
                    ((wr IntKind.u32
                          ((Int.ofNat 69069).mul
                            (wr IntKind.u32
                              ((wr IntKind.u32
                                    ((Int.ofNat 69069).mul
                                      (wr IntKind.u32
                                        ((wr IntKind.u32
                                              ((Int.ofNat 69069).mul
                                                (wr IntKind.u32
                                                  ((wr IntKind.u32 ((Int.ofNat 69069).mul x)).add (Int.ofNat 1))))).add
                                          (Int.ofNat 1))))).add
                                (Int.ofNat 1))))).add
                      (Int.ofNat 1))))).add
            (Int.ofNat 1))),
      V.int IntKind.i64 m))
  true 1076)))))))) ∧
                   ((((wr IntKind.i64
      ((wr IntKind.u32 ((wr IntKind.u32 ((Int.ofNat 69069).mul x)).add (Int.ofNat 1))).fdiv (Int.ofNat 65536))).tmod
  (Int.ofNat 20)) = (Int.ofNat 3)) → ((ieq m (Int.ofNat 0)) = (false)) ∧
                    (((false) = (false)) ∧
                     (((false) = (false)) ∧
                      ((((True) ∧
                         (((Int.ofNat 0) = (Int.ofNat 0)) ∧
                          (((Int.ofNat 0) = (Int.ofNat 0)) ∧
                           (((Int.ofNat 0) = (Int.ofNat 0)) ∧
                            ((Int.ofNat 0) = (Int.ofNat 0)))))) ∧
                        (((True) ∧
                          ((True) ∧
                           ((True) ∧
                            (((Int.ofNat 4) = (Int.ofNat 4)) ∧
                             ((Int.ofNat 4) = (Int.ofNat 4)))))) ∧
                         (((True) ∧
                           ((True) ∧
                            (((Int.ofNat 0) = (Int.ofNat 0)) ∧
                             (((Int.ofNat 0) = (Int.ofNat 0)) ∧
                              ((Int.ofNat 0) = (Int.ofNat 0)))))) ∧
                          (((True) ∧
                            ((True) ∧
                             ((True) ∧
                              ((True) ∧
                               ((Int.ofNat 4) = (Int.ofNat 4)))))) ∧
                           (True))))) ∧
                       (((false) = (false)) ∧
                        ((Q
  (some
    [V.int IntKind.i64 (Int.ofNat 3),
      V.int IntKind.i64
        ((wr IntKind.i64
              ((wr IntKind.u32
                    ((wr IntKind.u32
                          ((Int.ofNat 69069).mul
                            (wr IntKind.u32 ((wr IntKind.u32 ((Int.ofNat 69069).mul x)).add (Int.ofNat 1))))).add
                      (Int.ofNat 1))).fdiv
                (Int.ofNat 65536))).tmod
          m),
      V.int IntKind.i64
        (wr IntKind.i64
          (((wr IntKind.i64
                    ((wr IntKind.u32
                          ((wr IntKind.u32
                                ((Int.ofNat 69069).mul
                                  (wr IntKind.u32
                                    ((wr IntKind.u32
                                          ((Int.ofNat 69069).mul
                                            (wr IntKind.u32
                                              ((wr IntKind.u32 ((Int.ofNat 69069).mul x)).add (Int.ofNat 1))))).add
                                      (Int.ofNat 1))))).add
                            (Int.ofNat 1))).fdiv
                      (Int.ofNat 65536))).tmod
                (Int.ofNat 4)).add
            (Int.ofNat 0))),
      V.int IntKind.i64
        (wr IntKind.i64
          (((wr IntKind.i64
                    ((wr IntKind.u32
                          ((wr IntKind.u32
                                ((Int.ofNat 69069).mul
                                  (wr IntKind.u32
                                    ((wr IntKind.u32
                                          ((Int.ofNat 69069).mul
                                            (wr IntKind.u32
                                              ((wr IntKind.u32
                                                    ((Int.ofNat 69069).mul
                                                      (wr IntKind.u32
                                                        ((wr IntKind.u32 ((Int.ofNat 69069).mul x)).add
                                                          (Int.ofNat 1))))).add
                                                (Int.ofNat 1))))).add
                                      (Int.ofNat 1))))).add
                            (Int.ofNat 1))).fdiv
                      (Int.ofNat 65536))).tmod
                (Int.ofNat 4)).add
            (Int.ofNat 0))),
      V.int IntKind.i64
        (wr IntKind.i64
          (((wr IntKind.i64
                    ((wr IntKind.u32
                          ((wr IntKind.u32
                                ((Int.ofNat 69069).mul
                                  (wr IntKind.u32
                                    ((wr IntKind.u32
                                          ((Int.ofNat 69069).mul
                                            (wr IntKind.u32
                                              ((wr IntKind.u32
                                                    ((Int.ofNat 69069).mul
                                                      (wr IntKind.u32
                                                        ((wr IntKind.u32
                                                              ((Int.ofNat 69069).mul
                                                                (wr IntKind.u32
                                                                  ((wr IntKind.u32 ((Int.ofNat 69069).mul x)).add
                                                                    (Int.ofNat 1))))).add
                                                          (Int.ofNat 1))))).add
                                                (Int.ofNat 1))))).add
                                      (Int.ofNat 1))))).add
                            (Int.ofNat 1))).fdiv
                      (Int.ofNat 65536))).tmod
                (Int.ofNat 5)).sub
            (Int.ofNat 1))),
      V.str []])
  (some
    (V.int IntKind.u32
        (wr IntKind.u32
          ((wr IntKind.u32
                ((Int.ofNat 69069).mul
                  (wr IntKind.u32
                    ((wr IntKind.u32
                          ((Int.ofNat 69069).mul
                            (wr IntKind.u32
                              ((wr IntKind.u32
                                    ((Int.ofNat 69069).mul
                                      (wr IntKind.u32
                                        ((wr IntKind.u32
                                              ((Int.ofNat 69069).mul
                                                (wr IntKind.u32
                                                  ((wr IntKind.u32 ((Int.ofNat 69069).mul x)).add (Int.ofNat 1))))).add
                                          (Int.ofNat 1))))).add
                                (Int.ofNat 1))))).add
                      (Int.ofNat 1))))).add
            (Int.ofNat 1))),
      V.int IntKind.i64 m))
  true 1076)))))))) ∧
                  ((((wr IntKind.i64
      ((wr IntKind.u32 ((wr IntKind.u32 ((Int.ofNat 69069).mul x)).add (Int.ofNat 1))).fdiv (Int.ofNat 65536))).tmod
  (Int.ofNat 20)) = (Int.ofNat 4)) → ((ieq m (Int.ofNat 0)) = (false)) ∧
                   (((false) = (false)) ∧
                    (((false) = (false)) ∧
                     ((((True) ∧
                        (((Int.ofNat 0) = (Int.ofNat 0)) ∧
                         (((Int.ofNat 0) = (Int.ofNat 0)) ∧
                          (((Int.ofNat 0) = (Int.ofNat 0)) ∧
                           ((Int.ofNat 0) = (Int.ofNat 0)))))) ∧
                       (((True) ∧
                         ((True) ∧
                          ((True) ∧
                           (((Int.ofNat 4) = (Int.ofNat 4)) ∧
                            ((Int.ofNat 4) = (Int.ofNat 4)))))) ∧
                        (((True) ∧
                          ((True) ∧
                           (((Int.ofNat 0) = (Int.ofNat 0)) ∧
                            (((Int.ofNat 0) = (Int.ofNat 0)) ∧
                             ((Int.ofNat 0) = (Int.ofNat 0)))))) ∧
                         (((True) ∧
                           ((True) ∧
                            ((True) ∧
                             ((True) ∧
                              ((Int.ofNat 4) = (Int.ofNat 4)))))) ∧
                          (True))))) ∧
                      ((Q
  (some
    [V.int IntKind.i64 (Int.ofNat 2),
      V.int IntKind.i64
        ((wr IntKind.i64
              ((wr IntKind.u32
                    ((wr IntKind.u32
                          ((Int.ofNat 69069).mul
                            (wr IntKind.u32 ((wr IntKind.u32 ((Int.ofNat 69069).mul x)).add (Int.ofNat 1))))).add
                      (Int.ofNat 1))).fdiv
                (Int.ofNat 65536))).tmod
          m),
      V.int IntKind.i64
        (wr IntKind.i64
          (((wr IntKind.i64
                    ((wr IntKind.u32
                          ((wr IntKind.u32
                                ((Int.ofNat 69069).mul
                                  (wr IntKind.u32
                                    ((wr IntKind.u32
                                          ((Int.ofNat 69069).mul
                                            (wr IntKind.u32
                                              ((wr IntKind.u32 ((Int.ofNat 69069).mul x)).add (Int.ofNat 1))))).add
                                      (Int.ofNat 1))))).add
                            (Int.ofNat 1))).fdiv
                      (Int.ofNat 65536))).tmod
                (Int.ofNat 4)).add
            (Int.ofNat 0))),
      V.int IntKind.i64
        (wr IntKind.i64
          (((wr IntKind.i64
                    ((wr IntKind.u32
                          ((wr IntKind.u32
                                ((Int.ofNat 69069).mul
                                  (wr IntKind.u32
                                    ((wr IntKind.u32
                                          ((Int.ofNat 69069).mul
                                            (wr IntKind.u32
                                              ((wr IntKind.u32
                                                    ((Int.ofNat 69069).mul
                                                      (wr IntKind.u32
                                                        ((wr IntKind.u32 ((Int.ofNat 69069).mul x)).add
                                                          (Int.ofNat 1))))).add
                                                (Int.ofNat 1))))).add
                                      (Int.ofNat 1))))).add
                            (Int.ofNat 1))).fdiv
                      (Int.ofNat 65536))).tmod
                (Int.ofNat 4)).add
            (Int.ofNat 0))),
      V.int IntKind.i64 (Int.ofNat 0), V.str []])
  (some
    (V.int IntKind.u32
        (wr IntKind.u32
          ((wr IntKind.u32
                ((Int.ofNat 69069).mul
                  (wr IntKind.u32
                    ((wr IntKind.u32
                          ((Int.ofNat 69069).mul
                            (wr IntKind.u32
                              ((wr IntKind.u32
                                    ((Int.ofNat 69069).mul
                                      (wr IntKind.u32
                                        ((wr IntKind.u32 ((Int.ofNat 69069).mul x)).add (Int.ofNat 1))))).add
                                (Int.ofNat 1))))).add
                      (Int.ofNat 1))))).add
            (Int.ofNat 1))),
      V.int IntKind.i64 m))
  true 1073))))))) ∧
                 ((((wr IntKind.i64
      ((wr IntKind.u32 ((wr IntKind.u32 ((Int.ofNat 69069).mul x)).add (Int.ofNat 1))).fdiv (Int.ofNat 65536))).tmod
  (Int.ofNat 20)) = (Int.ofNat 5)) → ((ieq m (Int.ofNat 0)) = (false)) ∧
                  (((false) = (false)) ∧
                   ((((True) ∧
                      (((Int.ofNat 0) = (Int.ofNat 0)) ∧
                       ((Int.ofNat 0) = (Int.ofNat 0)))) ∧
                     (((True) ∧
                       ((True) ∧
                        ((Int.ofNat 4) = (Int.ofNat 4)))) ∧
                      (True))) ∧
                    ((Q
  (some
    [V.int IntKind.i64 (Int.ofNat 4),
      V.int IntKind.i64
        ((wr IntKind.i64
              ((wr IntKind.u32
                    ((wr IntKind.u32
                          ((Int.ofNat 69069).mul
                            (wr IntKind.u32 ((wr IntKind.u32 ((Int.ofNat 69069).mul x)).add (Int.ofNat 1))))).add
                      (Int.ofNat 1))).fdiv
                (Int.ofNat 65536))).tmod
          m),
      V.int IntKind.i64
        (wr IntKind.i64
          (((wr IntKind.i64
                    ((wr IntKind.u32
                          ((wr IntKind.u32
                                ((Int.ofNat 69069).mul
                                  (wr IntKind.u32
                                    ((wr IntKind.u32
                                          ((Int.ofNat 69069).mul
                                            (wr IntKind.u32
                                              ((wr IntKind.u32 ((Int.ofNat 69069).mul x)).add (Int.ofNat 1))))).add
                                      (Int.ofNat 1))))).add
                            (Int.ofNat 1))).fdiv
                      (Int.ofNat 65536))).tmod
                (Int.ofNat 4)).add
            (Int.ofNat 0))),
      V.int IntKind.i64 (Int.ofNat 0), V.int IntKind.i64 (Int.ofNat 0), V.str []])
  (some
    (V.int IntKind.u32
        (wr IntKind.u32
          ((wr IntKind.u32
                ((Int.ofNat 69069).mul
                  (wr IntKind.u32
                    ((wr IntKind.u32
                          ((Int.ofNat 69069).mul
                            (wr IntKind.u32 ((wr IntKind.u32 ((Int.ofNat 69069).mul x)).add (Int.ofNat 1))))).add
                      (Int.ofNat 1))))).add
            (Int.ofNat 1))),
      V.int IntKind.i64 m))
  true 1065)))))) ∧
                ((((wr IntKind.i64
      ((wr IntKind.u32 ((wr IntKind.u32 ((Int.ofNat 69069).mul x)).add (Int.ofNat 1))).fdiv (Int.ofNat 65536))).tmod
  (Int.ofNat 20)) = (Int.ofNat 6)) → ((ieq m (Int.ofNat 0)) = (false)) ∧
                 (((false) = (false)) ∧
                  ((((True) ∧
                     (((Int.ofNat 0) = (Int.ofNat 0)) ∧
                      ((Int.ofNat 0) = (Int.ofNat 0)))) ∧
                    (((True) ∧
                      ((True) ∧
                       ((Int.ofNat 4) = (Int.ofNat 4)))) ∧
                     (True))) ∧
                   ((Q
  (some
    [V.int IntKind.i64 (Int.ofNat 4),
      V.int IntKind.i64
        ((wr IntKind.i64
              ((wr IntKind.u32
                    ((wr IntKind.u32
                          ((Int.ofNat 69069).mul
                            (wr IntKind.u32 ((wr IntKind.u32 ((Int.ofNat 69069).mul x)).add (Int.ofNat 1))))).add
                      (Int.ofNat 1))).fdiv
                (Int.ofNat 65536))).tmod
          m),
      V.int IntKind.i64
        (wr IntKind.i64
          (((wr IntKind.i64
                    ((wr IntKind.u32
                          ((wr IntKind.u32
                                ((Int.ofNat 69069).mul
                                  (wr IntKind.u32
                                    ((wr IntKind.u32
                                          ((Int.ofNat 69069).mul
                                            (wr IntKind.u32
                                              ((wr IntKind.u32 ((Int.ofNat 69069).mul x)).add (Int.ofNat 1))))).add
                                      (Int.ofNat 1))))).add
                            (Int.ofNat 1))).fdiv
                      (Int.ofNat 65536))).tmod
                (Int.ofNat 4)).add
            (Int.ofNat 0))),
      V.int IntKind.i64 (Int.ofNat 0), V.int IntKind.i64 (Int.ofNat 0), V.str []])
  (some
    (V.int IntKind.u32
        (wr IntKind.u32
          ((wr IntKind.u32
                ((Int.ofNat 69069).mul
                  (wr IntKind.u32
                    ((wr IntKind.u32
                          ((Int.ofNat 69069).mul
                            (wr IntKind.u32 ((wr IntKind.u32 ((Int.ofNat 69069).mul x)).add (Int.ofNat 1))))).add
                      (Int.ofNat 1))))).add
            (Int.ofNat 1))),
      V.int IntKind.i64 m))
  true 1065)))))) ∧
               ((((wr IntKind.i64
      ((wr IntKind.u32 ((wr IntKind.u32 ((Int.ofNat 69069).mul x)).add (Int.ofNat 1))).fdiv (Int.ofNat 65536))).tmod
  (Int.ofNat 20)) = (Int.ofNat 7)) → ((ieq m (Int.ofNat 0)) = (false)) ∧
                (((false) = (false)) ∧
                 (((false) = (false)) ∧
                  ((((True) ∧
                     (((Int.ofNat 0) = (Int.ofNat 0)) ∧
                      (((Int.ofNat 0) = (Int.ofNat 0)) ∧
                       (((Int.ofNat 0) = (Int.ofNat 0)) ∧
                        ((Int.ofNat 0) = (Int.ofNat 0)))))) ∧
                    (((True) ∧
                      ((True) ∧
                       ((True) ∧
                        (((Int.ofNat 3) = (Int.ofNat 3)) ∧
                         ((Int.ofNat 3) = (Int.ofNat 3)))))) ∧
                     (((True) ∧
                       ((True) ∧
                        (((Int.negSucc 0) = (Int.negSucc 0)) ∧
                         (((Int.negSucc 0) = (Int.negSucc 0)) ∧
                          ((Int.negSucc 0) = (Int.negSucc 0)))))) ∧
                      (((True) ∧
                        ((True) ∧
                         ((True) ∧
                          ((True) ∧
                           ((Int.ofNat 4) = (Int.ofNat 4)))))) ∧
                       (True))))) ∧
                   ((Q
  (some
    [V.int IntKind.i64 (Int.ofNat 5),
      V.int IntKind.i64
        ((wr IntKind.i64
              ((wr IntKind.u32
                    ((wr IntKind.u32
                          ((Int.ofNat 69069).mul
                            (wr IntKind.u32 ((wr IntKind.u32 ((Int.ofNat 69069).mul x)).add (Int.ofNat 1))))).add
                      (Int.ofNat 1))).fdiv
                (Int.ofNat 65536))).tmod
          m),
      V.int IntKind.i64
        (wr IntKind.i64
          (((wr IntKind.i64
                    ((wr IntKind.u32
                          ((wr IntKind.u32
                                ((Int.ofNat 69069).mul
                                  (wr IntKind.u32
                                    ((wr IntKind.u32
                                          ((Int.ofNat 69069).mul
                                            (wr IntKind.u32
                                              ((wr IntKind.u32 ((Int.ofNat 69069).mul x)).add (Int.ofNat 1))))).add
                                      (Int.ofNat 1))))).add
                            (Int.ofNat 1))).fdiv
                      (Int.ofNat 65536))).tmod
                (Int.ofNat 4)).add
            (Int.negSucc 0))),
      V.int IntKind.i64
        (wr IntKind.i64
          (((wr IntKind.i64
                    ((wr IntKind.u32
                          ((wr IntKind.u32
                                ((Int.ofNat 69069).mul
                                  (wr IntKind.u32
                                    ((wr IntKind.u32
                                          ((Int.ofNat 69069).mul
                                            (wr IntKind.u32
                                              ((wr IntKind.u32
                                                    ((Int.ofNat 69069).mul
                                                      (wr IntKind.u32
                                                        ((wr IntKind.u32 ((Int.ofNat 69069).mul x)).add
                                                          (Int.ofNat 1))))).add
                                                (Int.ofNat 1))))).add
                                      (Int.ofNat 1))))).add
                            (Int.ofNat 1))).fdiv
                      (Int.ofNat 65536))).tmod
                (Int.ofNat 3)).add
            (Int.ofNat 0))),
      V.int IntKind.i64 (Int.ofNat 0), V.str []])
  (some
    (V.int IntKind.u32
        (wr IntKind.u32
          ((wr IntKind.u32
                ((Int.ofNat 69069).mul
                  (wr IntKind.u32
                    ((wr IntKind.u32
                          ((Int.ofNat 69069).mul
                            (wr IntKind.u32
                              ((wr IntKind.u32
                                    ((Int.ofNat 69069).mul
                                      (wr IntKind.u32
                                        ((wr IntKind.u32 ((Int.ofNat 69069).mul x)).add (Int.ofNat 1))))).add
                                (Int.ofNat 1))))).add
                      (Int.ofNat 1))))).add
            (Int.ofNat 1))),
      V.int IntKind.i64 m))
  true 1075))))))) ∧
              ((((wr IntKind.i64
      ((wr IntKind.u32 ((wr IntKind.u32 ((Int.ofNat 69069).mul x)).add (Int.ofNat 1))).fdiv (Int.ofNat 65536))).tmod
  (Int.ofNat 20)) = (Int.ofNat 8)) → ((ieq m (Int.ofNat 0)) = (false)) ∧
               (((false) = (false)) ∧
                ((Q
  (some
    [V.int IntKind.i64 (Int.ofNat 6),
      V.int IntKind.i64
        ((wr IntKind.i64
              ((wr IntKind.u32
                    ((wr IntKind.u32
                          ((Int.ofNat 69069).mul
                            (wr IntKind.u32 ((wr IntKind.u32 ((Int.ofNat 69069).mul x)).add (Int.ofNat 1))))).add
                      (Int.ofNat 1))).fdiv
                (Int.ofNat 65536))).tmod
          m),
      V.int IntKind.i64 (Int.ofNat 0),
      V.int IntKind.i64
        ((wr IntKind.i64
              ((wr IntKind.u32
                    ((wr IntKind.u32
                          ((Int.ofNat 69069).mul
                            (wr IntKind.u32
                              ((wr IntKind.u32
                                    ((Int.ofNat 69069).mul
                                      (wr IntKind.u32
                                        ((wr IntKind.u32 ((Int.ofNat 69069).mul x)).add (Int.ofNat 1))))).add
                                (Int.ofNat 1))))).add
                      (Int.ofNat 1))).fdiv
                (Int.ofNat 65536))).tmod
          (Int.ofNat 3)),
      V.int IntKind.i64 (Int.ofNat 0), V.str []])
  (some
    (V.int IntKind.u32
        (wr IntKind.u32
          ((wr IntKind.u32
                ((Int.ofNat 69069).mul
                  (wr IntKind.u32
                    ((wr IntKind.u32
                          ((Int.ofNat 69069).mul
                            (wr IntKind.u32 ((wr IntKind.u32 ((Int.ofNat 69069).mul x)).add (Int.ofNat 1))))).add
                      (Int.ofNat 1))))).add
            (Int.ofNat 1))),
      V.int IntKind.i64 m))
  true 1058))))) ∧
             ((((wr IntKind.i64
      ((wr IntKind.u32 ((wr IntKind.u32 ((Int.ofNat 69069).mul x)).add (Int.ofNat 1))).fdiv (Int.ofNat 65536))).tmod
  (Int.ofNat 20)) = (Int.ofNat 9)) → ((ieq m (Int.ofNat 0)) = (false)) ∧
              (((false) = (false)) ∧
               (((false) = (false)) ∧
                ((((True) ∧
                   (((Int.ofNat 1) = (Int.ofNat 1)) ∧
                    (((Int.ofNat 1) = (Int.ofNat 1)) ∧
                     (((Int.ofNat 1) = (Int.ofNat 1)) ∧
                      ((Int.ofNat 1) = (Int.ofNat 1)))))) ∧
                  (((True) ∧
                    ((True) ∧
                     ((True) ∧
                      (((Int.ofNat 50) = (Int.ofNat 50)) ∧
                       ((Int.ofNat 50) = (Int.ofNat 50)))))) ∧
                   (((True) ∧
                     ((True) ∧
                      (((Int.ofNat 1) = (Int.ofNat 1)) ∧
                       (((Int.ofNat 1) = (Int.ofNat 1)) ∧
                        ((Int.ofNat 1) = (Int.ofNat 1)))))) ∧
                    (((True) ∧
                      ((True) ∧
                       ((True) ∧
                        ((True) ∧
                         ((Int.ofNat 3) = (Int.ofNat 3)))))) ∧
                     (True))))) ∧
                 (((false) = (false)) ∧
                  (((ilt
  ((wr IntKind.i64
        ((wr IntKind.u32
              ((wr IntKind.u32
                    ((Int.ofNat 69069).mul
                      (wr IntKind.u32
                        ((wr IntKind.u32
                              ((Int.ofNat 69069).mul
                                (wr IntKind.u32
                                  ((wr IntKind.u32
                                        ((Int.ofNat 69069).mul
                                          (wr IntKind.u32
                                            ((wr IntKind.u32
                                                  ((Int.ofNat 69069).mul
                                                    (wr IntKind.u32
                                                      ((wr IntKind.u32 ((Int.ofNat 69069).mul x)).add
                                                        (Int.ofNat 1))))).add
                                              (Int.ofNat 1))))).add
                                    (Int.ofNat 1))))).add
                          (Int.ofNat 1))))).add
                (Int.ofNat 1))).fdiv
          (Int.ofNat 65536))).tmod
    (Int.ofNat 3))
  (Int.ofNat 0)) = (false)) ∧
                   (((ilt
  ((wr IntKind.i64
        ((wr IntKind.u32
              ((wr IntKind.u32
                    ((Int.ofNat 69069).mul
                      (wr IntKind.u32
                        ((wr IntKind.u32
                              ((Int.ofNat 69069).mul
                                (wr IntKind.u32
                                  ((wr IntKind.u32
                                        ((Int.ofNat 69069).mul
                                          (wr IntKind.u32
                                            ((wr IntKind.u32
                                                  ((Int.ofNat 69069).mul
                                                    (wr IntKind.u32
                                                      ((wr IntKind.u32 ((Int.ofNat 69069).mul x)).add
                                                        (Int.ofNat 1))))).add
                                              (Int.ofNat 1))))).add
                                    (Int.ofNat 1))))).add
                          (Int.ofNat 1))))).add
                (Int.ofNat 1))).fdiv
          (Int.ofNat 65536))).tmod
    (Int.ofNat 3))
  (Int.ofNat 3)) = (true)) ∧
                    ((((True) ∧
                       ((((wr IntKind.i64
      ((wr IntKind.u32
            ((wr IntKind.u32
                  ((Int.ofNat 69069).mul
                    (wr IntKind.u32
                      ((wr IntKind.u32
                            ((Int.ofNat 69069).mul
                              (wr IntKind.u32
                                ((wr IntKind.u32
                                      ((Int.ofNat 69069).mul
                                        (wr IntKind.u32
                                          ((wr IntKind.u32
                                                ((Int.ofNat 69069).mul
                                                  (wr IntKind.u32
                                                    ((wr IntKind.u32 ((Int.ofNat 69069).mul x)).add
                                                      (Int.ofNat 1))))).add
                                            (Int.ofNat 1))))).add
                                  (Int.ofNat 1))))).add
                        (Int.ofNat 1))))).add
              (Int.ofNat 1))).fdiv
        (Int.ofNat 65536))).tmod
  (Int.ofNat 3)) = (Int.ofNat 0)) → (Q
  (some
    [V.int IntKind.i64 (Int.ofNat 8),
      V.int IntKind.i64
        ((wr IntKind.i64
              ((wr IntKind.u32
                    ((wr IntKind.u32
                          ((Int.ofNat 69069).mul
                            (wr IntKind.u32 ((wr IntKind.u32 ((Int.ofNat 69069).mul x)).add (Int.ofNat 1))))).add
                      (Int.ofNat 1))).fdiv
                (Int.ofNat 65536))).tmod
          m),
      V.int IntKind.i64
        (wr IntKind.i64
          (((wr IntKind.i64
                    ((wr IntKind.u32
                          ((wr IntKind.u32
                                ((Int.ofNat 69069).mul
                                  (wr IntKind.u32
                                    ((wr IntKind.u32
                                          ((Int.ofNat 69069).mul
                                            (wr IntKind.u32
                                              ((wr IntKind.u32 ((Int.ofNat 69069).mul x)).add (Int.ofNat 1))))).add
                                      (Int.ofNat 1))))).add
                            (Int.ofNat 1))).fdiv
                      (Int.ofNat 65536))).tmod
                (Int.ofNat 3)).add
            (Int.ofNat 1))),
      V.int IntKind.i64
        (wr IntKind.i64
          (((wr IntKind.i64
                    ((wr IntKind.u32
                          ((wr IntKind.u32
                                ((Int.ofNat 69069).mul
                                  (wr IntKind.u32
                                    ((wr IntKind.u32
                                          ((Int.ofNat 69069).mul
                                            (wr IntKind.u32
                                              ((wr IntKind.u32
                                                    ((Int.ofNat 69069).mul
                                                      (wr IntKind.u32
                                                        ((wr IntKind.u32 ((Int.ofNat 69069).mul x)).add
                                                          (Int.ofNat 1))))).add
                                                (Int.ofNat 1))))).add
                                      (Int.ofNat 1))))).add
                            (Int.ofNat 1))).fdiv
                      (Int.ofNat 65536))).tmod
                (Int.ofNat 50)).add
            (Int.ofNat 1))),
      V.int IntKind.i64 (Int.ofNat 0), V.str [97]])
  (some
    (V.int IntKind.u32
        (wr IntKind.u32
          ((wr IntKind.u32
                ((Int.ofNat 69069).mul
                  (wr IntKind.u32
                    ((wr IntKind.u32
                          ((Int.ofNat 69069).mul
                            (wr IntKind.u32
                              ((wr IntKind.u32
                                    ((Int.ofNat 69069).mul
                                      (wr IntKind.u32
                                        ((wr IntKind.u32
                                              ((Int.ofNat 69069).mul
                                                (wr IntKind.u32
                                                  ((wr IntKind.u32 ((Int.ofNat 69069).mul x)).add (Int.ofNat 1))))).add
                                          (Int.ofNat 1))))).add
                                (Int.ofNat 1))))).add
                      (Int.ofNat 1))))).add
            (Int.ofNat 1))),
      V.int IntKind.i64 m))
  true 1082))) ∧
                      ((((wr IntKind.i64
      ((wr IntKind.u32
            ((wr IntKind.u32
                  ((Int.ofNat 69069).mul
                    (wr IntKind.u32
                      ((wr IntKind.u32
                            ((Int.ofNat 69069).mul
                              (wr IntKind.u32
                                ((wr IntKind.u32
                                      ((Int.ofNat 69069).mul
                                        (wr IntKind.u32
                                          ((wr IntKind.u32
                                                ((Int.ofNat 69069).mul
                                                  (wr IntKind.u32
                                                    ((wr IntKind.u32 ((Int.ofNat 69069).mul x)).add
                                                      (Int.ofNat 1))))).add
                                            (Int.ofNat 1))))).add
                                  (Int.ofNat 1))))).add
                        (Int.ofNat 1))))).add
              (Int.ofNat 1))).fdiv
        (Int.ofNat 65536))).tmod
  (Int.ofNat 3)) = (Int.ofNat 1)) → (Q
  (some
    [V.int IntKind.i64 (Int.ofNat 8),
      V.int IntKind.i64
        ((wr IntKind.i64
              ((wr IntKind.u32
                    ((wr IntKind.u32
                          ((Int.ofNat 69069).mul
                            (wr IntKind.u32 ((wr IntKind.u32 ((Int.ofNat 69069).mul x)).add (Int.ofNat 1))))).add
                      (Int.ofNat 1))).fdiv
                (Int.ofNat 65536))).tmod
          m),
      V.int IntKind.i64
        (wr IntKind.i64
          (((wr IntKind.i64
                    ((wr IntKind.u32
                          ((wr IntKind.u32
                                ((Int.ofNat 69069).mul
                                  (wr IntKind.u32
                                    ((wr IntKind.u32
                                          ((Int.ofNat 69069).mul
                                            (wr IntKind.u32
                                              ((wr IntKind.u32 ((Int.ofNat 69069).mul x)).add (Int.ofNat 1))))).add
                                      (Int.ofNat 1))))).add
                            (Int.ofNat 1))).fdiv
                      (Int.ofNat 65536))).tmod
                (Int.ofNat 3)).add
            (Int.ofNat 1))),
      V.int IntKind.i64
        (wr IntKind.i64
          (((wr IntKind.i64
                    ((wr IntKind.u32
                          ((wr IntKind.u32
                                ((Int.ofNat 69069).mul
                                  (wr IntKind.u32
                                    ((wr IntKind.u32
                                          ((Int.ofNat 69069).mul
                                            (wr IntKind.u32
                                              ((wr IntKind.u32
                                                    ((Int.ofNat 69069).mul
                                                      (wr IntKind.u32
                                                        ((wr IntKind.u32 ((Int.ofNat 69069).mul x)).add
                                                          (Int.ofNat 1))))).add
                                                (Int.ofNat 1))))).add
                                      (Int.ofNat 1))))).add
                            (Int.ofNat 1))).fdiv
                      (Int.ofNat 65536))).tmod
                (Int.ofNat 50)).add
            (Int.ofNat 1))),
      V.int IntKind.i64 (Int.ofNat 0), V.str [98, 32, 99]])
  (some
    (V.int IntKind.u32
        (wr IntKind.u32
          ((wr IntKind.u32
                ((Int.ofNat 69069).mul
                  (wr IntKind.u32
                    ((wr IntKind.u32
                          ((Int.ofNat 69069).mul
                            (wr IntKind.u32
                              ((wr IntKind.u32
                                    ((Int.ofNat 69069).mul
                                      (wr IntKind.u32
                                        ((wr IntKind.u32
                                              ((Int.ofNat 69069).mul
                                                (wr IntKind.u32
                                                  ((wr IntKind.u32 ((Int.ofNat 69069).mul x)).add (Int.ofNat 1))))).add
                                          (Int.ofNat 1))))).add
                                (Int.ofNat 1))))).add
                      (Int.ofNat 1))))).add
            (Int.ofNat 1))),
      V.int IntKind.i64 m))
  true 1082))) ∧
                     ((((wr IntKind.i64
      ((wr IntKind.u32
            ((wr IntKind.u32
                  ((Int.ofNat 69069).mul
                    (wr IntKind.u32
                      ((wr IntKind.u32
                            ((Int.ofNat 69069).mul
                              (wr IntKind.u32
                                ((wr IntKind.u32
                                      ((Int.ofNat 69069).mul
                                        (wr IntKind.u32
                                          ((wr IntKind.u32
                                                ((Int.ofNat 69069).mul
                                                  (wr IntKind.u32
                                                    ((wr IntKind.u32 ((Int.ofNat 69069).mul x)).add
                                                      (Int.ofNat 1))))).add
                                            (Int.ofNat 1))))).add
                                  (Int.ofNat 1))))).add
                        (Int.ofNat 1))))).add
              (Int.ofNat 1))).fdiv
        (Int.ofNat 65536))).tmod
  (Int.ofNat 3)) = (Int.ofNat 2)) → (Q
  (some
    [V.int IntKind.i64 (Int.ofNat 8),
      V.int IntKind.i64
        ((wr IntKind.i64
              ((wr IntKind.u32
                    ((wr IntKind.u32
                          ((Int.ofNat 69069).mul
                            (wr IntKind.u32 ((wr IntKind.u32 ((Int.ofNat 69069).mul x)).add (Int.ofNat 1))))).add
                      (Int.ofNat 1))).fdiv
                (Int.ofNat 65536))).tmod
          m),
      V.int IntKind.i64
        (wr IntKind.i64
          (((wr IntKind.i64
                    ((wr IntKind.u32
                          ((wr IntKind.u32
                                ((Int.ofNat 69069).mul
                                  (wr IntKind.u32
                                    ((wr IntKind.u32
                                          ((Int.ofNat 69069).mul
                                            (wr IntKind.u32
                                              ((wr IntKind.u32 ((Int.ofNat 69069).mul x)).add (Int.ofNat 1))))).add
                                      (Int.ofNat 1))))).add
                            (Int.ofNat 1))).fdiv
                      (Int.ofNat 65536))).tmod
                (Int.ofNat 3)).add
            (Int.ofNat 1))),
      V.int IntKind.i64
        (wr IntKind.i64
          (((wr IntKind.i64
                    ((wr IntKind.u32
                          ((wr IntKind.u32
                                ((Int.ofNat 69069).mul
                                  (wr IntKind.u32
                                    ((wr IntKind.u32
                                          ((Int.ofNat 69069).mul
                                            (wr IntKind.u32
                                              ((wr IntKind.u32
                                                    ((Int.ofNat 69069).mul
                                                      (wr IntKind.u32
                                                        ((wr IntKind.u32 ((Int.ofNat 69069).mul x)).add
                                                          (Int.ofNat 1))))).add
                                                (Int.ofNat 1))))).add
                                      (Int.ofNat 1))))).add
                            (Int.ofNat 1))).fdiv
                      (Int.ofNat 65536))).tmod
                (Int.ofNat 50)).add
            (Int.ofNat 1))),
      V.int IntKind.i64 (Int.ofNat 0), V.str [109, 97, 105, 110]])
  (some
    (V.int IntKind.u32
        (wr IntKind.u32
          ((wr IntKind.u32
                ((Int.ofNat 69069).mul
                  (wr IntKind.u32
                    ((wr IntKind.u32
                          ((Int.ofNat 69069).mul
                            (wr IntKind.u32
                              ((wr IntKind.u32
                                    ((Int.ofNat 69069).mul
                                      (wr IntKind.u32
                                        ((wr IntKind.u32
                                              ((Int.ofNat 69069).mul
                                                (wr IntKind.u32
                                                  ((wr IntKind.u32 ((Int.ofNat 69069).mul x)).add (Int.ofNat 1))))).add
                                          (Int.ofNat 1))))).add
                                (Int.ofNat 1))))).add
                      (Int.ofNat 1))))).add
            (Int.ofNat 1))),
      V.int IntKind.i64 m))
  true 1082))))))))))) ∧
            ((((wr IntKind.i64
      ((wr IntKind.u32 ((wr IntKind.u32 ((Int.ofNat 69069).mul x)).add (Int.ofNat 1))).fdiv (Int.ofNat 65536))).tmod
  (Int.ofNat 20)) = (Int.ofNat 10)) → ((ieq m (Int.ofNat 0)) = (false)) ∧
             (((false) = (false)) ∧
              (((false) = (false)) ∧
               ((((True) ∧
                  (((Int.ofNat 1) = (Int.ofNat 1)) ∧
                   (((Int.ofNat 1) = (Int.ofNat 1)) ∧
                    (((Int.ofNat 1) = (Int.ofNat 1)) ∧
                     ((Int.ofNat 1) = (Int.ofNat 1)))))) ∧
                 (((True) ∧
                   ((True) ∧
                    ((True) ∧
                     (((Int.ofNat 50) = (Int.ofNat 50)) ∧
                      ((Int.ofNat 50) = (Int.ofNat 50)))))) ∧
                  (((True) ∧
                    ((True) ∧
                     (((Int.ofNat 1) = (Int.ofNat 1)) ∧
                      (((Int.ofNat 1) = (Int.ofNat 1)) ∧
                       ((Int.ofNat 1) = (Int.ofNat 1)))))) ∧
                   (((True) ∧
                     ((True) ∧
                      ((True) ∧
                       ((True) ∧
                        ((Int.ofNat 3) = (Int.ofNat 3)))))) ∧
                    (True))))) ∧
                (((false) = (false)) ∧
                 (((ilt
  ((wr IntKind.i64
        ((wr IntKind.u32
              ((wr IntKind.u32
                    ((Int.ofNat 69069).mul
                      (wr IntKind.u32
                        ((wr IntKind.u32
                              ((Int.ofNat 69069).mul
                                (wr IntKind.u32
                                  ((wr IntKind.u32
                                        ((Int.ofNat 69069).mul
                                          (wr IntKind.u32
                                            ((wr IntKind.u32
                                                  ((Int.ofNat 69069).mul
                                                    (wr IntKind.u32
                                                      ((wr IntKind.u32 ((Int.ofNat 69069).mul x)).add
                                                        (Int.ofNat 1))))).add
                                              (Int.ofNat 1))))).add
                                    (Int.ofNat 1))))).add
                          (Int.ofNat 1))))).add
                (Int.ofNat 1))).fdiv
          (Int.ofNat 65536))).tmod
    (Int.ofNat 3))
  (Int.ofNat 0)) = (false)) ∧
                  (((ilt
  ((wr IntKind.i64
        ((wr IntKind.u32
              ((wr IntKind.u32
                    ((Int.ofNat 69069).mul
                      (wr IntKind.u32
                        ((wr IntKind.u32
                              ((Int.ofNat 69069).mul
                                (wr IntKind.u32
                                  ((wr IntKind.u32
                                        ((Int.ofNat 69069).mul
                                          (wr IntKind.u32
                                            ((wr IntKind.u32
                                                  ((Int.ofNat 69069).mul
                                                    (wr IntKind.u32
                                                      ((wr IntKind.u32 ((Int.ofNat 69069).mul x)).add
                                                        (Int.ofNat 1))))).add
                                              (Int.ofNat 1))))).add
                                    (Int.ofNat 1))))).add
                          (Int.ofNat 1))))).add
                (Int.ofNat 1))).fdiv
          (Int.ofNat 65536))).tmod
    (Int.ofNat 3))
  (Int.ofNat 3)) = (true)) ∧
                   ((((True) ∧
                      ((((wr IntKind.i64
      ((wr IntKind.u32
            ((wr IntKind.u32
                  ((Int.ofNat 69069).mul
                    (wr IntKind.u32
                      ((wr IntKind.u32
                            ((Int.ofNat 69069).mul
                              (wr IntKind.u32
                                ((wr IntKind.u32
                                      ((Int.ofNat 69069).mul
                                        (wr IntKind.u32
                                          ((wr IntKind.u32
                                                ((Int.ofNat 69069).mul
                                                  (wr IntKind.u32
                                                    ((wr IntKind.u32 ((Int.ofNat 69069).mul x)).add
                                                      (Int.ofNat 1))))).add
                                            (Int.ofNat 1))))).add
                                  (Int.ofNat 1))))).add
                        (Int.ofNat 1))))).add
              (Int.ofNat 1))).fdiv
        (Int.ofNat 65536))).tmod
  (Int.ofNat 3)) = (Int.ofNat 0)) → (Q
  (some
    [V.int IntKind.i64 (Int.ofNat 8),
      V.int IntKind.i64
        ((wr IntKind.i64
              ((wr IntKind.u32
                    ((wr IntKind.u32
                          ((Int.ofNat 69069).mul
                            (wr IntKind.u32 ((wr IntKind.u32 ((Int.ofNat 69069).mul x)).add (Int.ofNat 1))))).add
                      (Int.ofNat 1))).fdiv
                (Int.ofNat 65536))).tmod
          m),
      V.int IntKind.i64
        (wr IntKind.i64
          (((wr IntKind.i64
                    ((wr IntKind.u32
                          ((wr IntKind.u32
                                ((Int.ofNat 69069).mul
                                  (wr IntKind.u32
                                    ((wr IntKind.u32
                                          ((Int.ofNat 69069).mul
                                            (wr IntKind.u32
                                              ((wr IntKind.u32 ((Int.ofNat 69069).mul x)).add (Int.ofNat 1))))).add
                                      (Int.ofNat 1))))).add
                            (Int.ofNat 1))).fdiv
                      (Int.ofNat 65536))).tmod
                (Int.ofNat 3)).add
            (Int.ofNat 1))),
      V.int IntKind.i64
        (wr IntKind.i64
          (((wr IntKind.i64
                    ((wr IntKind.u32
                          ((wr IntKind.u32
                                ((Int.ofNat 69069).mul
                                  (wr IntKind.u32
                                    ((wr IntKind.u32
                                          ((Int.ofNat 69069).mul
                                            (wr IntKind.u32
                                              ((wr IntKind.u32
                                                    ((Int.ofNat 69069).mul
                                                      (wr IntKind.u32
                                                        ((wr IntKind.u32 ((Int.ofNat 69069).mul x)).add
                                                          (Int.ofNat 1))))).add
                                                (Int.ofNat 1))))).add
                                      (Int.ofNat 1))))).add
                            (Int.ofNat 1))).fdiv
                      (Int.ofNat 65536))).tmod
                (Int.ofNat 50)).add
            (Int.ofNat 1))),
      V.int IntKind.i64 (Int.ofNat 0), V.str [97]])
  (some
    (V.int IntKind.u32
        (wr IntKind.u32
          ((wr IntKind.u32
                ((Int.ofNat 69069).mul
                  (wr IntKind.u32
                    ((wr IntKind.u32
                          ((Int.ofNat 69069).mul
                            (wr IntKind.u32
                              ((wr IntKind.u32
                                    ((Int.ofNat 69069).mul
                                      (wr IntKind.u32
                                        ((wr IntKind.u32
                                              ((Int.ofNat 69069).mul
                                                (wr IntKind.u32
                                                  ((wr IntKind.u32 ((Int.ofNat 69069).mul x)).add (Int.ofNat 1))))).add
                                          (Int.ofNat 1))))).add
                                (Int.ofNat 1))))).add
                      (Int.ofNat 1))))).add
            (Int.ofNat 1))),
      V.int IntKind.i64 m))
  true 1082))) ∧
                     ((((wr IntKind.i64
      ((wr IntKind.u32
            ((wr IntKind.u32
                  ((Int.ofNat 69069).mul
                    (wr IntKind.u32
                      ((wr IntKind.u32
                            ((Int.ofNat 69069).mul
                              (wr IntKind.u32
                                ((wr IntKind.u32
                                      ((Int.ofNat 69069).mul
                                        (wr IntKind.u32
                                          ((wr IntKind.u32
                                                ((Int.ofNat 69069).mul
                                                  (wr IntKind.u32
                                                    ((wr IntKind.u32 ((Int.ofNat 69069).mul x)).add
                                                      (Int.ofNat 1))))).add
                                            (Int.ofNat 1))))).add
                                  (Int.ofNat 1))))).add
                        (Int.ofNat 1))))).add
              (Int.ofNat 1))).fdiv
        (Int.ofNat 65536))).tmod
  (Int.ofNat 3)) = (Int.ofNat 1)) → (Q
  (some
    [V.int IntKind.i64 (Int.ofNat 8),
      V.int IntKind.i64
        ((wr IntKind.i64
              ((wr IntKind.u32
                    ((wr IntKind.u32
                          ((Int.ofNat 69069).mul
                            (wr IntKind.u32 ((wr IntKind.u32 ((Int.ofNat 69069).mul x)).add (Int.ofNat 1))))).add
                      (Int.ofNat 1))).fdiv
                (Int.ofNat 65536))).tmod
          m),
      V.int IntKind.i64
        (wr IntKind.i64
          (((wr IntKind.i64
                    ((wr IntKind.u32
                          ((wr IntKind.u32
                                ((Int.ofNat 69069).mul
                                  (wr IntKind.u32
                                    ((wr IntKind.u32
                                          ((Int.ofNat 69069).mul
                                            (wr IntKind.u32
                                              ((wr IntKind.u32 ((Int.ofNat 69069).mul x)).add (Int.ofNat 1))))).add
                                      (Int.ofNat 1))))).add
                            (Int.ofNat 1))).fdiv
                      (Int.ofNat 65536))).tmod
                (Int.ofNat 3)).add
            (Int.ofNat 1))),
      V.int IntKind.i64
        (wr IntKind.i64
          (((wr IntKind.i64
                    ((wr IntKind.u32
                          ((wr IntKind.u32
                                ((Int.ofNat 69069).mul
                                  (wr IntKind.u32
                                    ((wr IntKind.u32
                                          ((Int.ofNat 69069).mul
                                            (wr IntKind.u32
                                              ((wr IntKind.u32
                                                    ((Int.ofNat 69069).mul
                                                      (wr IntKind.u32
                                                        ((wr IntKind.u32 ((Int.ofNat 69069).mul x)).add
                                                          (Int.ofNat 1))))).add
                                                (Int.ofNat 1))))).add
                                      (Int.ofNat 1))))).add
                            (Int.ofNat 1))).fdiv
                      (Int.ofNat 65536))).tmod
                (Int.ofNat 50)).add
            (Int.ofNat 1))),
      V.int IntKind.i64 (Int.ofNat 0), V.str [98, 32, 99]])
  (some
    (V.int IntKind.u32
        (wr IntKind.u32
          ((wr IntKind.u32
                ((Int.ofNat 69069).mul
                  (wr IntKind.u32
                    ((wr IntKind.u32
                          ((Int.ofNat 69069).mul
                            (wr IntKind.u32
                              ((wr IntKind.u32
                                    ((Int.ofNat 69069).mul
                                      (wr IntKind.u32
                                        ((wr IntKind.u32
                                              ((Int.ofNat 69069).mul
                                                (wr IntKind.u32
                                                  ((wr IntKind.u32 ((Int.ofNat 69069).mul x)).add (Int.ofNat 1))))).add
                                          (Int.ofNat 1))))).add
                                (Int.ofNat 1))))).add
                      (Int.ofNat 1))))).add
            (Int.ofNat 1))),
      V.int IntKind.i64 m))
  true 1082))) ∧
                    ((((wr IntKind.i64
      ((wr IntKind.u32
            ((wr IntKind.u32
                  ((Int.ofNat 69069).mul
                    (wr IntKind.u32
                      ((wr IntKind.u32
                            ((Int.ofNat 69069).mul
                              (wr IntKind.u32
                                ((wr IntKind.u32
                                      ((Int.ofNat 69069).mul
                                        (wr IntKind.u32
                                          ((wr IntKind.u32
                                                ((Int.ofNat 69069).mul
                                                  (wr IntKind.u32
                                                    ((wr IntKind.u32 ((Int.ofNat 69069).mul x)).add
                                                      (Int.ofNat 1))))).add
                                            (Int.ofNat 1))))).add
                                  (Int.ofNat 1))))).add
                        (Int.ofNat 1))))).add
              (Int.ofNat 1))).fdiv
        (Int.ofNat 65536))).tmod
  (Int.ofNat 3)) = (Int.ofNat 2)) → (Q
  (some
    [V.int IntKind.i64 (Int.ofNat 8),
      V.int IntKind.i64
        ((wr IntKind.i64
              ((wr IntKind.u32
                    ((wr IntKind.u32
                          ((Int.ofNat 69069).mul
                            (wr IntKind.u32 ((wr IntKind.u32 ((Int.ofNat 69069).mul x)).add (Int.ofNat 1))))).add
                      (Int.ofNat 1))).fdiv
                (Int.ofNat 65536))).tmod
          m),
      V.int IntKind.i64
        (wr IntKind.i64
          (((wr IntKind.i64
                    ((wr IntKind.u32
                          ((wr IntKind.u32
                                ((Int.ofNat 69069).mul
                                  (wr IntKind.u32
                                    ((wr IntKind.u32
                                          ((Int.ofNat 69069).mul
                                            (wr IntKind.u32
                                              ((wr IntKind.u32 ((Int.ofNat 69069).mul x)).add (Int.ofNat 1))))).add
                                      (Int.ofNat 1))))).add
                            (Int.ofNat 1))).fdiv
                      (Int.ofNat 65536))).tmod
                (Int.ofNat 3)).add
            (Int.ofNat 1))),
      V.int IntKind.i64
        (wr IntKind.i64
          (((wr IntKind.i64
                    ((wr IntKind.u32
                          ((wr IntKind.u32
                                ((Int.ofNat 69069).mul
                                  (wr IntKind.u32
                                    ((wr IntKind.u32
                                          ((Int.ofNat 69069).mul
                                            (wr IntKind.u32
                                              ((wr IntKind.u32
                                                    ((Int.ofNat 69069).mul
                                                      (wr IntKind.u32
                                                        ((wr IntKind.u32 ((Int.ofNat 69069).mul x)).add
                                                          (Int.ofNat 1))))).add
                                                (Int.ofNat 1))))).add
                                      (Int.ofNat 1))))).add
                            (Int.ofNat 1))).fdiv
                      (Int.ofNat 65536))).tmod
                (Int.ofNat 50)).add
            (Int.ofNat 1))),
      V.int IntKind.i64 (Int.ofNat 0), V.str [109, 97, 105, 110]])
  (some
    (V.int IntKind.u32
        (wr IntKind.u32
          ((wr IntKind.u32
                ((Int.ofNat 69069).mul
                  (wr IntKind.u32
                    ((wr IntKind.u32
                          ((Int.ofNat 69069).mul
                            (wr IntKind.u32
                              ((wr IntKind.u32
                                    ((Int.ofNat 69069).mul
                                      (wr IntKind.u32
                                        ((wr IntKind.u32
                                              ((Int.ofNat 69069).mul
                                                (wr IntKind.u32
                                                  ((wr IntKind.u32 ((Int.ofNat 69069).mul x)).add (Int.ofNat 1))))).add
                                          (Int.ofNat 1))))).add
                                (Int.ofNat 1))))).add
                      (Int.ofNat 1))))).add
            (Int.ofNat 1))),
      V.int IntKind.i64 m))
  true 1082))))))))))) ∧
           ((((wr IntKind.i64
      ((wr IntKind.u32 ((wr IntKind.u32 ((Int.ofNat 69069).mul x)).add (Int.ofNat 1))).fdiv (Int.ofNat 65536))).tmod
  (Int.ofNat 20)) = (Int.ofNat 11)) → ((ieq m (Int.ofNat 0)) = (false)) ∧
            (((false) = (false)) ∧
             ((((True) ∧
                (((Int.ofNat 0) = (Int.ofNat 0)) ∧
                 ((Int.ofNat 0) = (Int.ofNat 0)))) ∧
               (((True) ∧
                 ((True) ∧
                  ((Int.ofNat 6) = (Int.ofNat 6)))) ∧
                (True))) ∧
              ((Q
  (some
    [V.int IntKind.i64 (Int.ofNat 9),
      V.int IntKind.i64
        ((wr IntKind.i64
              ((wr IntKind.u32
                    ((wr IntKind.u32
                          ((Int.ofNat 69069).mul
                            (wr IntKind.u32 ((wr IntKind.u32 ((Int.ofNat 69069).mul x)).add (Int.ofNat 1))))).add
                      (Int.ofNat 1))).fdiv
                (Int.ofNat 65536))).tmod
          m),
      V.int IntKind.i64
        (wr IntKind.i64
          (((wr IntKind.i64
                    ((wr IntKind.u32
                          ((wr IntKind.u32
                                ((Int.ofNat 69069).mul
                                  (wr IntKind.u32
                                    ((wr IntKind.u32
                                          ((Int.ofNat 69069).mul
                                            (wr IntKind.u32
                                              ((wr IntKind.u32 ((Int.ofNat 69069).mul x)).add (Int.ofNat 1))))).add
                                      (Int.ofNat 1))))).add
                            (Int.ofNat 1))).fdiv
                      (Int.ofNat 65536))).tmod
                (Int.ofNat 6)).add
            (Int.ofNat 0))),
      V.int IntKind.i64 (Int.ofNat 0), V.int IntKind.i64 (Int.ofNat 0), V.str []])
  (some
    (V.int IntKind.u32
        (wr IntKind.u32
          ((wr IntKind.u32
                ((Int.ofNat 69069).mul
                  (wr IntKind.u32
                    ((wr IntKind.u32
                          ((Int.ofNat 69069).mul
                            (wr IntKind.u32 ((wr IntKind.u32 ((Int.ofNat 69069).mul x)).add (Int.ofNat 1))))).add
                      (Int.ofNat 1))))).add
            (Int.ofNat 1))),
      V.int IntKind.i64 m))
  true 1069)))))) ∧
          ((((wr IntKind.i64
      ((wr IntKind.u32 ((wr IntKind.u32 ((Int.ofNat 69069).mul x)).add (Int.ofNat 1))).fdiv (Int.ofNat 65536))).tmod
  (Int.ofNat 20)) = (Int.ofNat 12)) → ((ieq m (Int.ofNat 0)) = (false)) ∧
           (((false) = (false)) ∧
            ((((True) ∧
               (((Int.ofNat 0) = (Int.ofNat 0)) ∧
                ((Int.ofNat 0) = (Int.ofNat 0)))) ∧
              (((True) ∧
                ((True) ∧
                 ((Int.ofNat 8) = (Int.ofNat 8)))) ∧
               (True))) ∧
             ((Q
  (some
    [V.int IntKind.i64 (Int.ofNat 10),
      V.int IntKind.i64
        ((wr IntKind.i64
              ((wr IntKind.u32
                    ((wr IntKind.u32
                          ((Int.ofNat 69069).mul
                            (wr IntKind.u32 ((wr IntKind.u32 ((Int.ofNat 69069).mul x)).add (Int.ofNat 1))))).add
                      (Int.ofNat 1))).fdiv
                (Int.ofNat 65536))).tmod
          m),
      V.int IntKind.i64
        (wr IntKind.i64
          (((wr IntKind.i64
                    ((wr IntKind.u32
                          ((wr IntKind.u32
                                ((Int.ofNat 69069).mul
                                  (wr IntKind.u32
                                    ((wr IntKind.u32
                                          ((Int.ofNat 69069).mul
                                            (wr IntKind.u32
                                              ((wr IntKind.u32 ((Int.ofNat 69069).mul x)).add (Int.ofNat 1))))).add
                                      (Int.ofNat 1))))).add
                            (Int.ofNat 1))).fdiv
                      (Int.ofNat 65536))).tmod
                (Int.ofNat 8)).add
            (Int.ofNat 0))),
      V.int IntKind.i64 (Int.ofNat 0), V.int IntKind.i64 (Int.ofNat 0), V.str []])
  (some
    (V.int IntKind.u32
        (wr IntKind.u32
          ((wr IntKind.u32
                ((Int.ofNat 69069).mul
                  (wr IntKind.u32
                    ((wr IntKind.u32
                          ((Int.ofNat 69069).mul
                            (wr IntKind.u32 ((wr IntKind.u32 ((Int.ofNat 69069).mul x)).add (Int.ofNat 1))))).add
                      (Int.ofNat 1))))).add
            (Int.ofNat 1))),
      V.int IntKind.i64 m))
  true 1070)))))) ∧
         ((((wr IntKind.i64
      ((wr IntKind.u32 ((wr IntKind.u32 ((Int.ofNat 69069).mul x)).add (Int.ofNat 1))).fdiv (Int.ofNat 65536))).tmod
  (Int.ofNat 20)) = (Int.ofNat 13)) → ((ieq m (Int.ofNat 0)) = (false)) ∧
          (((false) = (false)) ∧
           (((false) = (false)) ∧
            ((((True) ∧
               (((Int.ofNat 1) = (Int.ofNat 1)) ∧
                (((Int.ofNat 1) = (Int.ofNat 1)) ∧
                 (((Int.ofNat 1) = (Int.ofNat 1)) ∧
                  ((Int.ofNat 1) = (Int.ofNat 1)))))) ∧
              (((True) ∧
                ((True) ∧
                 ((True) ∧
                  (((Int.ofNat 20) = (Int.ofNat 20)) ∧
                   ((Int.ofNat 20) = (Int.ofNat 20)))))) ∧
               (((True) ∧
                 ((True) ∧
                  (((Int.ofNat 0) = (Int.ofNat 0)) ∧
                   (((Int.ofNat 0) = (Int.ofNat 0)) ∧
                    ((Int.ofNat 0) = (Int.ofNat 0)))))) ∧
                (((True) ∧
                  ((True) ∧
                   ((True) ∧
                    ((True) ∧
                     ((Int.ofNat 8) = (Int.ofNat 8)))))) ∧
                 (True))))) ∧
             ((Q
  (some
    [V.int IntKind.i64 (Int.ofNat 11),
      V.int IntKind.i64
        ((wr IntKind.i64
              ((wr IntKind.u32
                    ((wr IntKind.u32
                          ((Int.ofNat 69069).mul
                            (wr IntKind.u32 ((wr IntKind.u32 ((Int.ofNat 69069).mul x)).add (Int.ofNat 1))))).add
                      (Int.ofNat 1))).fdiv
                (Int.ofNat 65536))).tmod
          m),
      V.int IntKind.i64
        (wr IntKind.i64
          (((wr IntKind.i64
                    ((wr IntKind.u32
                          ((wr IntKind.u32
                                ((Int.ofNat 69069).mul
                                  (wr IntKind.u32
                                    ((wr IntKind.u32
                                          ((Int.ofNat 69069).mul
                                            (wr IntKind.u32
                                              ((wr IntKind.u32 ((Int.ofNat 69069).mul x)).add (Int.ofNat 1))))).add
                                      (Int.ofNat 1))))).add
                            (Int.ofNat 1))).fdiv
                      (Int.ofNat 65536))).tmod
                (Int.ofNat 8)).add
            (Int.ofNat 0))),
      V.int IntKind.i64
        (wr IntKind.i64
          (((wr IntKind.i64
                    ((wr IntKind.u32
                          ((wr IntKind.u32
                                ((Int.ofNat 69069).mul
                                  (wr IntKind.u32
                                    ((wr IntKind.u32
                                          ((Int.ofNat 69069).mul
                                            (wr IntKind.u32
                                              ((wr IntKind.u32
                                                    ((Int.ofNat 69069).mul
                                                      (wr IntKind.u32
                                                        ((wr IntKind.u32 ((Int.ofNat 69069).mul x)).add
                                                          (Int.ofNat 1))))).add
                                                (Int.ofNat 1))))).add
                                      (Int.ofNat 1))))).add
                            (Int.ofNat 1))).fdiv
                      (Int.ofNat 65536))).tmod
                (Int.ofNat 20)).add
            (Int.ofNat 1))),
      V.int IntKind.i64 (Int.ofNat 0), V.str []])
  (some
    (V.int IntKind.u32
        (wr IntKind.u32
          ((wr IntKind.u32
                ((Int.ofNat 69069).mul
                  (wr IntKind.u32
                    ((wr IntKind.u32
                          ((Int.ofNat 69069).mul
                            (wr IntKind.u32
                              ((wr IntKind.u32
                                    ((Int.ofNat 69069).mul
                                      (wr IntKind.u32
                                        ((wr IntKind.u32 ((Int.ofNat 69069).mul x)).add (Int.ofNat 1))))).add
                                (Int.ofNat 1))))).add
                      (Int.ofNat 1))))).add
            (Int.ofNat 1))),
      V.int IntKind.i64 m))
  true 1080))))))) ∧
        ((((wr IntKind.i64
      ((wr IntKind.u32 ((wr IntKind.u32 ((Int.ofNat 69069).mul x)).add (Int.ofNat 1))).fdiv (Int.ofNat 65536))).tmod
  (Int.ofNat 20)) = (Int.ofNat 14)) → ((ieq m (Int.ofNat 0)) = (false)) ∧
         (((false) = (false)) ∧
          ((((True) ∧
             (((Int.ofNat 0) = (Int.ofNat 0)) ∧
              ((Int.ofNat 0) = (Int.ofNat 0)))) ∧
            (((True) ∧
              ((True) ∧
               ((Int.ofNat 8) = (Int.ofNat 8)))) ∧
             (True))) ∧
           ((Q
  (some
    [V.int IntKind.i64 (Int.ofNat 12),
      V.int IntKind.i64
        ((wr IntKind.i64
              ((wr IntKind.u32
                    ((wr IntKind.u32
                          ((Int.ofNat 69069).mul
                            (wr IntKind.u32 ((wr IntKind.u32 ((Int.ofNat 69069).mul x)).add (Int.ofNat 1))))).add
                      (Int.ofNat 1))).fdiv
                (Int.ofNat 65536))).tmod
          m),
      V.int IntKind.i64
        (wr IntKind.i64
          (((wr IntKind.i64
                    ((wr IntKind.u32
                          ((wr IntKind.u32
                                ((Int.ofNat 69069).mul
                                  (wr IntKind.u32
                                    ((wr IntKind.u32
                                          ((Int.ofNat 69069).mul
                                            (wr IntKind.u32
                                              ((wr IntKind.u32 ((Int.ofNat 69069).mul x)).add (Int.ofNat 1))))).add
                                      (Int.ofNat 1))))).add
                            (Int.ofNat 1))).fdiv
                      (Int.ofNat 65536))).tmod
                (Int.ofNat 8)).add
            (Int.ofNat 0))),
      V.int IntKind.i64 (Int.ofNat 0), V.int IntKind.i64 (Int.ofNat 0), V.str []])
  (some
    (V.int IntKind.u32
        (wr IntKind.u32
          ((wr IntKind.u32
                ((Int.ofNat 69069).mul
                  (wr IntKind.u32
                    ((wr IntKind.u32
                          ((Int.ofNat 69069).mul
                            (wr IntKind.u32 ((wr IntKind.u32 ((Int.ofNat 69069).mul x)).add (Int.ofNat 1))))).add
                      (Int.ofNat 1))))).add
            (Int.ofNat 1))),
      V.int IntKind.i64 m))
  true 1072)))))) ∧
       ((((wr IntKind.i64
      ((wr IntKind.u32 ((wr IntKind.u32 ((Int.ofNat 69069).mul x)).add (Int.ofNat 1))).fdiv (Int.ofNat 65536))).tmod
  (Int.ofNat 20)) = (Int.ofNat 15)) → ((ieq m (Int.ofNat 0)) = (false)) ∧
        ((Q
  (some
    [V.int IntKind.i64 (Int.ofNat 7),
      V.int IntKind.i64
        ((wr IntKind.i64
              ((wr IntKind.u32
                    ((wr IntKind.u32
                          ((Int.ofNat 69069).mul
                            (wr IntKind.u32 ((wr IntKind.u32 ((Int.ofNat 69069).mul x)).add (Int.ofNat 1))))).add
                      (Int.ofNat 1))).fdiv
                (Int.ofNat 65536))).tmod
          m),
      V.int IntKind.i64 (Int.ofNat 0), V.int IntKind.i64 (Int.ofNat 0), V.int IntKind.i64 (Int.ofNat 0), V.str []])
  (some
    (V.int IntKind.u32
        (wr IntKind.u32
          ((wr IntKind.u32
                ((Int.ofNat 69069).mul
                  (wr IntKind.u32 ((wr IntKind.u32 ((Int.ofNat 69069).mul x)).add (Int.ofNat 1))))).add
            (Int.ofNat 1))),
      V.int IntKind.i64 m))
  true 1064)))) ∧
      ((((wr IntKind.i64
      ((wr IntKind.u32 ((wr IntKind.u32 ((Int.ofNat 69069).mul x)).add (Int.ofNat 1))).fdiv (Int.ofNat 65536))).tmod
  (Int.ofNat 20)) = (Int.ofNat 16)) → ((ieq m (Int.ofNat 0)) = (false)) ∧
       ((Q
  (some
    [V.int IntKind.i64 (Int.ofNat 7),
      V.int IntKind.i64
        ((wr IntKind.i64
              ((wr IntKind.u32
                    ((wr IntKind.u32
                          ((Int.ofNat 69069).mul
                            (wr IntKind.u32 ((wr IntKind.u32 ((Int.ofNat 69069).mul x)).add (Int.ofNat 1))))).add
                      (Int.ofNat 1))).fdiv
                (Int.ofNat 65536))).tmod
          m),
      V.int IntKind.i64 (Int.ofNat 0), V.int IntKind.i64 (Int.ofNat 0), V.int IntKind.i64 (Int.ofNat 0), V.str []])
  (some
    (V.int IntKind.u32
        (wr IntKind.u32
          ((wr IntKind.u32
                ((Int.ofNat 69069).mul
                  (wr IntKind.u32 ((wr IntKind.u32 ((Int.ofNat 69069).mul x)).add (Int.ofNat 1))))).add
            (Int.ofNat 1))),
      V.int IntKind.i64 m))
  true 1064)))) ∧
     ((((wr IntKind.i64
      ((wr IntKind.u32 ((wr IntKind.u32 ((Int.ofNat 69069).mul x)).add (Int.ofNat 1))).fdiv (Int.ofNat 65536))).tmod
  (Int.ofNat 20)) = (Int.ofNat 17)) → ((false) = (false)) ∧
      ((((True) ∧
         (((Int.ofNat 1) = (Int.ofNat 1)) ∧
          ((Int.ofNat 1) = (Int.ofNat 1)))) ∧
        (((True) ∧
          ((True) ∧
           ((Int.ofNat 30) = (Int.ofNat 30)))) ∧
         (True))) ∧
       ((Q
  (some
    [V.int IntKind.i64 (Int.ofNat 13), V.int IntKind.i64 (Int.ofNat 0),
      V.int IntKind.i64
        (wr IntKind.i64
          (((wr IntKind.i64
                    ((wr IntKind.u32
                          ((wr IntKind.u32
                                ((Int.ofNat 69069).mul
                                  (wr IntKind.u32 ((wr IntKind.u32 ((Int.ofNat 69069).mul x)).add (Int.ofNat 1))))).add
                            (Int.ofNat 1))).fdiv
                      (Int.ofNat 65536))).tmod
                (Int.ofNat 30)).add
            (Int.ofNat 1))),
      V.int IntKind.i64 (Int.ofNat 0), V.int IntKind.i64 (Int.ofNat 0), V.str []])
  (some
    (V.int IntKind.u32
        (wr IntKind.u32
          ((wr IntKind.u32
                ((Int.ofNat 69069).mul
                  (wr IntKind.u32 ((wr IntKind.u32 ((Int.ofNat 69069).mul x)).add (Int.ofNat 1))))).add
            (Int.ofNat 1))),
      V.int IntKind.i64 m))
  true 1074))))) ∧
    ((((wr IntKind.i64
      ((wr IntKind.u32 ((wr IntKind.u32 ((Int.ofNat 69069).mul x)).add (Int.ofNat 1))).fdiv (Int.ofNat 65536))).tmod
  (Int.ofNat 20)) = (Int.ofNat 18)) → (Q
  (some
    [V.int IntKind.i64 (Int.ofNat 14), V.int IntKind.i64 (Int.ofNat 0), V.int IntKind.i64 (Int.ofNat 0),
      V.int IntKind.i64 (Int.ofNat 0), V.int IntKind.i64 (Int.ofNat 0), V.str []])
  (some
    (V.int IntKind.u32 (wr IntKind.u32 ((wr IntKind.u32 ((Int.ofNat 69069).mul x)).add (Int.ofNat 1))),
      V.int IntKind.i64 m))
  true 1066))) ∧
   ((((wr IntKind.i64
      ((wr IntKind.u32 ((wr IntKind.u32 ((Int.ofNat 69069).mul x)).add (Int.ofNat 1))).fdiv (Int.ofNat 65536))).tmod
  (Int.ofNat 20)) = (Int.ofNat 19)) → ((false) = (false)) ∧
    (((ilt
  ((wr IntKind.i64
        ((wr IntKind.u32
              ((wr IntKind.u32
                    ((Int.ofNat 69069).mul
                      (wr IntKind.u32 ((wr IntKind.u32 ((Int.ofNat 69069).mul x)).add (Int.ofNat 1))))).add
                (Int.ofNat 1))).fdiv
          (Int.ofNat 65536))).tmod
    (Int.ofNat 3))
  (Int.ofNat 0)) = (false)) ∧
     (((ilt
  ((wr IntKind.i64
        ((wr IntKind.u32
              ((wr IntKind.u32
                    ((Int.ofNat 69069).mul
                      (wr IntKind.u32 ((wr IntKind.u32 ((Int.ofNat 69069).mul x)).add (Int.ofNat 1))))).add
                (Int.ofNat 1))).fdiv
          (Int.ofNat 65536))).tmod
    (Int.ofNat 3))
  (Int.ofNat 3)) = (true)) ∧
      ((((True) ∧
         ((((wr IntKind.i64
      ((wr IntKind.u32
            ((wr IntKind.u32
                  ((Int.ofNat 69069).mul
                    (wr IntKind.u32 ((wr IntKind.u32 ((Int.ofNat 69069).mul x)).add (Int.ofNat 1))))).add
              (Int.ofNat 1))).fdiv
        (Int.ofNat 65536))).tmod
  (Int.ofNat 3)) = (Int.ofNat 0)) → ((false) = (false)) ∧
          ((((True) ∧
             (((Int.ofNat 1) = (Int.ofNat 1)) ∧
              ((Int.ofNat 1) = (Int.ofNat 1)))) ∧
            (((True) ∧
              ((True) ∧
               ((Int.ofNat 10) = (Int.ofNat 10)))) ∧
             (True))) ∧
           ((Q
  (some
    [V.int IntKind.i64 (Int.ofNat 15), V.int IntKind.i64 (Int.ofNat 0),
      V.int IntKind.i64
        (wr IntKind.i64
          (((wr IntKind.i64
                    ((wr IntKind.u32
                          ((wr IntKind.u32
                                ((Int.ofNat 69069).mul
                                  (wr IntKind.u32
                                    ((wr IntKind.u32
                                          ((Int.ofNat 69069).mul
                                            (wr IntKind.u32
                                              ((wr IntKind.u32 ((Int.ofNat 69069).mul x)).add (Int.ofNat 1))))).add
                                      (Int.ofNat 1))))).add
                            (Int.ofNat 1))).fdiv
                      (Int.ofNat 65536))).tmod
                (Int.ofNat 10)).add
            (Int.ofNat 1))),
      V.int IntKind.i64 (Int.ofNat 0), V.int IntKind.i64 (Int.ofNat 0), V.str []])
  (some
    (V.int IntKind.u32
        (wr IntKind.u32
          ((wr IntKind.u32
                ((Int.ofNat 69069).mul
                  (wr IntKind.u32
                    ((wr IntKind.u32
                          ((Int.ofNat 69069).mul
                            (wr IntKind.u32 ((wr IntKind.u32 ((Int.ofNat 69069).mul x)).add (Int.ofNat 1))))).add
                      (Int.ofNat 1))))).add
            (Int.ofNat 1))),
      V.int IntKind.i64 m))
  true 1078))))) ∧
        ((((wr IntKind.i64
      ((wr IntKind.u32
            ((wr IntKind.u32
                  ((Int.ofNat 69069).mul
                    (wr IntKind.u32 ((wr IntKind.u32 ((Int.ofNat 69069).mul x)).add (Int.ofNat 1))))).add
              (Int.ofNat 1))).fdiv
        (Int.ofNat 65536))).tmod
  (Int.ofNat 3)) = (Int.ofNat 1)) → (Q
  (some
    [V.int IntKind.i64 (Int.ofNat 16), V.int IntKind.i64 (Int.ofNat 0), V.int IntKind.i64 (Int.ofNat 0),
      V.int IntKind.i64 (Int.ofNat 0), V.int IntKind.i64 (Int.ofNat 0), V.str []])
  (some
    (V.int IntKind.u32
        (wr IntKind.u32
          ((wr IntKind.u32
                ((Int.ofNat 69069).mul
                  (wr IntKind.u32 ((wr IntKind.u32 ((Int.ofNat 69069).mul x)).add (Int.ofNat 1))))).add
            (Int.ofNat 1))),
      V.int IntKind.i64 m))
  true 1067))) ∧
       ((((wr IntKind.i64
      ((wr IntKind.u32
            ((wr IntKind.u32
                  ((Int.ofNat 69069).mul
                    (wr IntKind.u32 ((wr IntKind.u32 ((Int.ofNat 69069).mul x)).add (Int.ofNat 1))))).add
              (Int.ofNat 1))).fdiv
        (Int.ofNat 65536))).tmod
  (Int.ofNat 3)) = (Int.ofNat 2)) → ((false) = (false)) ∧
        (((ilt
  ((wr IntKind.i64
        ((wr IntKind.u32
              ((wr IntKind.u32
                    ((Int.ofNat 69069).mul
                      (wr IntKind.u32
                        ((wr IntKind.u32
                              ((Int.ofNat 69069).mul
                                (wr IntKind.u32 ((wr IntKind.u32 ((Int.ofNat 69069).mul x)).add (Int.ofNat 1))))).add
                          (Int.ofNat 1))))).add
                (Int.ofNat 1))).fdiv
          (Int.ofNat 65536))).tmod
    (Int.ofNat 5))
  (Int.ofNat 0)) = (false)) ∧
         (((ilt
  ((wr IntKind.i64
        ((wr IntKind.u32
              ((wr IntKind.u32
                    ((Int.ofNat 69069).mul
                      (wr IntKind.u32
                        ((wr IntKind.u32
                              ((Int.ofNat 69069).mul
                                (wr IntKind.u32 ((wr IntKind.u32 ((Int.ofNat 69069).mul x)).add (Int.ofNat 1))))).add
                          (Int.ofNat 1))))).add
                (Int.ofNat 1))).fdiv
          (Int.ofNat 65536))).tmod
    (Int.ofNat 5))
  (Int.ofNat 5)) = (true)) ∧
          ((((((True) ∧
               ((((wr IntKind.i64
      ((wr IntKind.u32
            ((wr IntKind.u32
                  ((Int.ofNat 69069).mul
                    (wr IntKind.u32
                      ((wr IntKind.u32
                            ((Int.ofNat 69069).mul
                              (wr IntKind.u32 ((wr IntKind.u32 ((Int.ofNat 69069).mul x)).add (Int.ofNat 1))))).add
                        (Int.ofNat 1))))).add
              (Int.ofNat 1))).fdiv
        (Int.ofNat 65536))).tmod
  (Int.ofNat 5)) = (Int.ofNat 0)) → (Q
  (some
    [V.int IntKind.i64 (Int.ofNat 17), V.int IntKind.i64 (Int.ofNat 0), V.int IntKind.i64 (Int.ofNat 0),
      V.int IntKind.i64 (Int.ofNat 0), V.int IntKind.i64 (Int.ofNat 0), V.str [111]])
  (some
    (V.int IntKind.u32
        (wr IntKind.u32
          ((wr IntKind.u32
                ((Int.ofNat 69069).mul
                  (wr IntKind.u32
                    ((wr IntKind.u32
                          ((Int.ofNat 69069).mul
                            (wr IntKind.u32 ((wr IntKind.u32 ((Int.ofNat 69069).mul x)).add (Int.ofNat 1))))).add
                      (Int.ofNat 1))))).add
            (Int.ofNat 1))),
      V.int IntKind.i64 m))
  true 1068))) ∧
              ((((wr IntKind.i64
      ((wr IntKind.u32
            ((wr IntKind.u32
                  ((Int.ofNat 69069).mul
                    (wr IntKind.u32
                      ((wr IntKind.u32
                            ((Int.ofNat 69069).mul
                              (wr IntKind.u32 ((wr IntKind.u32 ((Int.ofNat 69069).mul x)).add (Int.ofNat 1))))).add
                        (Int.ofNat 1))))).add
              (Int.ofNat 1))).fdiv
        (Int.ofNat 65536))).tmod
  (Int.ofNat 5)) = (Int.ofNat 1)) → (Q
  (some
    [V.int IntKind.i64 (Int.ofNat 17), V.int IntKind.i64 (Int.ofNat 0), V.int IntKind.i64 (Int.ofNat 0),
      V.int IntKind.i64 (Int.ofNat 0), V.int IntKind.i64 (Int.ofNat 0), V.str [108]])
  (some
    (V.int IntKind.u32
        (wr IntKind.u32
          ((wr IntKind.u32
                ((Int.ofNat 69069).mul
                  (wr IntKind.u32
                    ((wr IntKind.u32
                          ((Int.ofNat 69069).mul
                            (wr IntKind.u32 ((wr IntKind.u32 ((Int.ofNat 69069).mul x)).add (Int.ofNat 1))))).add
                      (Int.ofNat 1))))).add
            (Int.ofNat 1))),
      V.int IntKind.i64 m))
  true 1068))) ∧
             ((((wr IntKind.i64
      ((wr IntKind.u32
            ((wr IntKind.u32
                  ((Int.ofNat 69069).mul
                    (wr IntKind.u32
                      ((wr IntKind.u32
                            ((Int.ofNat 69069).mul
                              (wr IntKind.u32 ((wr IntKind.u32 ((Int.ofNat 69069).mul x)).add (Int.ofNat 1))))).add
                        (Int.ofNat 1))))).add
              (Int.ofNat 1))).fdiv
        (Int.ofNat 65536))).tmod
  (Int.ofNat 5)) = (Int.ofNat 2)) → (Q
  (some
    [V.int IntKind.i64 (Int.ofNat 17), V.int IntKind.i64 (Int.ofNat 0), V.int IntKind.i64 (Int.ofNat 0),
      V.int IntKind.i64 (Int.ofNat 0), V.int IntKind.i64 (Int.ofNat 0), V.str [102]])
  (some
    (V.int IntKind.u32
        (wr IntKind.u32
          ((wr IntKind.u32
                ((Int.ofNat 69069).mul
                  (wr IntKind.u32
                    ((wr IntKind.u32
                          ((Int.ofNat 69069).mul
                            (wr IntKind.u32 ((wr IntKind.u32 ((Int.ofNat 69069).mul x)).add (Int.ofNat 1))))).add
                      (Int.ofNat 1))))).add
            (Int.ofNat 1))),
      V.int IntKind.i64 m))
  true 1068))) ∧
            ((((wr IntKind.i64
      ((wr IntKind.u32
            ((wr IntKind.u32
                  ((Int.ofNat 69069).mul
                    (wr IntKind.u32
                      ((wr IntKind.u32
                            ((Int.ofNat 69069).mul
                              (wr IntKind.u32 ((wr IntKind.u32 ((Int.ofNat 69069).mul x)).add (Int.ofNat 1))))).add
                        (Int.ofNat 1))))).add
              (Int.ofNat 1))).fdiv
        (Int.ofNat 65536))).tmod
  (Int.ofNat 5)) = (Int.ofNat 3)) → (Q
  (some
    [V.int IntKind.i64 (Int.ofNat 17), V.int IntKind.i64 (Int.ofNat 0), V.int IntKind.i64 (Int.ofNat 0),
      V.int IntKind.i64 (Int.ofNat 0), V.int IntKind.i64 (Int.ofNat 0), V.str [108, 111]])
  (some
    (V.int IntKind.u32
        (wr IntKind.u32
          ((wr IntKind.u32
                ((Int.ofNat 69069).mul
                  (wr IntKind.u32
                    ((wr IntKind.u32
                          ((Int.ofNat 69069).mul
                            (wr IntKind.u32 ((wr IntKind.u32 ((Int.ofNat 69069).mul x)).add (Int.ofNat 1))))).add
                      (Int.ofNat 1))))).add
            (Int.ofNat 1))),
      V.int IntKind.i64 m))
  true 1068))) ∧
           ((((wr IntKind.i64
      ((wr IntKind.u32
            ((wr IntKind.u32
                  ((Int.ofNat 69069).mul
                    (wr IntKind.u32
                      ((wr IntKind.u32
                            ((Int.ofNat 69069).mul
                              (wr IntKind.u32 ((wr IntKind.u32 ((Int.ofNat 69069).mul x)).add (Int.ofNat 1))))).add
                        (Int.ofNat 1))))).add
              (Int.ofNat 1))).fdiv
        (Int.ofNat 65536))).tmod
  (Int.ofNat 5)) = (Int.ofNat 4)) → (Q
  (some
    [V.int IntKind.i64 (Int.ofNat 17), V.int IntKind.i64 (Int.ofNat 0), V.int IntKind.i64 (Int.ofNat 0),
      V.int IntKind.i64 (Int.ofNat 0), V.int IntKind.i64 (Int.ofNat 0), V.str [111, 108]])
  (some
    (V.int IntKind.u32
        (wr IntKind.u32
          ((wr IntKind.u32
                ((Int.ofNat 69069).mul
                  (wr IntKind.u32
                    ((wr IntKind.u32
                          ((Int.ofNat 69069).mul
                            (wr IntKind.u32 ((wr IntKind.u32 ((Int.ofNat 69069).mul x)).add (Int.ofNat 1))))).add
                      (Int.ofNat 1))))).add
            (Int.ofNat 1))),
      V.int IntKind.i64 m))
  true 1068)))))))))))))) := by kernel_rfl
end OD
end Go.Proofs.YtjbpagfjpdinjaaGreatDoor

/- Mix.op: its code; what it says, kind by kind. -/
import Derived.Test.YtcbggkejlhifpaaGreatDoorSc0
import Derived.Test.YtcbggkejlhifpaaGreatDoorCf
namespace Go.Proofs.YtcbggkejlhifpaaGreatDoor
set_option maxRecDepth 100000
set_option maxHeartbeats 4000000
open Go.Ev Go.RowKit
/-- an operation -/
structure OpR where
  kind : Int
  m : Int
  a : Int
  b : Int
  c : Int
  t : List UInt8
  deriving DecidableEq, Inhabited
def opV (o : OpR) : List V := [.int .i64 o.kind, .int .i64 o.m, .int .i64 o.a, .int .i64 o.b, .int .i64 o.c, .str o.t]
abbrev mixV (k m a b c : Int) : V := .agg 5 [.int .u8 k, .int .u8 m, .int .u8 a, .int .u8 b, .int .u8 c] .leaf
namespace BM
noncomputable def cellsA (v : V) : Option (List V) := match canonV v with
  | some (.agg n l .leaf) => match Nat.beq n 6 with
    | true => some l
    | false => .none
  | _ => .none
noncomputable def sp : SpF where
  at' := fun f t => match Nat.beq f iMix, t with
    | true, 9 => .upto 9 | _, _ => .keep
theorem vMix (k m a b c : Int) (n : Int) (Q : Option (List V) → Prop) : (fnW G0 sp 100 iMix [mixV k m a b c, .int .i64 n] hE (fun v _ => Q (cellsA v))) = (
((false) = (false)) ∧
(((ilt (k.tmod (Int.ofNat 9)) (Int.ofNat 0)) = (false)) ∧
 (((ilt (k.tmod (Int.ofNat 9)) (Int.ofNat 9)) = (true)) ∧
  ((((((((((True) ∧
           (((k.tmod (Int.ofNat 9)) = (Int.ofNat 0)) → ((ieq n (Int.ofNat 0)) = (false)) ∧
            (((false) = (false)) ∧
             ((((True) ∧
                ((a) = (a))) ∧
               (((True) ∧
                 ((m) = (m))) ∧
                (((True) ∧
                  ((Int.ofNat 1) = (Int.ofNat 1))) ∧
                 (((True) ∧
                   ((k) = (k))) ∧
                  (True))))) ∧
              ((Q
  (some
    [V.int IntKind.i64 (Int.ofNat 1), V.int IntKind.i64 ((wr IntKind.i64 m).tmod n),
      V.int IntKind.i64 (wr IntKind.i64 (a.tmod (Int.ofNat 4))), V.int IntKind.i64 (Int.ofNat 0),
      V.int IntKind.i64 (Int.ofNat 0), V.str []]))))))) ∧
          (((k.tmod (Int.ofNat 9)) = (Int.ofNat 1)) → ((ieq n (Int.ofNat 0)) = (false)) ∧
           (((false) = (false)) ∧
            ((((True) ∧
               ((a) = (a))) ∧
              (((True) ∧
                ((m) = (m))) ∧
               (((True) ∧
                 ((Int.ofNat 3) = (Int.ofNat 3))) ∧
                (((True) ∧
                  ((k) = (k))) ∧
                 (True))))) ∧
             (((false) = (false)) ∧
              (((false) = (false)) ∧
               ((((True) ∧
                  (((c) = (c)) ∧
                   ((c) = (c)))) ∧
                 (((True) ∧
                   ((True) ∧
                    ((b) = (b)))) ∧
                  (True))) ∧
                ((Q
  (some
    [V.int IntKind.i64 (Int.ofNat 3), V.int IntKind.i64 ((wr IntKind.i64 m).tmod n),
      V.int IntKind.i64 (wr IntKind.i64 (a.tmod (Int.ofNat 4))),
      V.int IntKind.i64 (wr IntKind.i64 (b.tmod (Int.ofNat 4))),
      V.int IntKind.i64 (wr IntKind.i64 ((wr IntKind.i64 (c.tmod (Int.ofNat 5))).sub (Int.ofNat 1))), V.str []])))))))))) ∧
         (((k.tmod (Int.ofNat 9)) = (Int.ofNat 2)) → ((ieq n (Int.ofNat 0)) = (false)) ∧
          (((false) = (false)) ∧
           ((((True) ∧
              ((a) = (a))) ∧
             (((True) ∧
               ((m) = (m))) ∧
              (((True) ∧
                ((Int.ofNat 4) = (Int.ofNat 4))) ∧
               (((True) ∧
                 ((k) = (k))) ∧
                (True))))) ∧
            ((Q
  (some
    [V.int IntKind.i64 (Int.ofNat 4), V.int IntKind.i64 ((wr IntKind.i64 m).tmod n),
      V.int IntKind.i64 (wr IntKind.i64 (a.tmod (Int.ofNat 4))), V.int IntKind.i64 (Int.ofNat 0),
      V.int IntKind.i64 (Int.ofNat 0), V.str []]))))))) ∧
        (((k.tmod (Int.ofNat 9)) = (Int.ofNat 3)) → ((ieq n (Int.ofNat 0)) = (false)) ∧
         (((false) = (false)) ∧
          ((((True) ∧
             ((a) = (a))) ∧
            (((True) ∧
              ((m) = (m))) ∧
             (((True) ∧
               ((Int.ofNat 5) = (Int.ofNat 5))) ∧
              (((True) ∧
                ((k) = (k))) ∧
               (True))))) ∧
           (((false) = (false)) ∧
            (((false) = (false)) ∧
             ((((True) ∧
                (((b) = (b)) ∧
                 ((b) = (b)))) ∧
               (((True) ∧
                 ((True) ∧
                  ((a) = (a)))) ∧
                (True))) ∧
              ((Q
  (some
    [V.int IntKind.i64 (Int.ofNat 5), V.int IntKind.i64 ((wr IntKind.i64 m).tmod n),
      V.int IntKind.i64 (wr IntKind.i64 ((wr IntKind.i64 (a.tmod (Int.ofNat 4))).sub (Int.ofNat 1))),
      V.int IntKind.i64 (wr IntKind.i64 (b.tmod (Int.ofNat 3))), V.int IntKind.i64 (Int.ofNat 0), V.str []])))))))))) ∧
       (((k.tmod (Int.ofNat 9)) = (Int.ofNat 4)) → ((ieq n (Int.ofNat 0)) = (false)) ∧
        (((false) = (false)) ∧
         ((((True) ∧
            ((a) = (a))) ∧
           (((True) ∧
             ((m) = (m))) ∧
            (((True) ∧
              ((Int.ofNat 6) = (Int.ofNat 6))) ∧
             (((True) ∧
               ((k) = (k))) ∧
              (True))))) ∧
          (((false) = (false)) ∧
           ((((True) ∧
              (((b) = (b)) ∧
               ((b) = (b)))) ∧
             (True)) ∧
            ((Q
  (some
    [V.int IntKind.i64 (Int.ofNat 6), V.int IntKind.i64 ((wr IntKind.i64 m).tmod n), V.int IntKind.i64 (Int.ofNat 0),
      V.int IntKind.i64 (wr IntKind.i64 (b.tmod (Int.ofNat 3))), V.int IntKind.i64 (Int.ofNat 0), V.str []]))))))))) ∧
      (((k.tmod (Int.ofNat 9)) = (Int.ofNat 5)) → ((ieq n (Int.ofNat 0)) = (false)) ∧
       (((false) = (false)) ∧
        ((((True) ∧
           ((a) = (a))) ∧
          (((True) ∧
            ((m) = (m))) ∧
           (((True) ∧
             ((Int.ofNat 2) = (Int.ofNat 2))) ∧
            (((True) ∧
              ((k) = (k))) ∧
             (True))))) ∧
         (((false) = (false)) ∧
          ((Q
  (some
    [V.int IntKind.i64 (Int.ofNat 2), V.int IntKind.i64 ((wr IntKind.i64 m).tmod n),
      V.int IntKind.i64 (wr IntKind.i64 (a.tmod (Int.ofNat 4))),
      V.int IntKind.i64 (wr IntKind.i64 (b.tmod (Int.ofNat 4))), V.int IntKind.i64 (Int.ofNat 0), V.str []])))))))) ∧
     (((k.tmod (Int.ofNat 9)) = (Int.ofNat 6)) → ((ieq n (Int.ofNat 0)) = (false)) ∧
      (((false) = (false)) ∧
       ((((True) ∧
          ((a) = (a))) ∧
         (((True) ∧
           ((m) = (m))) ∧
          (((True) ∧
            ((Int.ofNat 8) = (Int.ofNat 8))) ∧
           (((True) ∧
             ((k) = (k))) ∧
            (True))))) ∧
        (((false) = (false)) ∧
         (((false) = (false)) ∧
          ((((True) ∧
             ((True) ∧
              (((b) = (b)) ∧
               ((b) = (b))))) ∧
            (((True) ∧
              ((True) ∧
               ((True) ∧
                ((a) = (a))))) ∧
             (True))) ∧
           ((Q
  (some
    [V.int IntKind.i64 (Int.ofNat 8), V.int IntKind.i64 ((wr IntKind.i64 m).tmod n),
      V.int IntKind.i64 (wr IntKind.i64 ((Int.ofNat 1).add (wr IntKind.i64 (a.tmod (Int.ofNat 3))))),
      V.int IntKind.i64 (wr IntKind.i64 ((Int.ofNat 1).add (wr IntKind.i64 (b.tmod (Int.ofNat 40))))),
      V.int IntKind.i64 (Int.ofNat 0), V.str [116, 97, 103]])))))))))) ∧
    (((k.tmod (Int.ofNat 9)) = (Int.ofNat 7)) → ((ieq n (Int.ofNat 0)) = (false)) ∧
     (((false) = (false)) ∧
      ((((True) ∧
         ((a) = (a))) ∧
        (((True) ∧
          ((m) = (m))) ∧
         (((True) ∧
           ((Int.ofNat 10) = (Int.ofNat 10))) ∧
          (((True) ∧
            ((k) = (k))) ∧
           (True))))) ∧
       ((Q
  (some
    [V.int IntKind.i64 (Int.ofNat 10), V.int IntKind.i64 ((wr IntKind.i64 m).tmod n),
      V.int IntKind.i64 (wr IntKind.i64 (a.tmod (Int.ofNat 4))), V.int IntKind.i64 (Int.ofNat 0),
      V.int IntKind.i64 (Int.ofNat 0), V.str []]))))))) ∧
   (((k.tmod (Int.ofNat 9)) = (Int.ofNat 8)) → ((ieq n (Int.ofNat 0)) = (false)) ∧
    (((false) = (false)) ∧
     ((((True) ∧
        ((a) = (a))) ∧
       (((True) ∧
         ((m) = (m))) ∧
        (((True) ∧
          ((Int.ofNat 12) = (Int.ofNat 12))) ∧
         (((True) ∧
           ((k) = (k))) ∧
          (True))))) ∧
      ((Q
  (some
    [V.int IntKind.i64 (Int.ofNat 12), V.int IntKind.i64 ((wr IntKind.i64 m).tmod n),
      V.int IntKind.i64 (wr IntKind.i64 (a.tmod (Int.ofNat 4))), V.int IntKind.i64 (Int.ofNat 0),
      V.int IntKind.i64 (Int.ofNat 0), V.str []])))))))))) := by kernel_rfl
end BM
end Go.Proofs.YtcbggkejlhifpaaGreatDoor

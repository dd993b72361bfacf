/- block: its row, for each way to turn it. -/
import Derived.Test.YtcbggkejlhifpaaGreatDoorFr2
namespace Go.Proofs.YtcbggkejlhifpaaGreatDoor
set_option maxRecDepth 100000
set_option maxHeartbeats 4000000
open Go.Ev Go.RowKit
open Classical in
noncomputable def mixOk (k m a b c n : Int) : Bool := decide (u8r k ∧ u8r m ∧ u8r a ∧ u8r b ∧ u8r c ∧ 1 ≤ n)
namespace BK
noncomputable def kB : KBool := fun f args _ => match Nat.beq f iMix, args with
  | true, [.agg 5 [.int .u8 k, .int .u8 m, .int .u8 a, .int .u8 b, .int .u8 c] .leaf, .int .i64 n] => some (mixOk k m a b c n, .agg 6 (opV (mixF k m a b c n)) .leaf)
  | _, _ => .none
noncomputable def GB : Γ := mkG Tryz.prog eqs rows (extU kB fun _ _ _ => .none)
noncomputable def sp (w : Nat) : SpF where
  at' := fun f t => match Nat.beq f iBlock, t with
    | true, 43 => .upto w | _, _ => .keep
  kx := kxU kB
noncomputable def rowW (w : Nat) (o : Option O) : Option (List V) := match o with
  | some (.cells (some e) n pat tr) => match Nat.beq e tOp, Nat.beq n (Nat.mul w 6) with
    | true, true => gather n pat tr 0 (Nat.mul w 6)
    | _, _ => .none
  | _ => .none
noncomputable def K (Q : Nat → Nat → Nat → Cap → Option (List V) → Nat → Prop) (v : V) (h' : H) : Prop := match v with
  | .slice b o n c => Q b o n c (rowW n (h'.tr.get b)) h'.next
  | _ => False
noncomputable def hB : H := ⟨.leaf, 1020⟩
theorem v1 (a c d e f g h i j : Int) (k m x y z : Int) (t : Int) (Q : Nat → Nat → Nat → Cap → Option (List V) → Nat → Prop) : (fnW GB (sp 6) 200 iBlock [cfgV a 1 c d e f g h i j, mixV k m x y z, .int .u8 t] hB (K Q)) = (
((false) = (false)) ∧
(((!mixOk k m x y z (Int.ofNat 1)) = (false)) ∧
 ((((True) ∧
    (((i) = (i)) ∧
     ((i) = (i)))) ∧
   (((True) ∧
     ((True) ∧
      ((Int.ofNat 1) = (Int.ofNat 1)))) ∧
    (((True) ∧
      ((True) ∧
       (((k) = (k)) ∧
        (((m) = (m)) ∧
         (((x) = (x)) ∧
          (((y) = (y)) ∧
           (((z) = (z)) ∧
            (True)))))))) ∧
     (((True) ∧
       (((z) = (z)) ∧
        ((z) = (z)))) ∧
      (True))))) ∧
  (((false) = (false)) ∧
   (((ilt ((wr IntKind.i64 t).tmod (Int.ofNat 6)) (Int.ofNat 0)) = (false)) ∧
    (((ilt ((wr IntKind.i64 t).tmod (Int.ofNat 6)) (Int.ofNat 6)) = (true)) ∧
     (((((((True) ∧
           ((((wr IntKind.i64 t).tmod (Int.ofNat 6)) = (Int.ofNat 0)) → (True) ∧
            ((Q 1054 0 6 (Cap.atl 6 6)
  (some
    [V.int IntKind.i64 (Int.ofNat 7), V.int IntKind.i64 (Int.ofNat 0), V.int IntKind.i64 (Int.ofNat 0),
      V.int IntKind.i64 (Int.ofNat 0), V.int IntKind.i64 (Int.ofNat 0), V.str [], V.int IntKind.i64 (Int.ofNat 13),
      V.int IntKind.i64 (Int.ofNat 0),
      V.int IntKind.i64 (wr IntKind.i64 ((Int.ofNat 1).add (wr IntKind.i64 (z.tmod (Int.ofNat 3))))),
      V.int IntKind.i64 (Int.ofNat 0), V.int IntKind.i64 (Int.ofNat 0), V.str [], V.int IntKind.i64 (Int.ofNat 14),
      V.int IntKind.i64 (Int.ofNat 0), V.int IntKind.i64 (Int.ofNat 0), V.int IntKind.i64 (Int.ofNat 0),
      V.int IntKind.i64 (Int.ofNat 0), V.str [], V.int IntKind.i64 (mixF k m x y z 1).1,
      V.int IntKind.i64 (mixF k m x y z 1).2, V.int IntKind.i64 (mixF k m x y z 1).3,
      V.int IntKind.i64 (mixF k m x y z 1).4, V.int IntKind.i64 (mixF k m x y z 1).5, V.str (mixF k m x y z 1).6,
      V.int IntKind.i64 (Int.ofNat 15), V.int IntKind.i64 (Int.ofNat 0), V.int IntKind.i64 i,
      V.int IntKind.i64 (Int.ofNat 0), V.int IntKind.i64 (Int.ofNat 0), V.str [], V.int IntKind.i64 (Int.ofNat 16),
      V.int IntKind.i64 (Int.ofNat 0), V.int IntKind.i64 (Int.ofNat 0), V.int IntKind.i64 (Int.ofNat 0),
      V.int IntKind.i64 (Int.ofNat 0), V.str []])
  1055)))) ∧
          ((((wr IntKind.i64 t).tmod (Int.ofNat 6)) = (Int.ofNat 1)) → (True) ∧
           ((Q 1055 0 6 (Cap.atl 6 6)
  (some
    [V.int IntKind.i64 (Int.ofNat 13), V.int IntKind.i64 (Int.ofNat 0),
      V.int IntKind.i64 (wr IntKind.i64 ((Int.ofNat 1).add (wr IntKind.i64 (z.tmod (Int.ofNat 3))))),
      V.int IntKind.i64 (Int.ofNat 0), V.int IntKind.i64 (Int.ofNat 0), V.str [], V.int IntKind.i64 (Int.ofNat 14),
      V.int IntKind.i64 (Int.ofNat 0), V.int IntKind.i64 (Int.ofNat 0), V.int IntKind.i64 (Int.ofNat 0),
      V.int IntKind.i64 (Int.ofNat 0), V.str [], V.int IntKind.i64 (mixF k m x y z 1).1,
      V.int IntKind.i64 (mixF k m x y z 1).2, V.int IntKind.i64 (mixF k m x y z 1).3,
      V.int IntKind.i64 (mixF k m x y z 1).4, V.int IntKind.i64 (mixF k m x y z 1).5, V.str (mixF k m x y z 1).6,
      V.int IntKind.i64 (Int.ofNat 15), V.int IntKind.i64 (Int.ofNat 0), V.int IntKind.i64 i,
      V.int IntKind.i64 (Int.ofNat 0), V.int IntKind.i64 (Int.ofNat 0), V.str [], V.int IntKind.i64 (Int.ofNat 16),
      V.int IntKind.i64 (Int.ofNat 0), V.int IntKind.i64 (Int.ofNat 0), V.int IntKind.i64 (Int.ofNat 0),
      V.int IntKind.i64 (Int.ofNat 0), V.str [], V.int IntKind.i64 (Int.ofNat 7), V.int IntKind.i64 (Int.ofNat 0),
      V.int IntKind.i64 (Int.ofNat 0), V.int IntKind.i64 (Int.ofNat 0), V.int IntKind.i64 (Int.ofNat 0), V.str []])
  1056)))) ∧
         ((((wr IntKind.i64 t).tmod (Int.ofNat 6)) = (Int.ofNat 2)) → (True) ∧
          ((Q 1055 0 6 (Cap.atl 6 6)
  (some
    [V.int IntKind.i64 (Int.ofNat 14), V.int IntKind.i64 (Int.ofNat 0), V.int IntKind.i64 (Int.ofNat 0),
      V.int IntKind.i64 (Int.ofNat 0), V.int IntKind.i64 (Int.ofNat 0), V.str [],
      V.int IntKind.i64 (mixF k m x y z 1).1, V.int IntKind.i64 (mixF k m x y z 1).2,
      V.int IntKind.i64 (mixF k m x y z 1).3, V.int IntKind.i64 (mixF k m x y z 1).4,
      V.int IntKind.i64 (mixF k m x y z 1).5, V.str (mixF k m x y z 1).6, V.int IntKind.i64 (Int.ofNat 15),
      V.int IntKind.i64 (Int.ofNat 0), V.int IntKind.i64 i, V.int IntKind.i64 (Int.ofNat 0),
      V.int IntKind.i64 (Int.ofNat 0), V.str [], V.int IntKind.i64 (Int.ofNat 16), V.int IntKind.i64 (Int.ofNat 0),
      V.int IntKind.i64 (Int.ofNat 0), V.int IntKind.i64 (Int.ofNat 0), V.int IntKind.i64 (Int.ofNat 0), V.str [],
      V.int IntKind.i64 (Int.ofNat 7), V.int IntKind.i64 (Int.ofNat 0), V.int IntKind.i64 (Int.ofNat 0),
      V.int IntKind.i64 (Int.ofNat 0), V.int IntKind.i64 (Int.ofNat 0), V.str [], V.int IntKind.i64 (Int.ofNat 13),
      V.int IntKind.i64 (Int.ofNat 0),
      V.int IntKind.i64 (wr IntKind.i64 ((Int.ofNat 1).add (wr IntKind.i64 (z.tmod (Int.ofNat 3))))),
      V.int IntKind.i64 (Int.ofNat 0), V.int IntKind.i64 (Int.ofNat 0), V.str []])
  1056)))) ∧
        ((((wr IntKind.i64 t).tmod (Int.ofNat 6)) = (Int.ofNat 3)) → (True) ∧
         ((Q 1055 0 6 (Cap.atl 6 6)
  (some
    [V.int IntKind.i64 (mixF k m x y z 1).1, V.int IntKind.i64 (mixF k m x y z 1).2,
      V.int IntKind.i64 (mixF k m x y z 1).3, V.int IntKind.i64 (mixF k m x y z 1).4,
      V.int IntKind.i64 (mixF k m x y z 1).5, V.str (mixF k m x y z 1).6, V.int IntKind.i64 (Int.ofNat 15),
      V.int IntKind.i64 (Int.ofNat 0), V.int IntKind.i64 i, V.int IntKind.i64 (Int.ofNat 0),
      V.int IntKind.i64 (Int.ofNat 0), V.str [], V.int IntKind.i64 (Int.ofNat 16), V.int IntKind.i64 (Int.ofNat 0),
      V.int IntKind.i64 (Int.ofNat 0), V.int IntKind.i64 (Int.ofNat 0), V.int IntKind.i64 (Int.ofNat 0), V.str [],
      V.int IntKind.i64 (Int.ofNat 7), V.int IntKind.i64 (Int.ofNat 0), V.int IntKind.i64 (Int.ofNat 0),
      V.int IntKind.i64 (Int.ofNat 0), V.int IntKind.i64 (Int.ofNat 0), V.str [], V.int IntKind.i64 (Int.ofNat 13),
      V.int IntKind.i64 (Int.ofNat 0),
      V.int IntKind.i64 (wr IntKind.i64 ((Int.ofNat 1).add (wr IntKind.i64 (z.tmod (Int.ofNat 3))))),
      V.int IntKind.i64 (Int.ofNat 0), V.int IntKind.i64 (Int.ofNat 0), V.str [], V.int IntKind.i64 (Int.ofNat 14),
      V.int IntKind.i64 (Int.ofNat 0), V.int IntKind.i64 (Int.ofNat 0), V.int IntKind.i64 (Int.ofNat 0),
      V.int IntKind.i64 (Int.ofNat 0), V.str []])
  1056)))) ∧
       ((((wr IntKind.i64 t).tmod (Int.ofNat 6)) = (Int.ofNat 4)) → (True) ∧
        ((Q 1055 0 6 (Cap.atl 6 6)
  (some
    [V.int IntKind.i64 (Int.ofNat 15), V.int IntKind.i64 (Int.ofNat 0), V.int IntKind.i64 i,
      V.int IntKind.i64 (Int.ofNat 0), V.int IntKind.i64 (Int.ofNat 0), V.str [], V.int IntKind.i64 (Int.ofNat 16),
      V.int IntKind.i64 (Int.ofNat 0), V.int IntKind.i64 (Int.ofNat 0), V.int IntKind.i64 (Int.ofNat 0),
      V.int IntKind.i64 (Int.ofNat 0), V.str [], V.int IntKind.i64 (Int.ofNat 7), V.int IntKind.i64 (Int.ofNat 0),
      V.int IntKind.i64 (Int.ofNat 0), V.int IntKind.i64 (Int.ofNat 0), V.int IntKind.i64 (Int.ofNat 0), V.str [],
      V.int IntKind.i64 (Int.ofNat 13), V.int IntKind.i64 (Int.ofNat 0),
      V.int IntKind.i64 (wr IntKind.i64 ((Int.ofNat 1).add (wr IntKind.i64 (z.tmod (Int.ofNat 3))))),
      V.int IntKind.i64 (Int.ofNat 0), V.int IntKind.i64 (Int.ofNat 0), V.str [], V.int IntKind.i64 (Int.ofNat 14),
      V.int IntKind.i64 (Int.ofNat 0), V.int IntKind.i64 (Int.ofNat 0), V.int IntKind.i64 (Int.ofNat 0),
      V.int IntKind.i64 (Int.ofNat 0), V.str [], V.int IntKind.i64 (mixF k m x y z 1).1,
      V.int IntKind.i64 (mixF k m x y z 1).2, V.int IntKind.i64 (mixF k m x y z 1).3,
      V.int IntKind.i64 (mixF k m x y z 1).4, V.int IntKind.i64 (mixF k m x y z 1).5, V.str (mixF k m x y z 1).6])
  1056)))) ∧
      ((((wr IntKind.i64 t).tmod (Int.ofNat 6)) = (Int.ofNat 5)) → (True) ∧
       ((Q 1055 0 6 (Cap.atl 6 6)
  (some
    [V.int IntKind.i64 (Int.ofNat 16), V.int IntKind.i64 (Int.ofNat 0), V.int IntKind.i64 (Int.ofNat 0),
      V.int IntKind.i64 (Int.ofNat 0), V.int IntKind.i64 (Int.ofNat 0), V.str [], V.int IntKind.i64 (Int.ofNat 7),
      V.int IntKind.i64 (Int.ofNat 0), V.int IntKind.i64 (Int.ofNat 0), V.int IntKind.i64 (Int.ofNat 0),
      V.int IntKind.i64 (Int.ofNat 0), V.str [], V.int IntKind.i64 (Int.ofNat 13), V.int IntKind.i64 (Int.ofNat 0),
      V.int IntKind.i64 (wr IntKind.i64 ((Int.ofNat 1).add (wr IntKind.i64 (z.tmod (Int.ofNat 3))))),
      V.int IntKind.i64 (Int.ofNat 0), V.int IntKind.i64 (Int.ofNat 0), V.str [], V.int IntKind.i64 (Int.ofNat 14),
      V.int IntKind.i64 (Int.ofNat 0), V.int IntKind.i64 (Int.ofNat 0), V.int IntKind.i64 (Int.ofNat 0),
      V.int IntKind.i64 (Int.ofNat 0), V.str [], V.int IntKind.i64 (mixF k m x y z 1).1,
      V.int IntKind.i64 (mixF k m x y z 1).2, V.int IntKind.i64 (mixF k m x y z 1).3,
      V.int IntKind.i64 (mixF k m x y z 1).4, V.int IntKind.i64 (mixF k m x y z 1).5, V.str (mixF k m x y z 1).6,
      V.int IntKind.i64 (Int.ofNat 15), V.int IntKind.i64 (Int.ofNat 0), V.int IntKind.i64 i,
      V.int IntKind.i64 (Int.ofNat 0), V.int IntKind.i64 (Int.ofNat 0), V.str []])
  1056)))))))))) := by kernel_rfl
theorem v2 (a c d e f g h i j : Int) (k m x y z : Int) (t : Int) (Q : Nat → Nat → Nat → Cap → Option (List V) → Nat → Prop) : (fnW GB (sp 7) 200 iBlock [cfgV a 2 c d e f g h i j, mixV k m x y z, .int .u8 t] hB (K Q)) = (
((false) = (false)) ∧
(((!mixOk k m x y z (Int.ofNat 2)) = (false)) ∧
 ((((True) ∧
    (((i) = (i)) ∧
     ((i) = (i)))) ∧
   (((True) ∧
     ((True) ∧
      ((Int.ofNat 2) = (Int.ofNat 2)))) ∧
    (((True) ∧
      ((True) ∧
       (((k) = (k)) ∧
        (((m) = (m)) ∧
         (((x) = (x)) ∧
          (((y) = (y)) ∧
           (((z) = (z)) ∧
            (True)))))))) ∧
     (((True) ∧
       (((z) = (z)) ∧
        ((z) = (z)))) ∧
      (True))))) ∧
  (((false) = (false)) ∧
   (((ilt ((wr IntKind.i64 t).tmod (Int.ofNat 7)) (Int.ofNat 0)) = (false)) ∧
    (((ilt ((wr IntKind.i64 t).tmod (Int.ofNat 7)) (Int.ofNat 7)) = (true)) ∧
     ((((((((True) ∧
            ((((wr IntKind.i64 t).tmod (Int.ofNat 7)) = (Int.ofNat 0)) → (True) ∧
             ((Q 1056 0 7 (Cap.atl 7 6)
  (some
    [V.int IntKind.i64 (Int.ofNat 7), V.int IntKind.i64 (Int.ofNat 0), V.int IntKind.i64 (Int.ofNat 0),
      V.int IntKind.i64 (Int.ofNat 0), V.int IntKind.i64 (Int.ofNat 0), V.str [], V.int IntKind.i64 (Int.ofNat 7),
      V.int IntKind.i64 (wr IntKind.i64 ((Int.ofNat 0).add (Int.ofNat 1))), V.int IntKind.i64 (Int.ofNat 0),
      V.int IntKind.i64 (Int.ofNat 0), V.int IntKind.i64 (Int.ofNat 0), V.str [], V.int IntKind.i64 (Int.ofNat 13),
      V.int IntKind.i64 (Int.ofNat 0),
      V.int IntKind.i64 (wr IntKind.i64 ((Int.ofNat 1).add (wr IntKind.i64 (z.tmod (Int.ofNat 3))))),
      V.int IntKind.i64 (Int.ofNat 0), V.int IntKind.i64 (Int.ofNat 0), V.str [], V.int IntKind.i64 (Int.ofNat 14),
      V.int IntKind.i64 (Int.ofNat 0), V.int IntKind.i64 (Int.ofNat 0), V.int IntKind.i64 (Int.ofNat 0),
      V.int IntKind.i64 (Int.ofNat 0), V.str [], V.int IntKind.i64 (mixF k m x y z 2).1,
      V.int IntKind.i64 (mixF k m x y z 2).2, V.int IntKind.i64 (mixF k m x y z 2).3,
      V.int IntKind.i64 (mixF k m x y z 2).4, V.int IntKind.i64 (mixF k m x y z 2).5, V.str (mixF k m x y z 2).6,
      V.int IntKind.i64 (Int.ofNat 15), V.int IntKind.i64 (Int.ofNat 0), V.int IntKind.i64 i,
      V.int IntKind.i64 (Int.ofNat 0), V.int IntKind.i64 (Int.ofNat 0), V.str [], V.int IntKind.i64 (Int.ofNat 16),
      V.int IntKind.i64 (Int.ofNat 0), V.int IntKind.i64 (Int.ofNat 0), V.int IntKind.i64 (Int.ofNat 0),
      V.int IntKind.i64 (Int.ofNat 0), V.str []])
  1057)))) ∧
           ((((wr IntKind.i64 t).tmod (Int.ofNat 7)) = (Int.ofNat 1)) → (True) ∧
            ((Q 1057 0 7 (Cap.atl 7 6)
  (some
    [V.int IntKind.i64 (Int.ofNat 7), V.int IntKind.i64 (wr IntKind.i64 ((Int.ofNat 0).add (Int.ofNat 1))),
      V.int IntKind.i64 (Int.ofNat 0), V.int IntKind.i64 (Int.ofNat 0), V.int IntKind.i64 (Int.ofNat 0), V.str [],
      V.int IntKind.i64 (Int.ofNat 13), V.int IntKind.i64 (Int.ofNat 0),
      V.int IntKind.i64 (wr IntKind.i64 ((Int.ofNat 1).add (wr IntKind.i64 (z.tmod (Int.ofNat 3))))),
      V.int IntKind.i64 (Int.ofNat 0), V.int IntKind.i64 (Int.ofNat 0), V.str [], V.int IntKind.i64 (Int.ofNat 14),
      V.int IntKind.i64 (Int.ofNat 0), V.int IntKind.i64 (Int.ofNat 0), V.int IntKind.i64 (Int.ofNat 0),
      V.int IntKind.i64 (Int.ofNat 0), V.str [], V.int IntKind.i64 (mixF k m x y z 2).1,
      V.int IntKind.i64 (mixF k m x y z 2).2, V.int IntKind.i64 (mixF k m x y z 2).3,
      V.int IntKind.i64 (mixF k m x y z 2).4, V.int IntKind.i64 (mixF k m x y z 2).5, V.str (mixF k m x y z 2).6,
      V.int IntKind.i64 (Int.ofNat 15), V.int IntKind.i64 (Int.ofNat 0), V.int IntKind.i64 i,
      V.int IntKind.i64 (Int.ofNat 0), V.int IntKind.i64 (Int.ofNat 0), V.str [], V.int IntKind.i64 (Int.ofNat 16),
      V.int IntKind.i64 (Int.ofNat 0), V.int IntKind.i64 (Int.ofNat 0), V.int IntKind.i64 (Int.ofNat 0),
      V.int IntKind.i64 (Int.ofNat 0), V.str [], V.int IntKind.i64 (Int.ofNat 7), V.int IntKind.i64 (Int.ofNat 0),
      V.int IntKind.i64 (Int.ofNat 0), V.int IntKind.i64 (Int.ofNat 0), V.int IntKind.i64 (Int.ofNat 0), V.str []])
  1058)))) ∧
          ((((wr IntKind.i64 t).tmod (Int.ofNat 7)) = (Int.ofNat 2)) → (True) ∧
           ((Q 1057 0 7 (Cap.atl 7 6)
  (some
    [V.int IntKind.i64 (Int.ofNat 13), V.int IntKind.i64 (Int.ofNat 0),
      V.int IntKind.i64 (wr IntKind.i64 ((Int.ofNat 1).add (wr IntKind.i64 (z.tmod (Int.ofNat 3))))),
      V.int IntKind.i64 (Int.ofNat 0), V.int IntKind.i64 (Int.ofNat 0), V.str [], V.int IntKind.i64 (Int.ofNat 14),
      V.int IntKind.i64 (Int.ofNat 0), V.int IntKind.i64 (Int.ofNat 0), V.int IntKind.i64 (Int.ofNat 0),
      V.int IntKind.i64 (Int.ofNat 0), V.str [], V.int IntKind.i64 (mixF k m x y z 2).1,
      V.int IntKind.i64 (mixF k m x y z 2).2, V.int IntKind.i64 (mixF k m x y z 2).3,
      V.int IntKind.i64 (mixF k m x y z 2).4, V.int IntKind.i64 (mixF k m x y z 2).5, V.str (mixF k m x y z 2).6,
      V.int IntKind.i64 (Int.ofNat 15), V.int IntKind.i64 (Int.ofNat 0), V.int IntKind.i64 i,
      V.int IntKind.i64 (Int.ofNat 0), V.int IntKind.i64 (Int.ofNat 0), V.str [], V.int IntKind.i64 (Int.ofNat 16),
      V.int IntKind.i64 (Int.ofNat 0), V.int IntKind.i64 (Int.ofNat 0), V.int IntKind.i64 (Int.ofNat 0),
      V.int IntKind.i64 (Int.ofNat 0), V.str [], V.int IntKind.i64 (Int.ofNat 7), V.int IntKind.i64 (Int.ofNat 0),
      V.int IntKind.i64 (Int.ofNat 0), V.int IntKind.i64 (Int.ofNat 0), V.int IntKind.i64 (Int.ofNat 0), V.str [],
      V.int IntKind.i64 (Int.ofNat 7), V.int IntKind.i64 (wr IntKind.i64 ((Int.ofNat 0).add (Int.ofNat 1))),
      V.int IntKind.i64 (Int.ofNat 0), V.int IntKind.i64 (Int.ofNat 0), V.int IntKind.i64 (Int.ofNat 0), V.str []])
  1058)))) ∧
         ((((wr IntKind.i64 t).tmod (Int.ofNat 7)) = (Int.ofNat 3)) → (True) ∧
          ((Q 1057 0 7 (Cap.atl 7 6)
  (some
    [V.int IntKind.i64 (Int.ofNat 14), V.int IntKind.i64 (Int.ofNat 0), V.int IntKind.i64 (Int.ofNat 0),
      V.int IntKind.i64 (Int.ofNat 0), V.int IntKind.i64 (Int.ofNat 0), V.str [],
      V.int IntKind.i64 (mixF k m x y z 2).1, V.int IntKind.i64 (mixF k m x y z 2).2,
      V.int IntKind.i64 (mixF k m x y z 2).3, V.int IntKind.i64 (mixF k m x y z 2).4,
      V.int IntKind.i64 (mixF k m x y z 2).5, V.str (mixF k m x y z 2).6, V.int IntKind.i64 (Int.ofNat 15),
      V.int IntKind.i64 (Int.ofNat 0), V.int IntKind.i64 i, V.int IntKind.i64 (Int.ofNat 0),
      V.int IntKind.i64 (Int.ofNat 0), V.str [], V.int IntKind.i64 (Int.ofNat 16), V.int IntKind.i64 (Int.ofNat 0),
      V.int IntKind.i64 (Int.ofNat 0), V.int IntKind.i64 (Int.ofNat 0), V.int IntKind.i64 (Int.ofNat 0), V.str [],
      V.int IntKind.i64 (Int.ofNat 7), V.int IntKind.i64 (Int.ofNat 0), V.int IntKind.i64 (Int.ofNat 0),
      V.int IntKind.i64 (Int.ofNat 0), V.int IntKind.i64 (Int.ofNat 0), V.str [], V.int IntKind.i64 (Int.ofNat 7),
      V.int IntKind.i64 (wr IntKind.i64 ((Int.ofNat 0).add (Int.ofNat 1))), V.int IntKind.i64 (Int.ofNat 0),
      V.int IntKind.i64 (Int.ofNat 0), V.int IntKind.i64 (Int.ofNat 0), V.str [], V.int IntKind.i64 (Int.ofNat 13),
      V.int IntKind.i64 (Int.ofNat 0),
      V.int IntKind.i64 (wr IntKind.i64 ((Int.ofNat 1).add (wr IntKind.i64 (z.tmod (Int.ofNat 3))))),
      V.int IntKind.i64 (Int.ofNat 0), V.int IntKind.i64 (Int.ofNat 0), V.str []])
  1058)))) ∧
        ((((wr IntKind.i64 t).tmod (Int.ofNat 7)) = (Int.ofNat 4)) → (True) ∧
         ((Q 1057 0 7 (Cap.atl 7 6)
  (some
    [V.int IntKind.i64 (mixF k m x y z 2).1, V.int IntKind.i64 (mixF k m x y z 2).2,
      V.int IntKind.i64 (mixF k m x y z 2).3, V.int IntKind.i64 (mixF k m x y z 2).4,
      V.int IntKind.i64 (mixF k m x y z 2).5, V.str (mixF k m x y z 2).6, V.int IntKind.i64 (Int.ofNat 15),
      V.int IntKind.i64 (Int.ofNat 0), V.int IntKind.i64 i, V.int IntKind.i64 (Int.ofNat 0),
      V.int IntKind.i64 (Int.ofNat 0), V.str [], V.int IntKind.i64 (Int.ofNat 16), V.int IntKind.i64 (Int.ofNat 0),
      V.int IntKind.i64 (Int.ofNat 0), V.int IntKind.i64 (Int.ofNat 0), V.int IntKind.i64 (Int.ofNat 0), V.str [],
      V.int IntKind.i64 (Int.ofNat 7), V.int IntKind.i64 (Int.ofNat 0), V.int IntKind.i64 (Int.ofNat 0),
      V.int IntKind.i64 (Int.ofNat 0), V.int IntKind.i64 (Int.ofNat 0), V.str [], V.int IntKind.i64 (Int.ofNat 7),
      V.int IntKind.i64 (wr IntKind.i64 ((Int.ofNat 0).add (Int.ofNat 1))), V.int IntKind.i64 (Int.ofNat 0),
      V.int IntKind.i64 (Int.ofNat 0), V.int IntKind.i64 (Int.ofNat 0), V.str [], V.int IntKind.i64 (Int.ofNat 13),
      V.int IntKind.i64 (Int.ofNat 0),
      V.int IntKind.i64 (wr IntKind.i64 ((Int.ofNat 1).add (wr IntKind.i64 (z.tmod (Int.ofNat 3))))),
      V.int IntKind.i64 (Int.ofNat 0), V.int IntKind.i64 (Int.ofNat 0), V.str [], V.int IntKind.i64 (Int.ofNat 14),
      V.int IntKind.i64 (Int.ofNat 0), V.int IntKind.i64 (Int.ofNat 0), V.int IntKind.i64 (Int.ofNat 0),
      V.int IntKind.i64 (Int.ofNat 0), V.str []])
  1058)))) ∧
       ((((wr IntKind.i64 t).tmod (Int.ofNat 7)) = (Int.ofNat 5)) → (True) ∧
        ((Q 1057 0 7 (Cap.atl 7 6)
  (some
    [V.int IntKind.i64 (Int.ofNat 15), V.int IntKind.i64 (Int.ofNat 0), V.int IntKind.i64 i,
      V.int IntKind.i64 (Int.ofNat 0), V.int IntKind.i64 (Int.ofNat 0), V.str [], V.int IntKind.i64 (Int.ofNat 16),
      V.int IntKind.i64 (Int.ofNat 0), V.int IntKind.i64 (Int.ofNat 0), V.int IntKind.i64 (Int.ofNat 0),
      V.int IntKind.i64 (Int.ofNat 0), V.str [], V.int IntKind.i64 (Int.ofNat 7), V.int IntKind.i64 (Int.ofNat 0),
      V.int IntKind.i64 (Int.ofNat 0), V.int IntKind.i64 (Int.ofNat 0), V.int IntKind.i64 (Int.ofNat 0), V.str [],
      V.int IntKind.i64 (Int.ofNat 7), V.int IntKind.i64 (wr IntKind.i64 ((Int.ofNat 0).add (Int.ofNat 1))),
      V.int IntKind.i64 (Int.ofNat 0), V.int IntKind.i64 (Int.ofNat 0), V.int IntKind.i64 (Int.ofNat 0), V.str [],
      V.int IntKind.i64 (Int.ofNat 13), V.int IntKind.i64 (Int.ofNat 0),
      V.int IntKind.i64 (wr IntKind.i64 ((Int.ofNat 1).add (wr IntKind.i64 (z.tmod (Int.ofNat 3))))),
      V.int IntKind.i64 (Int.ofNat 0), V.int IntKind.i64 (Int.ofNat 0), V.str [], V.int IntKind.i64 (Int.ofNat 14),
      V.int IntKind.i64 (Int.ofNat 0), V.int IntKind.i64 (Int.ofNat 0), V.int IntKind.i64 (Int.ofNat 0),
      V.int IntKind.i64 (Int.ofNat 0), V.str [], V.int IntKind.i64 (mixF k m x y z 2).1,
      V.int IntKind.i64 (mixF k m x y z 2).2, V.int IntKind.i64 (mixF k m x y z 2).3,
      V.int IntKind.i64 (mixF k m x y z 2).4, V.int IntKind.i64 (mixF k m x y z 2).5, V.str (mixF k m x y z 2).6])
  1058)))) ∧
      ((((wr IntKind.i64 t).tmod (Int.ofNat 7)) = (Int.ofNat 6)) → (True) ∧
       ((Q 1057 0 7 (Cap.atl 7 6)
  (some
    [V.int IntKind.i64 (Int.ofNat 16), V.int IntKind.i64 (Int.ofNat 0), V.int IntKind.i64 (Int.ofNat 0),
      V.int IntKind.i64 (Int.ofNat 0), V.int IntKind.i64 (Int.ofNat 0), V.str [], V.int IntKind.i64 (Int.ofNat 7),
      V.int IntKind.i64 (Int.ofNat 0), V.int IntKind.i64 (Int.ofNat 0), V.int IntKind.i64 (Int.ofNat 0),
      V.int IntKind.i64 (Int.ofNat 0), V.str [], V.int IntKind.i64 (Int.ofNat 7),
      V.int IntKind.i64 (wr IntKind.i64 ((Int.ofNat 0).add (Int.ofNat 1))), V.int IntKind.i64 (Int.ofNat 0),
      V.int IntKind.i64 (Int.ofNat 0), V.int IntKind.i64 (Int.ofNat 0), V.str [], V.int IntKind.i64 (Int.ofNat 13),
      V.int IntKind.i64 (Int.ofNat 0),
      V.int IntKind.i64 (wr IntKind.i64 ((Int.ofNat 1).add (wr IntKind.i64 (z.tmod (Int.ofNat 3))))),
      V.int IntKind.i64 (Int.ofNat 0), V.int IntKind.i64 (Int.ofNat 0), V.str [], V.int IntKind.i64 (Int.ofNat 14),
      V.int IntKind.i64 (Int.ofNat 0), V.int IntKind.i64 (Int.ofNat 0), V.int IntKind.i64 (Int.ofNat 0),
      V.int IntKind.i64 (Int.ofNat 0), V.str [], V.int IntKind.i64 (mixF k m x y z 2).1,
      V.int IntKind.i64 (mixF k m x y z 2).2, V.int IntKind.i64 (mixF k m x y z 2).3,
      V.int IntKind.i64 (mixF k m x y z 2).4, V.int IntKind.i64 (mixF k m x y z 2).5, V.str (mixF k m x y z 2).6,
      V.int IntKind.i64 (Int.ofNat 15), V.int IntKind.i64 (Int.ofNat 0), V.int IntKind.i64 i,
      V.int IntKind.i64 (Int.ofNat 0), V.int IntKind.i64 (Int.ofNat 0), V.str []])
  1058)))))))))) := by kernel_rfl
end BK
end Go.Proofs.YtcbggkejlhifpaaGreatDoor

/- bound.Fair: its parts. -/
import Derived.Test.YtcbggkejlhifpaaGreatDoorBt2
import Derived.Test.YtcbggkejlhifpaaGreatDoorJb
namespace Go.Proofs.YtcbggkejlhifpaaGreatDoor
set_option maxRecDepth 100000
set_option maxHeartbeats 4000000
open Go.Ev Go.RowKit
namespace FR
noncomputable def kB (cl : Option Nat) : KBool := fun f args _ => match Nat.beq f iTurn, args with
  | true, [.agg 10 [.int .i64 _, .int .i64 b, .int .i64 _, .int .i64 _, .int .i64 _, .int .i64 _, .int .i64 _, .int .i64 _, .int .i64 i, .int .u32 _] .leaf, .agg 6 [.int .i64 k, .int .i64 m, .int .i64 x, .int .i64 y, .int .i64 z, .str t] .leaf] => some (BT.clsB cl b i ⟨k, m, x, y, z, t⟩, clsV cl)
  | _, _ => .none
noncomputable def GF (cl : Option Nat) : Γ := mkG Tryz.prog eqs rows (extU (kB cl) (extL [kMach]))
noncomputable def fn : Func := match Tryz.prog.funcs[iFair]? with
  | some f => f
  | .none => default
noncomputable def code : Code := match fn.body with
  | some c => c
  | .none => .skip
noncomputable def r0 : Code := cFst code
noncomputable def x1 : Code := cSnd code
noncomputable def r1 : Code := cFst x1
noncomputable def x2 : Code := cSnd x1
noncomputable def b0 : Code := cFst x2
noncomputable def x3 : Code := cSnd x2
noncomputable def r6 : Code := cFst x3
noncomputable def x4 : Code := cSnd x3
noncomputable def z : Code := cFst x4
noncomputable def x5 : Code := cSnd x4
noncomputable def r7 : Code := cFst z
noncomputable def bl : Code := cSnd z
noncomputable def lp : Code := cFst bl
noncomputable def bd : Code := cFst lp
theorem isFn : Tryz.prog.funcs[iFair]? = some fn := by kernel_rfl
theorem body : fn.body = some code := by kernel_rfl
theorem tmps : fn.ntmps = 67 := by kernel_rfl
theorem cut : code = nest [r0, r1, b0, r6] x4 := by kernel_rfl
theorem q4 : x4 = .seq z x5 := by kernel_rfl
theorem q5 : z = .seq r7 bl := by kernel_rfl
theorem q6 : bl = .block 1 lp := by kernel_rfl
theorem q7 : lp = .loop bd := by kernel_rfl
theorem ok0 : [r0, r1, b0, r6].all okC = true := by kernel_rfl
theorem ok7 : okC r7 = true := by kernel_rfl
theorem okb : okC bd = true := by kernel_rfl
theorem ok5 : okC x5 = true := by kernel_rfl
abbrev opK : List LK := [.int .i64, .int .i64, .int .i64, .int .i64, .int .i64, .str]
noncomputable def sp (cl : Option Nat) : SpF where
  at' := fun f t => match Nat.beq f iFair, t with
    | true, 24 => .is false | true, 27 => .is false | true, 32 => .both | true, 34 => .idx | true, 35 => .ldA opK | true, 57 => .both | true, 64 => .both
    | _, _ => match Nat.beq f iChk, t with
      | true, 9 => .is false | true, 13 => .is false | _, _ => .keep
  kx := kxU (kB cl)
noncomputable def S (l : List (Nat × V)) (h : H) : St := ⟨envL 67 l, h, []⟩
abbrev roO (A : List V) : O := .ro none A.length A .leaf
noncomputable def hI (A : List V) : H := ⟨T.put .leaf 1003 (some (roO A)), 1010⟩
noncomputable def hasS (l : List (Nat × V)) (st : St) : Prop := hasT st.env l ∧ st.env.sz = 67 ∧ noDefs st.defs = true
noncomputable def retIs (Q : V → Prop) (st : St) : Prop := match takeAll st.defs st.h with
  | some h2 => match resultsO G0 h2 st.env fn with
    | some v => Q v
    | .none => False
  | .none => False
abbrev boxO (l : List V) : O := .cells (some tCfg) 10 l .leaf
abbrev cfgL (a b c d e f g h i j : Int) : List V := [.int .i64 a, .int .i64 b, .int .i64 c, .int .i64 d, .int .i64 e, .int .i64 f, .int .i64 g, .int .i64 h, .int .i64 i, .int .u32 j]
abbrev L8 (a b c d e f g h : Int) : List V := [.int .i64 a, .int .i64 b, .int .i64 c, .int .i64 d, .int .i64 e, .int .i64 f, .int .i64 g, .int .i64 h]
noncomputable def lastX (o : Option O) : Option (List V) := match o with
  | some (.cells _ n pat tr) => match Nat.beq n 8, cell 8 pat tr 0, cell 8 pat tr 1, cell 8 pat tr 2, cell 8 pat tr 3, cell 8 pat tr 4, cell 8 pat tr 5, cell 8 pat tr 6, cell 8 pat tr 7 with
    | true, some a, some b, some c, some d, some e, some f, some g, some h => some [a, b, c, d, e, f, g, h]
    | _, _, _, _, _, _, _, _, _ => .none
  | _ => .none
noncomputable def hL (cf A L : List V) : H := ⟨T.put (T.put (T.put .leaf 1003 (some (roO A))) 1010 (some (boxO cf))) 1012 (some (.cells .none 8 L .leaf)), 1013⟩
noncomputable def inv (n : Nat) (cc : Cap) (w i : Int) : List (Nat × V) := [(2, .int .i64 w), (3, .ptr 1010 0), (9, .ptr 1012 0), (29, .slice 1003 0 n cc), (30, .int .i64 (Int.ofNat n)), (31, .int .i64 i)]
noncomputable def K0 (l : List (Nat × V)) (cf A : List V) (x : X) (st : St) : Prop := match x with
  | .normal => hasS l st ∧ lastX (st.h.tr.get 1012) = some (L8 0 0 0 0 0 0 0 0) ∧ st.h.tr.get 1010 = some (boxO cf) ∧ st.h.tr.get 1003 = some (roO A) ∧ st.h.next = 1013
  | _ => False
noncomputable def KV (l : List (Nat × V)) (h : H) (x : X) (st : St) : Prop := match x with
  | .normal => hasS l st ∧ st.h = h
  | _ => False
noncomputable def K7 (n : Nat) (cc : Cap) (w i : Int) (cf A : List V) (T : Option (List V) → Prop) (R : V → Prop) (E : Prop) (x : X) (st : St) : Prop := match x with
  | .normal => T (lastX (st.h.tr.get 1012)) ∧ hasS (inv n cc w (wr .i64 (Int.add i (Int.ofNat 1)))) st ∧ st.h.tr.get 1010 = some (boxO cf) ∧ st.h.tr.get 1003 = some (roO A)
  | .exit k => E ∧ Nat.beq k 1 = true ∧ hasS [(2, .int .i64 w)] st
  | .ret => retIs R st
noncomputable def ldF (cf A L : List V) (k : Nat) : Option V := rLoad (G0.ty tOp) (hL cf A L) (some (.ptr 1003 (Nat.add 0 (Nat.mul k 6))))
theorem w0 (a b c d e f g h i j w : Int) (n : Nat) (cc : Cap) (A : List V) : (evL (GF none) (sp none) 60 iFair [r0, r1, b0, r6] (K0 [(1, .slice 1003 0 n cc), (2, .int .i64 w), (3, .ptr 1010 0), (9, .ptr 1012 0)] (cfgL a b c d e f g h i j) A) (S [(0, cfgV a b c d e f g h i j), (1, .slice 1003 0 n cc), (2, .int .i64 w)] (hI A))) = (
((!ieq (MachV a b c d e f g h i j) (Int.ofNat 0)) = (false)) ∧
(((ilt (Int.ofNat 2000) (Int.ofNat n)) = (false)) ∧
 (((ilt w (Int.ofNat 1)) = (false)) ∧
  (((ilt (Int.ofNat 2000) w) = (false)) ∧
   (((((some (V.slice 1003 0 n cc)) = (some (V.slice 1003 0 n cc))) ∧
      (((some (V.int IntKind.i64 w)) = (some (V.int IntKind.i64 w))) ∧
       (((some (V.ptr 1010 0)) = (some (V.ptr 1010 0))) ∧
        (((some (V.ptr 1012 0)) = (some (V.ptr 1012 0))) ∧
         (True))))) ∧
     (((67) = (67)) ∧
      ((true) = (true)))) ∧
    (((some
  [V.int IntKind.i64 (Int.ofNat 0), V.int IntKind.i64 (Int.ofNat 0), V.int IntKind.i64 (Int.ofNat 0),
    V.int IntKind.i64 (Int.ofNat 0), V.int IntKind.i64 (Int.ofNat 0), V.int IntKind.i64 (Int.ofNat 0),
    V.int IntKind.i64 (Int.ofNat 0), V.int IntKind.i64 (Int.ofNat 0)]) = (some
  [V.int IntKind.i64 (Int.ofNat 0), V.int IntKind.i64 (Int.ofNat 0), V.int IntKind.i64 (Int.ofNat 0),
    V.int IntKind.i64 (Int.ofNat 0), V.int IntKind.i64 (Int.ofNat 0), V.int IntKind.i64 (Int.ofNat 0),
    V.int IntKind.i64 (Int.ofNat 0), V.int IntKind.i64 (Int.ofNat 0)])) ∧
     (((some
  (O.cells (some 26) 10
    [V.int IntKind.i64 a, V.int IntKind.i64 b, V.int IntKind.i64 c, V.int IntKind.i64 d, V.int IntKind.i64 e,
      V.int IntKind.i64 f, V.int IntKind.i64 g, V.int IntKind.i64 h, V.int IntKind.i64 i, V.int IntKind.u32 j]
    T.leaf)) = (some
  (O.cells (some 26) 10
    [V.int IntKind.i64 a, V.int IntKind.i64 b, V.int IntKind.i64 c, V.int IntKind.i64 d, V.int IntKind.i64 e,
      V.int IntKind.i64 f, V.int IntKind.i64 g, V.int IntKind.i64 h, V.int IntKind.i64 i, V.int IntKind.u32 j]
    T.leaf))) ∧
      (((some (O.ro none A.length A T.leaf)) = (some (O.ro none A.length A T.leaf))) ∧
       ((1013) = (1013)))))))))) := by kernel_rfl
theorem w6 (n : Nat) (cc : Cap) (w : Int) (h : H) : (evW (GF none) (sp none) 60 r7 none iFair (S [(1, .slice 1003 0 n cc), (2, .int .i64 w), (3, .ptr 1010 0), (9, .ptr 1012 0)] h) (KV (inv n cc w (Int.ofNat 0)) h)) = (
((((some (V.int IntKind.i64 w)) = (some (V.int IntKind.i64 w))) ∧
  (((some (V.ptr 1010 0)) = (some (V.ptr 1010 0))) ∧
   (((some (V.ptr 1012 0)) = (some (V.ptr 1012 0))) ∧
    (((some (V.slice 1003 0 n cc)) = (some (V.slice 1003 0 n cc))) ∧
     (((some (V.int IntKind.i64 (Int.ofNat n))) = (some (V.int IntKind.i64 (Int.ofNat n)))) ∧
      (((some (V.int IntKind.i64 (Int.ofNat 0))) = (some (V.int IntKind.i64 (Int.ofNat 0)))) ∧
       (True))))))) ∧
 (((67) = (67)) ∧
  ((true) = (true)))) ∧
((h) = (h))) := by kernel_rfl
theorem r1_n (a c d e f g h i j w : Int) (n : Nat) (cc : Cap) (A : List V) (k : Nat) (l0 l1 l2 l3 l4 l5 l6 l7 : Int) (T : Option (List V) → Prop) (R : V → Prop) (E : Prop) : (evW (GF none) (sp none) 60 bd none iFair (S (inv n cc w (Int.ofNat k)) (hL (cfgL a 1 c d e f g h i j) A (L8 l0 l1 l2 l3 l4 l5 l6 l7))) (K7 n cc w (Int.ofNat k) (cfgL a 1 c d e f g h i j) A T R E)) = (
(((ilt (Int.ofNat k) (Int.ofNat n)) = (true)) → ((false) = (false)) ∧
 (((ilt (Int.ofNat k) (Int.ofNat n)) = (true)) ∧
  ((∃ l, (ldF (cfgL a 1 c d e f g h i j) A (L8 l0 l1 l2 l3 l4 l5 l6 l7) k) = (some (V.agg 6 l Ev.T.leaf)) ∧ LK.shape [LK.int IntKind.i64, LK.int IntKind.i64, LK.int IntKind.i64, LK.int IntKind.i64, LK.int IntKind.i64, LK.str] l) ∧
   (∀ y0 : Int, ∀ y1 : Int, ∀ y2 : Int, ∀ y3 : Int, ∀ y4 : Int, ∀ y5 : List UInt8, ((ldF (cfgL a 1 c d e f g h i j) A (L8 l0 l1 l2 l3 l4 l5 l6 l7) k) = (some
  (V.agg 6
    ([] ++ [V.int IntKind.i64 y0] ++ [V.int IntKind.i64 y1] ++ [V.int IntKind.i64 y2] ++ [V.int IntKind.i64 y3] ++
        [V.int IntKind.i64 y4] ++
      [V.str y5])
    Ev.T.leaf))) → ((!BT.clsB none (Int.ofNat 1) i { kind := y0, m := y1, a := y2, b := y3, c := y4, t := y5 }) = (false)) ∧
    ((((True) ∧
       ((True) ∧
        ((Int.ofNat 1) = (Int.ofNat 1)))) ∧
      (True)) ∧
     ((((!ilt (wr IntKind.i64 ((Int.ofNat k).add (Int.ofNat 1))) w) = (true)) → (((!ilt (wr IntKind.i64 ((wr IntKind.i64 ((Int.ofNat k).add (Int.ofNat 1))).sub w))
    (match
      ilt
        (match
          ilt l7
            (match
              ilt l6
                (match ilt l5 l4 with
                | true => l5
                | false => l4) with
            | true => l6
            | false =>
              match ilt l5 l4 with
              | true => l5
              | false => l4) with
        | true => l7
        | false =>
          match
            ilt l6
              (match ilt l5 l4 with
              | true => l5
              | false => l4) with
          | true => l6
          | false =>
            match ilt l5 l4 with
            | true => l5
            | false => l4)
        l0 with
    | true =>
      match
        ilt l7
          (match
            ilt l6
              (match ilt l5 l4 with
              | true => l5
              | false => l4) with
          | true => l6
          | false =>
            match ilt l5 l4 with
            | true => l5
            | false => l4) with
      | true => l7
      | false =>
        match
          ilt l6
            (match ilt l5 l4 with
            | true => l5
            | false => l4) with
        | true => l6
        | false =>
          match ilt l5 l4 with
          | true => l5
          | false => l4
    | false => l0)) = (true)) → (R (V.tuple [V.bool false, V.int IntKind.i64 (Int.ofNat 0)]))) ∧
       (((!ilt (wr IntKind.i64 ((wr IntKind.i64 ((Int.ofNat k).add (Int.ofNat 1))).sub w))
    (match
      ilt
        (match
          ilt l7
            (match
              ilt l6
                (match ilt l5 l4 with
                | true => l5
                | false => l4) with
            | true => l6
            | false =>
              match ilt l5 l4 with
              | true => l5
              | false => l4) with
        | true => l7
        | false =>
          match
            ilt l6
              (match ilt l5 l4 with
              | true => l5
              | false => l4) with
          | true => l6
          | false =>
            match ilt l5 l4 with
            | true => l5
            | false => l4)
        l0 with
    | true =>
      match
        ilt l7
          (match
            ilt l6
              (match ilt l5 l4 with
              | true => l5
              | false => l4) with
          | true => l6
          | false =>
            match ilt l5 l4 with
            | true => l5
            | false => l4) with
      | true => l7
      | false =>
        match
          ilt l6
            (match ilt l5 l4 with
            | true => l5
            | false => l4) with
        | true => l6
        | false =>
          match ilt l5 l4 with
          | true => l5
          | false => l4
    | false => l0)) = (false)) → ((T
  (some
    [V.int IntKind.i64 l0, V.int IntKind.i64 l1, V.int IntKind.i64 l2, V.int IntKind.i64 l3, V.int IntKind.i64 l4,
      V.int IntKind.i64 l5, V.int IntKind.i64 l6, V.int IntKind.i64 l7]))) ∧
        (((((some (V.int IntKind.i64 w)) = (some (V.int IntKind.i64 w))) ∧
           (((some (V.ptr 1010 0)) = (some (V.ptr 1010 0))) ∧
            (((some (V.ptr 1012 0)) = (some (V.ptr 1012 0))) ∧
             (((some (V.slice 1003 0 n cc)) = (some (V.slice 1003 0 n cc))) ∧
              (((some (V.int IntKind.i64 (Int.ofNat n))) = (some (V.int IntKind.i64 (Int.ofNat n)))) ∧
               (((some (V.int IntKind.i64 (wr IntKind.i64 ((Int.ofNat k).add (Int.ofNat 1))))) = (some (V.int IntKind.i64 (wr IntKind.i64 ((Int.ofNat k).add (Int.ofNat 1)))))) ∧
                (True))))))) ∧
          (((67) = (67)) ∧
           ((true) = (true)))) ∧
         (((some
  (O.cells (some 26) 10
    [V.int IntKind.i64 a, V.int IntKind.i64 (Int.ofNat 1), V.int IntKind.i64 c, V.int IntKind.i64 d,
      V.int IntKind.i64 e, V.int IntKind.i64 f, V.int IntKind.i64 g, V.int IntKind.i64 h, V.int IntKind.i64 i,
      V.int IntKind.u32 j]
    Ev.T.leaf)) = (some
  (O.cells (some 26) 10
    [V.int IntKind.i64 a, V.int IntKind.i64 (Int.ofNat 1), V.int IntKind.i64 c, V.int IntKind.i64 d,
      V.int IntKind.i64 e, V.int IntKind.i64 f, V.int IntKind.i64 g, V.int IntKind.i64 h, V.int IntKind.i64 i,
      V.int IntKind.u32 j]
    Ev.T.leaf))) ∧
          ((some (O.ro none A.length A Ev.T.leaf)) = (some (O.ro none A.length A Ev.T.leaf))))))) ∧
      (((!ilt (wr IntKind.i64 ((Int.ofNat k).add (Int.ofNat 1))) w) = (false)) → ((T
  (some
    [V.int IntKind.i64 l0, V.int IntKind.i64 l1, V.int IntKind.i64 l2, V.int IntKind.i64 l3, V.int IntKind.i64 l4,
      V.int IntKind.i64 l5, V.int IntKind.i64 l6, V.int IntKind.i64 l7]))) ∧
       (((((some (V.int IntKind.i64 w)) = (some (V.int IntKind.i64 w))) ∧
          (((some (V.ptr 1010 0)) = (some (V.ptr 1010 0))) ∧
           (((some (V.ptr 1012 0)) = (some (V.ptr 1012 0))) ∧
            (((some (V.slice 1003 0 n cc)) = (some (V.slice 1003 0 n cc))) ∧
             (((some (V.int IntKind.i64 (Int.ofNat n))) = (some (V.int IntKind.i64 (Int.ofNat n)))) ∧
              (((some (V.int IntKind.i64 (wr IntKind.i64 ((Int.ofNat k).add (Int.ofNat 1))))) = (some (V.int IntKind.i64 (wr IntKind.i64 ((Int.ofNat k).add (Int.ofNat 1)))))) ∧
               (True))))))) ∧
         (((67) = (67)) ∧
          ((true) = (true)))) ∧
        (((some
  (O.cells (some 26) 10
    [V.int IntKind.i64 a, V.int IntKind.i64 (Int.ofNat 1), V.int IntKind.i64 c, V.int IntKind.i64 d,
      V.int IntKind.i64 e, V.int IntKind.i64 f, V.int IntKind.i64 g, V.int IntKind.i64 h, V.int IntKind.i64 i,
      V.int IntKind.u32 j]
    Ev.T.leaf)) = (some
  (O.cells (some 26) 10
    [V.int IntKind.i64 a, V.int IntKind.i64 (Int.ofNat 1), V.int IntKind.i64 c, V.int IntKind.i64 d,
      V.int IntKind.i64 e, V.int IntKind.i64 f, V.int IntKind.i64 g, V.int IntKind.i64 h, V.int IntKind.i64 i,
      V.int IntKind.u32 j]
    Ev.T.leaf))) ∧
         ((some (O.ro none A.length A Ev.T.leaf)) = (some (O.ro none A.length A Ev.T.leaf)))))))))))) ∧
(((ilt (Int.ofNat k) (Int.ofNat n)) = (false)) → ((E)) ∧
 (((true) = (true)) ∧
  ((((some (V.int IntKind.i64 w)) = (some (V.int IntKind.i64 w))) ∧
    (True)) ∧
   (((67) = (67)) ∧
    ((true) = (true))))))) := by kernel_rfl
theorem r1_0 (a c d e f g h i j w : Int) (n : Nat) (cc : Cap) (A : List V) (k : Nat) (l0 l1 l2 l3 l4 l5 l6 l7 : Int) (T : Option (List V) → Prop) (R : V → Prop) (E : Prop) : (evW (GF (some 0)) (sp (some 0)) 60 bd none iFair (S (inv n cc w (Int.ofNat k)) (hL (cfgL a 1 c d e f g h i j) A (L8 l0 l1 l2 l3 l4 l5 l6 l7))) (K7 n cc w (Int.ofNat k) (cfgL a 1 c d e f g h i j) A T R E)) = (
(((ilt (Int.ofNat k) (Int.ofNat n)) = (true)) → ((false) = (false)) ∧
 (((ilt (Int.ofNat k) (Int.ofNat n)) = (true)) ∧
  ((∃ l, (ldF (cfgL a 1 c d e f g h i j) A (L8 l0 l1 l2 l3 l4 l5 l6 l7) k) = (some (V.agg 6 l Ev.T.leaf)) ∧ LK.shape [LK.int IntKind.i64, LK.int IntKind.i64, LK.int IntKind.i64, LK.int IntKind.i64, LK.int IntKind.i64, LK.str] l) ∧
   (∀ y0 : Int, ∀ y1 : Int, ∀ y2 : Int, ∀ y3 : Int, ∀ y4 : Int, ∀ y5 : List UInt8, ((ldF (cfgL a 1 c d e f g h i j) A (L8 l0 l1 l2 l3 l4 l5 l6 l7) k) = (some
  (V.agg 6
    ([] ++ [V.int IntKind.i64 y0] ++ [V.int IntKind.i64 y1] ++ [V.int IntKind.i64 y2] ++ [V.int IntKind.i64 y3] ++
        [V.int IntKind.i64 y4] ++
      [V.str y5])
    Ev.T.leaf))) → ((!BT.clsB (some 0) (Int.ofNat 1) i { kind := y0, m := y1, a := y2, b := y3, c := y4, t := y5 }) = (false)) ∧
    ((((True) ∧
       ((True) ∧
        ((Int.ofNat 1) = (Int.ofNat 1)))) ∧
      (True)) ∧
     ((((!ilt (wr IntKind.i64 ((Int.ofNat k).add (Int.ofNat 1))) w) = (true)) → (((!ilt (wr IntKind.i64 ((wr IntKind.i64 ((Int.ofNat k).add (Int.ofNat 1))).sub w))
    (match
      ilt
        (match
          ilt l7
            (match
              ilt l6
                (match ilt l5 l4 with
                | true => l5
                | false => l4) with
            | true => l6
            | false =>
              match ilt l5 l4 with
              | true => l5
              | false => l4) with
        | true => l7
        | false =>
          match
            ilt l6
              (match ilt l5 l4 with
              | true => l5
              | false => l4) with
          | true => l6
          | false =>
            match ilt l5 l4 with
            | true => l5
            | false => l4)
        (wr IntKind.i64 ((Int.ofNat k).add (Int.ofNat 1))) with
    | true =>
      match
        ilt l7
          (match
            ilt l6
              (match ilt l5 l4 with
              | true => l5
              | false => l4) with
          | true => l6
          | false =>
            match ilt l5 l4 with
            | true => l5
            | false => l4) with
      | true => l7
      | false =>
        match
          ilt l6
            (match ilt l5 l4 with
            | true => l5
            | false => l4) with
        | true => l6
        | false =>
          match ilt l5 l4 with
          | true => l5
          | false => l4
    | false => wr IntKind.i64 ((Int.ofNat k).add 1))) = (true)) → (R (V.tuple [V.bool false, V.int IntKind.i64 (Int.ofNat 0)]))) ∧
       (((!ilt (wr IntKind.i64 ((wr IntKind.i64 ((Int.ofNat k).add (Int.ofNat 1))).sub w))
    (match
      ilt
        (match
          ilt l7
            (match
              ilt l6
                (match ilt l5 l4 with
                | true => l5
                | false => l4) with
            | true => l6
            | false =>
              match ilt l5 l4 with
              | true => l5
              | false => l4) with
        | true => l7
        | false =>
          match
            ilt l6
              (match ilt l5 l4 with
              | true => l5
              | false => l4) with
          | true => l6
          | false =>
            match ilt l5 l4 with
            | true => l5
            | false => l4)
        (wr IntKind.i64 ((Int.ofNat k).add (Int.ofNat 1))) with
    | true =>
      match
        ilt l7
          (match
            ilt l6
              (match ilt l5 l4 with
              | true => l5
              | false => l4) with
          | true => l6
          | false =>
            match ilt l5 l4 with
            | true => l5
            | false => l4) with
      | true => l7
      | false =>
        match
          ilt l6
            (match ilt l5 l4 with
            | true => l5
            | false => l4) with
        | true => l6
        | false =>
          match ilt l5 l4 with
          | true => l5
          | false => l4
    | false => wr IntKind.i64 ((Int.ofNat k).add 1))) = (false)) → ((T
  (some
    [V.int IntKind.i64 (wr IntKind.i64 ((Int.ofNat k).add (Int.ofNat 1))), V.int IntKind.i64 l1, V.int IntKind.i64 l2,
      V.int IntKind.i64 l3, V.int IntKind.i64 l4, V.int IntKind.i64 l5, V.int IntKind.i64 l6, V.int IntKind.i64 l7]))) ∧
        (((((some (V.int IntKind.i64 w)) = (some (V.int IntKind.i64 w))) ∧
           (((some (V.ptr 1010 0)) = (some (V.ptr 1010 0))) ∧
            (((some (V.ptr 1012 0)) = (some (V.ptr 1012 0))) ∧
             (((some (V.slice 1003 0 n cc)) = (some (V.slice 1003 0 n cc))) ∧
              (((some (V.int IntKind.i64 (Int.ofNat n))) = (some (V.int IntKind.i64 (Int.ofNat n)))) ∧
               (((some (V.int IntKind.i64 (wr IntKind.i64 ((Int.ofNat k).add (Int.ofNat 1))))) = (some (V.int IntKind.i64 (wr IntKind.i64 ((Int.ofNat k).add (Int.ofNat 1)))))) ∧
                (True))))))) ∧
          (((67) = (67)) ∧
           ((true) = (true)))) ∧
         (((some
  (O.cells (some 26) 10
    [V.int IntKind.i64 a, V.int IntKind.i64 (Int.ofNat 1), V.int IntKind.i64 c, V.int IntKind.i64 d,
      V.int IntKind.i64 e, V.int IntKind.i64 f, V.int IntKind.i64 g, V.int IntKind.i64 h, V.int IntKind.i64 i,
      V.int IntKind.u32 j]
    Ev.T.leaf)) = (some
  (O.cells (some 26) 10
    [V.int IntKind.i64 a, V.int IntKind.i64 (Int.ofNat 1), V.int IntKind.i64 c, V.int IntKind.i64 d,
      V.int IntKind.i64 e, V.int IntKind.i64 f, V.int IntKind.i64 g, V.int IntKind.i64 h, V.int IntKind.i64 i,
      V.int IntKind.u32 j]
    Ev.T.leaf))) ∧
          ((some (O.ro none A.length A Ev.T.leaf)) = (some (O.ro none A.length A Ev.T.leaf))))))) ∧
      (((!ilt (wr IntKind.i64 ((Int.ofNat k).add (Int.ofNat 1))) w) = (false)) → ((T
  (some
    [V.int IntKind.i64 (wr IntKind.i64 ((Int.ofNat k).add (Int.ofNat 1))), V.int IntKind.i64 l1, V.int IntKind.i64 l2,
      V.int IntKind.i64 l3, V.int IntKind.i64 l4, V.int IntKind.i64 l5, V.int IntKind.i64 l6, V.int IntKind.i64 l7]))) ∧
       (((((some (V.int IntKind.i64 w)) = (some (V.int IntKind.i64 w))) ∧
          (((some (V.ptr 1010 0)) = (some (V.ptr 1010 0))) ∧
           (((some (V.ptr 1012 0)) = (some (V.ptr 1012 0))) ∧
            (((some (V.slice 1003 0 n cc)) = (some (V.slice 1003 0 n cc))) ∧
             (((some (V.int IntKind.i64 (Int.ofNat n))) = (some (V.int IntKind.i64 (Int.ofNat n)))) ∧
              (((some (V.int IntKind.i64 (wr IntKind.i64 ((Int.ofNat k).add (Int.ofNat 1))))) = (some (V.int IntKind.i64 (wr IntKind.i64 ((Int.ofNat k).add (Int.ofNat 1)))))) ∧
               (True))))))) ∧
         (((67) = (67)) ∧
          ((true) = (true)))) ∧
        (((some
  (O.cells (some 26) 10
    [V.int IntKind.i64 a, V.int IntKind.i64 (Int.ofNat 1), V.int IntKind.i64 c, V.int IntKind.i64 d,
      V.int IntKind.i64 e, V.int IntKind.i64 f, V.int IntKind.i64 g, V.int IntKind.i64 h, V.int IntKind.i64 i,
      V.int IntKind.u32 j]
    Ev.T.leaf)) = (some
  (O.cells (some 26) 10
    [V.int IntKind.i64 a, V.int IntKind.i64 (Int.ofNat 1), V.int IntKind.i64 c, V.int IntKind.i64 d,
      V.int IntKind.i64 e, V.int IntKind.i64 f, V.int IntKind.i64 g, V.int IntKind.i64 h, V.int IntKind.i64 i,
      V.int IntKind.u32 j]
    Ev.T.leaf))) ∧
         ((some (O.ro none A.length A Ev.T.leaf)) = (some (O.ro none A.length A Ev.T.leaf)))))))))))) ∧
(((ilt (Int.ofNat k) (Int.ofNat n)) = (false)) → ((E)) ∧
 (((true) = (true)) ∧
  ((((some (V.int IntKind.i64 w)) = (some (V.int IntKind.i64 w))) ∧
    (True)) ∧
   (((67) = (67)) ∧
    ((true) = (true))))))) := by kernel_rfl
theorem r1_4 (a c d e f g h i j w : Int) (n : Nat) (cc : Cap) (A : List V) (k : Nat) (l0 l1 l2 l3 l4 l5 l6 l7 : Int) (T : Option (List V) → Prop) (R : V → Prop) (E : Prop) : (evW (GF (some 4)) (sp (some 4)) 60 bd none iFair (S (inv n cc w (Int.ofNat k)) (hL (cfgL a 1 c d e f g h i j) A (L8 l0 l1 l2 l3 l4 l5 l6 l7))) (K7 n cc w (Int.ofNat k) (cfgL a 1 c d e f g h i j) A T R E)) = (
(((ilt (Int.ofNat k) (Int.ofNat n)) = (true)) → ((false) = (false)) ∧
 (((ilt (Int.ofNat k) (Int.ofNat n)) = (true)) ∧
  ((∃ l, (ldF (cfgL a 1 c d e f g h i j) A (L8 l0 l1 l2 l3 l4 l5 l6 l7) k) = (some (V.agg 6 l Ev.T.leaf)) ∧ LK.shape [LK.int IntKind.i64, LK.int IntKind.i64, LK.int IntKind.i64, LK.int IntKind.i64, LK.int IntKind.i64, LK.str] l) ∧
   (∀ y0 : Int, ∀ y1 : Int, ∀ y2 : Int, ∀ y3 : Int, ∀ y4 : Int, ∀ y5 : List UInt8, ((ldF (cfgL a 1 c d e f g h i j) A (L8 l0 l1 l2 l3 l4 l5 l6 l7) k) = (some
  (V.agg 6
    ([] ++ [V.int IntKind.i64 y0] ++ [V.int IntKind.i64 y1] ++ [V.int IntKind.i64 y2] ++ [V.int IntKind.i64 y3] ++
        [V.int IntKind.i64 y4] ++
      [V.str y5])
    Ev.T.leaf))) → ((!BT.clsB (some 4) (Int.ofNat 1) i { kind := y0, m := y1, a := y2, b := y3, c := y4, t := y5 }) = (false)) ∧
    ((((True) ∧
       ((True) ∧
        ((Int.ofNat 1) = (Int.ofNat 1)))) ∧
      (True)) ∧
     ((((!ilt (wr IntKind.i64 ((Int.ofNat k).add (Int.ofNat 1))) w) = (true)) → (((!ilt (wr IntKind.i64 ((wr IntKind.i64 ((Int.ofNat k).add (Int.ofNat 1))).sub w))
    (match
      ilt
        (match
          ilt l7
            (match
              ilt l6
                (match ilt l5 (wr IntKind.i64 ((Int.ofNat k).add (Int.ofNat 1))) with
                | true => l5
                | false => wr IntKind.i64 ((Int.ofNat k).add 1)) with
            | true => l6
            | false =>
              match ilt l5 (wr IntKind.i64 ((Int.ofNat k).add 1)) with
              | true => l5
              | false => wr IntKind.i64 ((Int.ofNat k).add 1)) with
        | true => l7
        | false =>
          match
            ilt l6
              (match ilt l5 (wr IntKind.i64 ((Int.ofNat k).add 1)) with
              | true => l5
              | false => wr IntKind.i64 ((Int.ofNat k).add 1)) with
          | true => l6
          | false =>
            match ilt l5 (wr IntKind.i64 ((Int.ofNat k).add 1)) with
            | true => l5
            | false => wr IntKind.i64 ((Int.ofNat k).add 1))
        l0 with
    | true =>
      match
        ilt l7
          (match
            ilt l6
              (match ilt l5 (wr IntKind.i64 ((Int.ofNat k).add 1)) with
              | true => l5
              | false => wr IntKind.i64 ((Int.ofNat k).add 1)) with
          | true => l6
          | false =>
            match ilt l5 (wr IntKind.i64 ((Int.ofNat k).add 1)) with
            | true => l5
            | false => wr IntKind.i64 ((Int.ofNat k).add 1)) with
      | true => l7
      | false =>
        match
          ilt l6
            (match ilt l5 (wr IntKind.i64 ((Int.ofNat k).add 1)) with
            | true => l5
            | false => wr IntKind.i64 ((Int.ofNat k).add 1)) with
        | true => l6
        | false =>
          match ilt l5 (wr IntKind.i64 ((Int.ofNat k).add 1)) with
          | true => l5
          | false => wr IntKind.i64 ((Int.ofNat k).add 1)
    | false => l0)) = (true)) → (R (V.tuple [V.bool false, V.int IntKind.i64 (Int.ofNat 0)]))) ∧
       (((!ilt (wr IntKind.i64 ((wr IntKind.i64 ((Int.ofNat k).add (Int.ofNat 1))).sub w))
    (match
      ilt
        (match
          ilt l7
            (match
              ilt l6
                (match ilt l5 (wr IntKind.i64 ((Int.ofNat k).add (Int.ofNat 1))) with
                | true => l5
                | false => wr IntKind.i64 ((Int.ofNat k).add 1)) with
            | true => l6
            | false =>
              match ilt l5 (wr IntKind.i64 ((Int.ofNat k).add 1)) with
              | true => l5
              | false => wr IntKind.i64 ((Int.ofNat k).add 1)) with
        | true => l7
        | false =>
          match
            ilt l6
              (match ilt l5 (wr IntKind.i64 ((Int.ofNat k).add 1)) with
              | true => l5
              | false => wr IntKind.i64 ((Int.ofNat k).add 1)) with
          | true => l6
          | false =>
            match ilt l5 (wr IntKind.i64 ((Int.ofNat k).add 1)) with
            | true => l5
            | false => wr IntKind.i64 ((Int.ofNat k).add 1))
        l0 with
    | true =>
      match
        ilt l7
          (match
            ilt l6
              (match ilt l5 (wr IntKind.i64 ((Int.ofNat k).add 1)) with
              | true => l5
              | false => wr IntKind.i64 ((Int.ofNat k).add 1)) with
          | true => l6
          | false =>
            match ilt l5 (wr IntKind.i64 ((Int.ofNat k).add 1)) with
            | true => l5
            | false => wr IntKind.i64 ((Int.ofNat k).add 1)) with
      | true => l7
      | false =>
        match
          ilt l6
            (match ilt l5 (wr IntKind.i64 ((Int.ofNat k).add 1)) with
            | true => l5
            | false => wr IntKind.i64 ((Int.ofNat k).add 1)) with
        | true => l6
        | false =>
          match ilt l5 (wr IntKind.i64 ((Int.ofNat k).add 1)) with
          | true => l5
          | false => wr IntKind.i64 ((Int.ofNat k).add 1)
    | false => l0)) = (false)) → ((T
  (some
    [V.int IntKind.i64 l0, V.int IntKind.i64 l1, V.int IntKind.i64 l2, V.int IntKind.i64 l3,
      V.int IntKind.i64 (wr IntKind.i64 ((Int.ofNat k).add (Int.ofNat 1))), V.int IntKind.i64 l5, V.int IntKind.i64 l6,
      V.int IntKind.i64 l7]))) ∧
        (((((some (V.int IntKind.i64 w)) = (some (V.int IntKind.i64 w))) ∧
           (((some (V.ptr 1010 0)) = (some (V.ptr 1010 0))) ∧
            (((some (V.ptr 1012 0)) = (some (V.ptr 1012 0))) ∧
             (((some (V.slice 1003 0 n cc)) = (some (V.slice 1003 0 n cc))) ∧
              (((some (V.int IntKind.i64 (Int.ofNat n))) = (some (V.int IntKind.i64 (Int.ofNat n)))) ∧
               (((some (V.int IntKind.i64 (wr IntKind.i64 ((Int.ofNat k).add (Int.ofNat 1))))) = (some (V.int IntKind.i64 (wr IntKind.i64 ((Int.ofNat k).add (Int.ofNat 1)))))) ∧
                (True))))))) ∧
          (((67) = (67)) ∧
           ((true) = (true)))) ∧
         (((some
  (O.cells (some 26) 10
    [V.int IntKind.i64 a, V.int IntKind.i64 (Int.ofNat 1), V.int IntKind.i64 c, V.int IntKind.i64 d,
      V.int IntKind.i64 e, V.int IntKind.i64 f, V.int IntKind.i64 g, V.int IntKind.i64 h, V.int IntKind.i64 i,
      V.int IntKind.u32 j]
    Ev.T.leaf)) = (some
  (O.cells (some 26) 10
    [V.int IntKind.i64 a, V.int IntKind.i64 (Int.ofNat 1), V.int IntKind.i64 c, V.int IntKind.i64 d,
      V.int IntKind.i64 e, V.int IntKind.i64 f, V.int IntKind.i64 g, V.int IntKind.i64 h, V.int IntKind.i64 i,
      V.int IntKind.u32 j]
    Ev.T.leaf))) ∧
          ((some (O.ro none A.length A Ev.T.leaf)) = (some (O.ro none A.length A Ev.T.leaf))))))) ∧
      (((!ilt (wr IntKind.i64 ((Int.ofNat k).add (Int.ofNat 1))) w) = (false)) → ((T
  (some
    [V.int IntKind.i64 l0, V.int IntKind.i64 l1, V.int IntKind.i64 l2, V.int IntKind.i64 l3,
      V.int IntKind.i64 (wr IntKind.i64 ((Int.ofNat k).add (Int.ofNat 1))), V.int IntKind.i64 l5, V.int IntKind.i64 l6,
      V.int IntKind.i64 l7]))) ∧
       (((((some (V.int IntKind.i64 w)) = (some (V.int IntKind.i64 w))) ∧
          (((some (V.ptr 1010 0)) = (some (V.ptr 1010 0))) ∧
           (((some (V.ptr 1012 0)) = (some (V.ptr 1012 0))) ∧
            (((some (V.slice 1003 0 n cc)) = (some (V.slice 1003 0 n cc))) ∧
             (((some (V.int IntKind.i64 (Int.ofNat n))) = (some (V.int IntKind.i64 (Int.ofNat n)))) ∧
              (((some (V.int IntKind.i64 (wr IntKind.i64 ((Int.ofNat k).add (Int.ofNat 1))))) = (some (V.int IntKind.i64 (wr IntKind.i64 ((Int.ofNat k).add (Int.ofNat 1)))))) ∧
               (True))))))) ∧
         (((67) = (67)) ∧
          ((true) = (true)))) ∧
        (((some
  (O.cells (some 26) 10
    [V.int IntKind.i64 a, V.int IntKind.i64 (Int.ofNat 1), V.int IntKind.i64 c, V.int IntKind.i64 d,
      V.int IntKind.i64 e, V.int IntKind.i64 f, V.int IntKind.i64 g, V.int IntKind.i64 h, V.int IntKind.i64 i,
      V.int IntKind.u32 j]
    Ev.T.leaf)) = (some
  (O.cells (some 26) 10
    [V.int IntKind.i64 a, V.int IntKind.i64 (Int.ofNat 1), V.int IntKind.i64 c, V.int IntKind.i64 d,
      V.int IntKind.i64 e, V.int IntKind.i64 f, V.int IntKind.i64 g, V.int IntKind.i64 h, V.int IntKind.i64 i,
      V.int IntKind.u32 j]
    Ev.T.leaf))) ∧
         ((some (O.ro none A.length A Ev.T.leaf)) = (some (O.ro none A.length A Ev.T.leaf)))))))))))) ∧
(((ilt (Int.ofNat k) (Int.ofNat n)) = (false)) → ((E)) ∧
 (((true) = (true)) ∧
  ((((some (V.int IntKind.i64 w)) = (some (V.int IntKind.i64 w))) ∧
    (True)) ∧
   (((67) = (67)) ∧
    ((true) = (true))))))) := by kernel_rfl
theorem r1_5 (a c d e f g h i j w : Int) (n : Nat) (cc : Cap) (A : List V) (k : Nat) (l0 l1 l2 l3 l4 l5 l6 l7 : Int) (T : Option (List V) → Prop) (R : V → Prop) (E : Prop) : (evW (GF (some 5)) (sp (some 5)) 60 bd none iFair (S (inv n cc w (Int.ofNat k)) (hL (cfgL a 1 c d e f g h i j) A (L8 l0 l1 l2 l3 l4 l5 l6 l7))) (K7 n cc w (Int.ofNat k) (cfgL a 1 c d e f g h i j) A T R E)) = (
(((ilt (Int.ofNat k) (Int.ofNat n)) = (true)) → ((false) = (false)) ∧
 (((ilt (Int.ofNat k) (Int.ofNat n)) = (true)) ∧
  ((∃ l, (ldF (cfgL a 1 c d e f g h i j) A (L8 l0 l1 l2 l3 l4 l5 l6 l7) k) = (some (V.agg 6 l Ev.T.leaf)) ∧ LK.shape [LK.int IntKind.i64, LK.int IntKind.i64, LK.int IntKind.i64, LK.int IntKind.i64, LK.int IntKind.i64, LK.str] l) ∧
   (∀ y0 : Int, ∀ y1 : Int, ∀ y2 : Int, ∀ y3 : Int, ∀ y4 : Int, ∀ y5 : List UInt8, ((ldF (cfgL a 1 c d e f g h i j) A (L8 l0 l1 l2 l3 l4 l5 l6 l7) k) = (some
  (V.agg 6
    ([] ++ [V.int IntKind.i64 y0] ++ [V.int IntKind.i64 y1] ++ [V.int IntKind.i64 y2] ++ [V.int IntKind.i64 y3] ++
        [V.int IntKind.i64 y4] ++
      [V.str y5])
    Ev.T.leaf))) → ((!BT.clsB (some 5) (Int.ofNat 1) i { kind := y0, m := y1, a := y2, b := y3, c := y4, t := y5 }) = (false)) ∧
    ((((True) ∧
       ((True) ∧
        ((Int.ofNat 1) = (Int.ofNat 1)))) ∧
      (True)) ∧
     ((((!ilt (wr IntKind.i64 ((Int.ofNat k).add (Int.ofNat 1))) w) = (true)) → (((!ilt (wr IntKind.i64 ((wr IntKind.i64 ((Int.ofNat k).add (Int.ofNat 1))).sub w))
    (match
      ilt
        (match
          ilt l7
            (match
              ilt l6
                (match ilt (wr IntKind.i64 ((Int.ofNat k).add (Int.ofNat 1))) l4 with
                | true => wr IntKind.i64 ((Int.ofNat k).add 1)
                | false => l4) with
            | true => l6
            | false =>
              match ilt (wr IntKind.i64 ((Int.ofNat k).add 1)) l4 with
              | true => wr IntKind.i64 ((Int.ofNat k).add 1)
              | false => l4) with
        | true => l7
        | false =>
          match
            ilt l6
              (match ilt (wr IntKind.i64 ((Int.ofNat k).add 1)) l4 with
              | true => wr IntKind.i64 ((Int.ofNat k).add 1)
              | false => l4) with
          | true => l6
          | false =>
            match ilt (wr IntKind.i64 ((Int.ofNat k).add 1)) l4 with
            | true => wr IntKind.i64 ((Int.ofNat k).add 1)
            | false => l4)
        l0 with
    | true =>
      match
        ilt l7
          (match
            ilt l6
              (match ilt (wr IntKind.i64 ((Int.ofNat k).add 1)) l4 with
              | true => wr IntKind.i64 ((Int.ofNat k).add 1)
              | false => l4) with
          | true => l6
          | false =>
            match ilt (wr IntKind.i64 ((Int.ofNat k).add 1)) l4 with
            | true => wr IntKind.i64 ((Int.ofNat k).add 1)
            | false => l4) with
      | true => l7
      | false =>
        match
          ilt l6
            (match ilt (wr IntKind.i64 ((Int.ofNat k).add 1)) l4 with
            | true => wr IntKind.i64 ((Int.ofNat k).add 1)
            | false => l4) with
        | true => l6
        | false =>
          match ilt (wr IntKind.i64 ((Int.ofNat k).add 1)) l4 with
          | true => wr IntKind.i64 ((Int.ofNat k).add 1)
          | false => l4
    | false => l0)) = (true)) → (R (V.tuple [V.bool false, V.int IntKind.i64 (Int.ofNat 0)]))) ∧
       (((!ilt (wr IntKind.i64 ((wr IntKind.i64 ((Int.ofNat k).add (Int.ofNat 1))).sub w))
    (match
      ilt
        (match
          ilt l7
            (match
              ilt l6
                (match ilt (wr IntKind.i64 ((Int.ofNat k).add (Int.ofNat 1))) l4 with
                | true => wr IntKind.i64 ((Int.ofNat k).add 1)
                | false => l4) with
            | true => l6
            | false =>
              match ilt (wr IntKind.i64 ((Int.ofNat k).add 1)) l4 with
              | true => wr IntKind.i64 ((Int.ofNat k).add 1)
              | false => l4) with
        | true => l7
        | false =>
          match
            ilt l6
              (match ilt (wr IntKind.i64 ((Int.ofNat k).add 1)) l4 with
              | true => wr IntKind.i64 ((Int.ofNat k).add 1)
              | false => l4) with
          | true => l6
          | false =>
            match ilt (wr IntKind.i64 ((Int.ofNat k).add 1)) l4 with
            | true => wr IntKind.i64 ((Int.ofNat k).add 1)
            | false => l4)
        l0 with
    | true =>
      match
        ilt l7
          (match
            ilt l6
              (match ilt (wr IntKind.i64 ((Int.ofNat k).add 1)) l4 with
              | true => wr IntKind.i64 ((Int.ofNat k).add 1)
              | false => l4) with
          | true => l6
          | false =>
            match ilt (wr IntKind.i64 ((Int.ofNat k).add 1)) l4 with
            | true => wr IntKind.i64 ((Int.ofNat k).add 1)
            | false => l4) with
      | true => l7
      | false =>
        match
          ilt l6
            (match ilt (wr IntKind.i64 ((Int.ofNat k).add 1)) l4 with
            | true => wr IntKind.i64 ((Int.ofNat k).add 1)
            | false => l4) with
        | true => l6
        | false =>
          match ilt (wr IntKind.i64 ((Int.ofNat k).add 1)) l4 with
          | true => wr IntKind.i64 ((Int.ofNat k).add 1)
          | false => l4
    | false => l0)) = (false)) → ((T
  (some
    [V.int IntKind.i64 l0, V.int IntKind.i64 l1, V.int IntKind.i64 l2, V.int IntKind.i64 l3, V.int IntKind.i64 l4,
      V.int IntKind.i64 (wr IntKind.i64 ((Int.ofNat k).add (Int.ofNat 1))), V.int IntKind.i64 l6, V.int IntKind.i64 l7]))) ∧
        (((((some (V.int IntKind.i64 w)) = (some (V.int IntKind.i64 w))) ∧
           (((some (V.ptr 1010 0)) = (some (V.ptr 1010 0))) ∧
            (((some (V.ptr 1012 0)) = (some (V.ptr 1012 0))) ∧
             (((some (V.slice 1003 0 n cc)) = (some (V.slice 1003 0 n cc))) ∧
              (((some (V.int IntKind.i64 (Int.ofNat n))) = (some (V.int IntKind.i64 (Int.ofNat n)))) ∧
               (((some (V.int IntKind.i64 (wr IntKind.i64 ((Int.ofNat k).add (Int.ofNat 1))))) = (some (V.int IntKind.i64 (wr IntKind.i64 ((Int.ofNat k).add (Int.ofNat 1)))))) ∧
                (True))))))) ∧
          (((67) = (67)) ∧
           ((true) = (true)))) ∧
         (((some
  (O.cells (some 26) 10
    [V.int IntKind.i64 a, V.int IntKind.i64 (Int.ofNat 1), V.int IntKind.i64 c, V.int IntKind.i64 d,
      V.int IntKind.i64 e, V.int IntKind.i64 f, V.int IntKind.i64 g, V.int IntKind.i64 h, V.int IntKind.i64 i,
      V.int IntKind.u32 j]
    Ev.T.leaf)) = (some
  (O.cells (some 26) 10
    [V.int IntKind.i64 a, V.int IntKind.i64 (Int.ofNat 1), V.int IntKind.i64 c, V.int IntKind.i64 d,
      V.int IntKind.i64 e, V.int IntKind.i64 f, V.int IntKind.i64 g, V.int IntKind.i64 h, V.int IntKind.i64 i,
      V.int IntKind.u32 j]
    Ev.T.leaf))) ∧
          ((some (O.ro none A.length A Ev.T.leaf)) = (some (O.ro none A.length A Ev.T.leaf))))))) ∧
      (((!ilt (wr IntKind.i64 ((Int.ofNat k).add (Int.ofNat 1))) w) = (false)) → ((T
  (some
    [V.int IntKind.i64 l0, V.int IntKind.i64 l1, V.int IntKind.i64 l2, V.int IntKind.i64 l3, V.int IntKind.i64 l4,
      V.int IntKind.i64 (wr IntKind.i64 ((Int.ofNat k).add (Int.ofNat 1))), V.int IntKind.i64 l6, V.int IntKind.i64 l7]))) ∧
       (((((some (V.int IntKind.i64 w)) = (some (V.int IntKind.i64 w))) ∧
          (((some (V.ptr 1010 0)) = (some (V.ptr 1010 0))) ∧
           (((some (V.ptr 1012 0)) = (some (V.ptr 1012 0))) ∧
            (((some (V.slice 1003 0 n cc)) = (some (V.slice 1003 0 n cc))) ∧
             (((some (V.int IntKind.i64 (Int.ofNat n))) = (some (V.int IntKind.i64 (Int.ofNat n)))) ∧
              (((some (V.int IntKind.i64 (wr IntKind.i64 ((Int.ofNat k).add (Int.ofNat 1))))) = (some (V.int IntKind.i64 (wr IntKind.i64 ((Int.ofNat k).add (Int.ofNat 1)))))) ∧
               (True))))))) ∧
         (((67) = (67)) ∧
          ((true) = (true)))) ∧
        (((some
  (O.cells (some 26) 10
    [V.int IntKind.i64 a, V.int IntKind.i64 (Int.ofNat 1), V.int IntKind.i64 c, V.int IntKind.i64 d,
      V.int IntKind.i64 e, V.int IntKind.i64 f, V.int IntKind.i64 g, V.int IntKind.i64 h, V.int IntKind.i64 i,
      V.int IntKind.u32 j]
    Ev.T.leaf)) = (some
  (O.cells (some 26) 10
    [V.int IntKind.i64 a, V.int IntKind.i64 (Int.ofNat 1), V.int IntKind.i64 c, V.int IntKind.i64 d,
      V.int IntKind.i64 e, V.int IntKind.i64 f, V.int IntKind.i64 g, V.int IntKind.i64 h, V.int IntKind.i64 i,
      V.int IntKind.u32 j]
    Ev.T.leaf))) ∧
         ((some (O.ro none A.length A Ev.T.leaf)) = (some (O.ro none A.length A Ev.T.leaf)))))))))))) ∧
(((ilt (Int.ofNat k) (Int.ofNat n)) = (false)) → ((E)) ∧
 (((true) = (true)) ∧
  ((((some (V.int IntKind.i64 w)) = (some (V.int IntKind.i64 w))) ∧
    (True)) ∧
   (((67) = (67)) ∧
    ((true) = (true))))))) := by kernel_rfl
theorem r1_6 (a c d e f g h i j w : Int) (n : Nat) (cc : Cap) (A : List V) (k : Nat) (l0 l1 l2 l3 l4 l5 l6 l7 : Int) (T : Option (List V) → Prop) (R : V → Prop) (E : Prop) : (evW (GF (some 6)) (sp (some 6)) 60 bd none iFair (S (inv n cc w (Int.ofNat k)) (hL (cfgL a 1 c d e f g h i j) A (L8 l0 l1 l2 l3 l4 l5 l6 l7))) (K7 n cc w (Int.ofNat k) (cfgL a 1 c d e f g h i j) A T R E)) = (
(((ilt (Int.ofNat k) (Int.ofNat n)) = (true)) → ((false) = (false)) ∧
 (((ilt (Int.ofNat k) (Int.ofNat n)) = (true)) ∧
  ((∃ l, (ldF (cfgL a 1 c d e f g h i j) A (L8 l0 l1 l2 l3 l4 l5 l6 l7) k) = (some (V.agg 6 l Ev.T.leaf)) ∧ LK.shape [LK.int IntKind.i64, LK.int IntKind.i64, LK.int IntKind.i64, LK.int IntKind.i64, LK.int IntKind.i64, LK.str] l) ∧
   (∀ y0 : Int, ∀ y1 : Int, ∀ y2 : Int, ∀ y3 : Int, ∀ y4 : Int, ∀ y5 : List UInt8, ((ldF (cfgL a 1 c d e f g h i j) A (L8 l0 l1 l2 l3 l4 l5 l6 l7) k) = (some
  (V.agg 6
    ([] ++ [V.int IntKind.i64 y0] ++ [V.int IntKind.i64 y1] ++ [V.int IntKind.i64 y2] ++ [V.int IntKind.i64 y3] ++
        [V.int IntKind.i64 y4] ++
      [V.str y5])
    Ev.T.leaf))) → ((!BT.clsB (some 6) (Int.ofNat 1) i { kind := y0, m := y1, a := y2, b := y3, c := y4, t := y5 }) = (false)) ∧
    ((((True) ∧
       ((True) ∧
        ((Int.ofNat 1) = (Int.ofNat 1)))) ∧
      (True)) ∧
     ((((!ilt (wr IntKind.i64 ((Int.ofNat k).add (Int.ofNat 1))) w) = (true)) → (((!ilt (wr IntKind.i64 ((wr IntKind.i64 ((Int.ofNat k).add (Int.ofNat 1))).sub w))
    (match
      ilt
        (match
          ilt l7
            (match
              ilt (wr IntKind.i64 ((Int.ofNat k).add (Int.ofNat 1)))
                (match ilt l5 l4 with
                | true => l5
                | false => l4) with
            | true => wr IntKind.i64 ((Int.ofNat k).add 1)
            | false =>
              match ilt l5 l4 with
              | true => l5
              | false => l4) with
        | true => l7
        | false =>
          match
            ilt (wr IntKind.i64 ((Int.ofNat k).add 1))
              (match ilt l5 l4 with
              | true => l5
              | false => l4) with
          | true => wr IntKind.i64 ((Int.ofNat k).add 1)
          | false =>
            match ilt l5 l4 with
            | true => l5
            | false => l4)
        l0 with
    | true =>
      match
        ilt l7
          (match
            ilt (wr IntKind.i64 ((Int.ofNat k).add 1))
              (match ilt l5 l4 with
              | true => l5
              | false => l4) with
          | true => wr IntKind.i64 ((Int.ofNat k).add 1)
          | false =>
            match ilt l5 l4 with
            | true => l5
            | false => l4) with
      | true => l7
      | false =>
        match
          ilt (wr IntKind.i64 ((Int.ofNat k).add 1))
            (match ilt l5 l4 with
            | true => l5
            | false => l4) with
        | true => wr IntKind.i64 ((Int.ofNat k).add 1)
        | false =>
          match ilt l5 l4 with
          | true => l5
          | false => l4
    | false => l0)) = (true)) → (R (V.tuple [V.bool false, V.int IntKind.i64 (Int.ofNat 0)]))) ∧
       (((!ilt (wr IntKind.i64 ((wr IntKind.i64 ((Int.ofNat k).add (Int.ofNat 1))).sub w))
    (match
      ilt
        (match
          ilt l7
            (match
              ilt (wr IntKind.i64 ((Int.ofNat k).add (Int.ofNat 1)))
                (match ilt l5 l4 with
                | true => l5
                | false => l4) with
            | true => wr IntKind.i64 ((Int.ofNat k).add 1)
            | false =>
              match ilt l5 l4 with
              | true => l5
              | false => l4) with
        | true => l7
        | false =>
          match
            ilt (wr IntKind.i64 ((Int.ofNat k).add 1))
              (match ilt l5 l4 with
              | true => l5
              | false => l4) with
          | true => wr IntKind.i64 ((Int.ofNat k).add 1)
          | false =>
            match ilt l5 l4 with
            | true => l5
            | false => l4)
        l0 with
    | true =>
      match
        ilt l7
          (match
            ilt (wr IntKind.i64 ((Int.ofNat k).add 1))
              (match ilt l5 l4 with
              | true => l5
              | false => l4) with
          | true => wr IntKind.i64 ((Int.ofNat k).add 1)
          | false =>
            match ilt l5 l4 with
            | true => l5
            | false => l4) with
      | true => l7
      | false =>
        match
          ilt (wr IntKind.i64 ((Int.ofNat k).add 1))
            (match ilt l5 l4 with
            | true => l5
            | false => l4) with
        | true => wr IntKind.i64 ((Int.ofNat k).add 1)
        | false =>
          match ilt l5 l4 with
          | true => l5
          | false => l4
    | false => l0)) = (false)) → ((T
  (some
    [V.int IntKind.i64 l0, V.int IntKind.i64 l1, V.int IntKind.i64 l2, V.int IntKind.i64 l3, V.int IntKind.i64 l4,
      V.int IntKind.i64 l5, V.int IntKind.i64 (wr IntKind.i64 ((Int.ofNat k).add (Int.ofNat 1))), V.int IntKind.i64 l7]))) ∧
        (((((some (V.int IntKind.i64 w)) = (some (V.int IntKind.i64 w))) ∧
           (((some (V.ptr 1010 0)) = (some (V.ptr 1010 0))) ∧
            (((some (V.ptr 1012 0)) = (some (V.ptr 1012 0))) ∧
             (((some (V.slice 1003 0 n cc)) = (some (V.slice 1003 0 n cc))) ∧
              (((some (V.int IntKind.i64 (Int.ofNat n))) = (some (V.int IntKind.i64 (Int.ofNat n)))) ∧
               (((some (V.int IntKind.i64 (wr IntKind.i64 ((Int.ofNat k).add (Int.ofNat 1))))) = (some (V.int IntKind.i64 (wr IntKind.i64 ((Int.ofNat k).add (Int.ofNat 1)))))) ∧
                (True))))))) ∧
          (((67) = (67)) ∧
           ((true) = (true)))) ∧
         (((some
  (O.cells (some 26) 10
    [V.int IntKind.i64 a, V.int IntKind.i64 (Int.ofNat 1), V.int IntKind.i64 c, V.int IntKind.i64 d,
      V.int IntKind.i64 e, V.int IntKind.i64 f, V.int IntKind.i64 g, V.int IntKind.i64 h, V.int IntKind.i64 i,
      V.int IntKind.u32 j]
    Ev.T.leaf)) = (some
  (O.cells (some 26) 10
    [V.int IntKind.i64 a, V.int IntKind.i64 (Int.ofNat 1), V.int IntKind.i64 c, V.int IntKind.i64 d,
      V.int IntKind.i64 e, V.int IntKind.i64 f, V.int IntKind.i64 g, V.int IntKind.i64 h, V.int IntKind.i64 i,
      V.int IntKind.u32 j]
    Ev.T.leaf))) ∧
          ((some (O.ro none A.length A Ev.T.leaf)) = (some (O.ro none A.length A Ev.T.leaf))))))) ∧
      (((!ilt (wr IntKind.i64 ((Int.ofNat k).add (Int.ofNat 1))) w) = (false)) → ((T
  (some
    [V.int IntKind.i64 l0, V.int IntKind.i64 l1, V.int IntKind.i64 l2, V.int IntKind.i64 l3, V.int IntKind.i64 l4,
      V.int IntKind.i64 l5, V.int IntKind.i64 (wr IntKind.i64 ((Int.ofNat k).add (Int.ofNat 1))), V.int IntKind.i64 l7]))) ∧
       (((((some (V.int IntKind.i64 w)) = (some (V.int IntKind.i64 w))) ∧
          (((some (V.ptr 1010 0)) = (some (V.ptr 1010 0))) ∧
           (((some (V.ptr 1012 0)) = (some (V.ptr 1012 0))) ∧
            (((some (V.slice 1003 0 n cc)) = (some (V.slice 1003 0 n cc))) ∧
             (((some (V.int IntKind.i64 (Int.ofNat n))) = (some (V.int IntKind.i64 (Int.ofNat n)))) ∧
              (((some (V.int IntKind.i64 (wr IntKind.i64 ((Int.ofNat k).add (Int.ofNat 1))))) = (some (V.int IntKind.i64 (wr IntKind.i64 ((Int.ofNat k).add (Int.ofNat 1)))))) ∧
               (True))))))) ∧
         (((67) = (67)) ∧
          ((true) = (true)))) ∧
        (((some
  (O.cells (some 26) 10
    [V.int IntKind.i64 a, V.int IntKind.i64 (Int.ofNat 1), V.int IntKind.i64 c, V.int IntKind.i64 d,
      V.int IntKind.i64 e, V.int IntKind.i64 f, V.int IntKind.i64 g, V.int IntKind.i64 h, V.int IntKind.i64 i,
      V.int IntKind.u32 j]
    Ev.T.leaf)) = (some
  (O.cells (some 26) 10
    [V.int IntKind.i64 a, V.int IntKind.i64 (Int.ofNat 1), V.int IntKind.i64 c, V.int IntKind.i64 d,
      V.int IntKind.i64 e, V.int IntKind.i64 f, V.int IntKind.i64 g, V.int IntKind.i64 h, V.int IntKind.i64 i,
      V.int IntKind.u32 j]
    Ev.T.leaf))) ∧
         ((some (O.ro none A.length A Ev.T.leaf)) = (some (O.ro none A.length A Ev.T.leaf)))))))))))) ∧
(((ilt (Int.ofNat k) (Int.ofNat n)) = (false)) → ((E)) ∧
 (((true) = (true)) ∧
  ((((some (V.int IntKind.i64 w)) = (some (V.int IntKind.i64 w))) ∧
    (True)) ∧
   (((67) = (67)) ∧
    ((true) = (true))))))) := by kernel_rfl
theorem r1_7 (a c d e f g h i j w : Int) (n : Nat) (cc : Cap) (A : List V) (k : Nat) (l0 l1 l2 l3 l4 l5 l6 l7 : Int) (T : Option (List V) → Prop) (R : V → Prop) (E : Prop) : (evW (GF (some 7)) (sp (some 7)) 60 bd none iFair (S (inv n cc w (Int.ofNat k)) (hL (cfgL a 1 c d e f g h i j) A (L8 l0 l1 l2 l3 l4 l5 l6 l7))) (K7 n cc w (Int.ofNat k) (cfgL a 1 c d e f g h i j) A T R E)) = (
(((ilt (Int.ofNat k) (Int.ofNat n)) = (true)) → ((false) = (false)) ∧
 (((ilt (Int.ofNat k) (Int.ofNat n)) = (true)) ∧
  ((∃ l, (ldF (cfgL a 1 c d e f g h i j) A (L8 l0 l1 l2 l3 l4 l5 l6 l7) k) = (some (V.agg 6 l Ev.T.leaf)) ∧ LK.shape [LK.int IntKind.i64, LK.int IntKind.i64, LK.int IntKind.i64, LK.int IntKind.i64, LK.int IntKind.i64, LK.str] l) ∧
   (∀ y0 : Int, ∀ y1 : Int, ∀ y2 : Int, ∀ y3 : Int, ∀ y4 : Int, ∀ y5 : List UInt8, ((ldF (cfgL a 1 c d e f g h i j) A (L8 l0 l1 l2 l3 l4 l5 l6 l7) k) = (some
  (V.agg 6
    ([] ++ [V.int IntKind.i64 y0] ++ [V.int IntKind.i64 y1] ++ [V.int IntKind.i64 y2] ++ [V.int IntKind.i64 y3] ++
        [V.int IntKind.i64 y4] ++
      [V.str y5])
    Ev.T.leaf))) → ((!BT.clsB (some 7) (Int.ofNat 1) i { kind := y0, m := y1, a := y2, b := y3, c := y4, t := y5 }) = (false)) ∧
    ((((True) ∧
       ((True) ∧
        ((Int.ofNat 1) = (Int.ofNat 1)))) ∧
      (True)) ∧
     ((((!ilt (wr IntKind.i64 ((Int.ofNat k).add (Int.ofNat 1))) w) = (true)) → (((!ilt (wr IntKind.i64 ((wr IntKind.i64 ((Int.ofNat k).add (Int.ofNat 1))).sub w))
    (match
      ilt
        (match
          ilt (wr IntKind.i64 ((Int.ofNat k).add (Int.ofNat 1)))
            (match
              ilt l6
                (match ilt l5 l4 with
                | true => l5
                | false => l4) with
            | true => l6
            | false =>
              match ilt l5 l4 with
              | true => l5
              | false => l4) with
        | true => wr IntKind.i64 ((Int.ofNat k).add 1)
        | false =>
          match
            ilt l6
              (match ilt l5 l4 with
              | true => l5
              | false => l4) with
          | true => l6
          | false =>
            match ilt l5 l4 with
            | true => l5
            | false => l4)
        l0 with
    | true =>
      match
        ilt (wr IntKind.i64 ((Int.ofNat k).add 1))
          (match
            ilt l6
              (match ilt l5 l4 with
              | true => l5
              | false => l4) with
          | true => l6
          | false =>
            match ilt l5 l4 with
            | true => l5
            | false => l4) with
      | true => wr IntKind.i64 ((Int.ofNat k).add 1)
      | false =>
        match
          ilt l6
            (match ilt l5 l4 with
            | true => l5
            | false => l4) with
        | true => l6
        | false =>
          match ilt l5 l4 with
          | true => l5
          | false => l4
    | false => l0)) = (true)) → (R (V.tuple [V.bool false, V.int IntKind.i64 (Int.ofNat 0)]))) ∧
       (((!ilt (wr IntKind.i64 ((wr IntKind.i64 ((Int.ofNat k).add (Int.ofNat 1))).sub w))
    (match
      ilt
        (match
          ilt (wr IntKind.i64 ((Int.ofNat k).add (Int.ofNat 1)))
            (match
              ilt l6
                (match ilt l5 l4 with
                | true => l5
                | false => l4) with
            | true => l6
            | false =>
              match ilt l5 l4 with
              | true => l5
              | false => l4) with
        | true => wr IntKind.i64 ((Int.ofNat k).add 1)
        | false =>
          match
            ilt l6
              (match ilt l5 l4 with
              | true => l5
              | false => l4) with
          | true => l6
          | false =>
            match ilt l5 l4 with
            | true => l5
            | false => l4)
        l0 with
    | true =>
      match
        ilt (wr IntKind.i64 ((Int.ofNat k).add 1))
          (match
            ilt l6
              (match ilt l5 l4 with
              | true => l5
              | false => l4) with
          | true => l6
          | false =>
            match ilt l5 l4 with
            | true => l5
            | false => l4) with
      | true => wr IntKind.i64 ((Int.ofNat k).add 1)
      | false =>
        match
          ilt l6
            (match ilt l5 l4 with
            | true => l5
            | false => l4) with
        | true => l6
        | false =>
          match ilt l5 l4 with
          | true => l5
          | false => l4
    | false => l0)) = (false)) → ((T
  (some
    [V.int IntKind.i64 l0, V.int IntKind.i64 l1, V.int IntKind.i64 l2, V.int IntKind.i64 l3, V.int IntKind.i64 l4,
      V.int IntKind.i64 l5, V.int IntKind.i64 l6, V.int IntKind.i64 (wr IntKind.i64 ((Int.ofNat k).add (Int.ofNat 1)))]))) ∧
        (((((some (V.int IntKind.i64 w)) = (some (V.int IntKind.i64 w))) ∧
           (((some (V.ptr 1010 0)) = (some (V.ptr 1010 0))) ∧
            (((some (V.ptr 1012 0)) = (some (V.ptr 1012 0))) ∧
             (((some (V.slice 1003 0 n cc)) = (some (V.slice 1003 0 n cc))) ∧
              (((some (V.int IntKind.i64 (Int.ofNat n))) = (some (V.int IntKind.i64 (Int.ofNat n)))) ∧
               (((some (V.int IntKind.i64 (wr IntKind.i64 ((Int.ofNat k).add (Int.ofNat 1))))) = (some (V.int IntKind.i64 (wr IntKind.i64 ((Int.ofNat k).add (Int.ofNat 1)))))) ∧
                (True))))))) ∧
          (((67) = (67)) ∧
           ((true) = (true)))) ∧
         (((some
  (O.cells (some 26) 10
    [V.int IntKind.i64 a, V.int IntKind.i64 (Int.ofNat 1), V.int IntKind.i64 c, V.int IntKind.i64 d,
      V.int IntKind.i64 e, V.int IntKind.i64 f, V.int IntKind.i64 g, V.int IntKind.i64 h, V.int IntKind.i64 i,
      V.int IntKind.u32 j]
    Ev.T.leaf)) = (some
  (O.cells (some 26) 10
    [V.int IntKind.i64 a, V.int IntKind.i64 (Int.ofNat 1), V.int IntKind.i64 c, V.int IntKind.i64 d,
      V.int IntKind.i64 e, V.int IntKind.i64 f, V.int IntKind.i64 g, V.int IntKind.i64 h, V.int IntKind.i64 i,
      V.int IntKind.u32 j]
    Ev.T.leaf))) ∧
          ((some (O.ro none A.length A Ev.T.leaf)) = (some (O.ro none A.length A Ev.T.leaf))))))) ∧
      (((!ilt (wr IntKind.i64 ((Int.ofNat k).add (Int.ofNat 1))) w) = (false)) → ((T
  (some
    [V.int IntKind.i64 l0, V.int IntKind.i64 l1, V.int IntKind.i64 l2, V.int IntKind.i64 l3, V.int IntKind.i64 l4,
      V.int IntKind.i64 l5, V.int IntKind.i64 l6, V.int IntKind.i64 (wr IntKind.i64 ((Int.ofNat k).add (Int.ofNat 1)))]))) ∧
       (((((some (V.int IntKind.i64 w)) = (some (V.int IntKind.i64 w))) ∧
          (((some (V.ptr 1010 0)) = (some (V.ptr 1010 0))) ∧
           (((some (V.ptr 1012 0)) = (some (V.ptr 1012 0))) ∧
            (((some (V.slice 1003 0 n cc)) = (some (V.slice 1003 0 n cc))) ∧
             (((some (V.int IntKind.i64 (Int.ofNat n))) = (some (V.int IntKind.i64 (Int.ofNat n)))) ∧
              (((some (V.int IntKind.i64 (wr IntKind.i64 ((Int.ofNat k).add (Int.ofNat 1))))) = (some (V.int IntKind.i64 (wr IntKind.i64 ((Int.ofNat k).add (Int.ofNat 1)))))) ∧
               (True))))))) ∧
         (((67) = (67)) ∧
          ((true) = (true)))) ∧
        (((some
  (O.cells (some 26) 10
    [V.int IntKind.i64 a, V.int IntKind.i64 (Int.ofNat 1), V.int IntKind.i64 c, V.int IntKind.i64 d,
      V.int IntKind.i64 e, V.int IntKind.i64 f, V.int IntKind.i64 g, V.int IntKind.i64 h, V.int IntKind.i64 i,
      V.int IntKind.u32 j]
    Ev.T.leaf)) = (some
  (O.cells (some 26) 10
    [V.int IntKind.i64 a, V.int IntKind.i64 (Int.ofNat 1), V.int IntKind.i64 c, V.int IntKind.i64 d,
      V.int IntKind.i64 e, V.int IntKind.i64 f, V.int IntKind.i64 g, V.int IntKind.i64 h, V.int IntKind.i64 i,
      V.int IntKind.u32 j]
    Ev.T.leaf))) ∧
         ((some (O.ro none A.length A Ev.T.leaf)) = (some (O.ro none A.length A Ev.T.leaf)))))))))))) ∧
(((ilt (Int.ofNat k) (Int.ofNat n)) = (false)) → ((E)) ∧
 (((true) = (true)) ∧
  ((((some (V.int IntKind.i64 w)) = (some (V.int IntKind.i64 w))) ∧
    (True)) ∧
   (((67) = (67)) ∧
    ((true) = (true))))))) := by kernel_rfl
theorem r2_n (a c d e f g h i j w : Int) (n : Nat) (cc : Cap) (A : List V) (k : Nat) (l0 l1 l2 l3 l4 l5 l6 l7 : Int) (T : Option (List V) → Prop) (R : V → Prop) (E : Prop) : (evW (GF none) (sp none) 60 bd none iFair (S (inv n cc w (Int.ofNat k)) (hL (cfgL a 2 c d e f g h i j) A (L8 l0 l1 l2 l3 l4 l5 l6 l7))) (K7 n cc w (Int.ofNat k) (cfgL a 2 c d e f g h i j) A T R E)) = (
(((ilt (Int.ofNat k) (Int.ofNat n)) = (true)) → ((false) = (false)) ∧
 (((ilt (Int.ofNat k) (Int.ofNat n)) = (true)) ∧
  ((∃ l, (ldF (cfgL a 2 c d e f g h i j) A (L8 l0 l1 l2 l3 l4 l5 l6 l7) k) = (some (V.agg 6 l Ev.T.leaf)) ∧ LK.shape [LK.int IntKind.i64, LK.int IntKind.i64, LK.int IntKind.i64, LK.int IntKind.i64, LK.int IntKind.i64, LK.str] l) ∧
   (∀ y0 : Int, ∀ y1 : Int, ∀ y2 : Int, ∀ y3 : Int, ∀ y4 : Int, ∀ y5 : List UInt8, ((ldF (cfgL a 2 c d e f g h i j) A (L8 l0 l1 l2 l3 l4 l5 l6 l7) k) = (some
  (V.agg 6
    ([] ++ [V.int IntKind.i64 y0] ++ [V.int IntKind.i64 y1] ++ [V.int IntKind.i64 y2] ++ [V.int IntKind.i64 y3] ++
        [V.int IntKind.i64 y4] ++
      [V.str y5])
    Ev.T.leaf))) → ((!BT.clsB none (Int.ofNat 2) i { kind := y0, m := y1, a := y2, b := y3, c := y4, t := y5 }) = (false)) ∧
    ((((True) ∧
       ((True) ∧
        ((Int.ofNat 2) = (Int.ofNat 2)))) ∧
      (True)) ∧
     ((((!ilt (wr IntKind.i64 ((Int.ofNat k).add (Int.ofNat 1))) w) = (true)) → (((!ilt (wr IntKind.i64 ((wr IntKind.i64 ((Int.ofNat k).add (Int.ofNat 1))).sub w))
    (match
      ilt
        (match
          ilt l7
            (match
              ilt l6
                (match ilt l5 l4 with
                | true => l5
                | false => l4) with
            | true => l6
            | false =>
              match ilt l5 l4 with
              | true => l5
              | false => l4) with
        | true => l7
        | false =>
          match
            ilt l6
              (match ilt l5 l4 with
              | true => l5
              | false => l4) with
          | true => l6
          | false =>
            match ilt l5 l4 with
            | true => l5
            | false => l4)
        (match ilt l1 l0 with
        | true => l1
        | false => l0) with
    | true =>
      match
        ilt l7
          (match
            ilt l6
              (match ilt l5 l4 with
              | true => l5
              | false => l4) with
          | true => l6
          | false =>
            match ilt l5 l4 with
            | true => l5
            | false => l4) with
      | true => l7
      | false =>
        match
          ilt l6
            (match ilt l5 l4 with
            | true => l5
            | false => l4) with
        | true => l6
        | false =>
          match ilt l5 l4 with
          | true => l5
          | false => l4
    | false =>
      match ilt l1 l0 with
      | true => l1
      | false => l0)) = (true)) → (R (V.tuple [V.bool false, V.int IntKind.i64 (Int.ofNat 0)]))) ∧
       (((!ilt (wr IntKind.i64 ((wr IntKind.i64 ((Int.ofNat k).add (Int.ofNat 1))).sub w))
    (match
      ilt
        (match
          ilt l7
            (match
              ilt l6
                (match ilt l5 l4 with
                | true => l5
                | false => l4) with
            | true => l6
            | false =>
              match ilt l5 l4 with
              | true => l5
              | false => l4) with
        | true => l7
        | false =>
          match
            ilt l6
              (match ilt l5 l4 with
              | true => l5
              | false => l4) with
          | true => l6
          | false =>
            match ilt l5 l4 with
            | true => l5
            | false => l4)
        (match ilt l1 l0 with
        | true => l1
        | false => l0) with
    | true =>
      match
        ilt l7
          (match
            ilt l6
              (match ilt l5 l4 with
              | true => l5
              | false => l4) with
          | true => l6
          | false =>
            match ilt l5 l4 with
            | true => l5
            | false => l4) with
      | true => l7
      | false =>
        match
          ilt l6
            (match ilt l5 l4 with
            | true => l5
            | false => l4) with
        | true => l6
        | false =>
          match ilt l5 l4 with
          | true => l5
          | false => l4
    | false =>
      match ilt l1 l0 with
      | true => l1
      | false => l0)) = (false)) → ((T
  (some
    [V.int IntKind.i64 l0, V.int IntKind.i64 l1, V.int IntKind.i64 l2, V.int IntKind.i64 l3, V.int IntKind.i64 l4,
      V.int IntKind.i64 l5, V.int IntKind.i64 l6, V.int IntKind.i64 l7]))) ∧
        (((((some (V.int IntKind.i64 w)) = (some (V.int IntKind.i64 w))) ∧
           (((some (V.ptr 1010 0)) = (some (V.ptr 1010 0))) ∧
            (((some (V.ptr 1012 0)) = (some (V.ptr 1012 0))) ∧
             (((some (V.slice 1003 0 n cc)) = (some (V.slice 1003 0 n cc))) ∧
              (((some (V.int IntKind.i64 (Int.ofNat n))) = (some (V.int IntKind.i64 (Int.ofNat n)))) ∧
               (((some (V.int IntKind.i64 (wr IntKind.i64 ((Int.ofNat k).add (Int.ofNat 1))))) = (some (V.int IntKind.i64 (wr IntKind.i64 ((Int.ofNat k).add (Int.ofNat 1)))))) ∧
                (True))))))) ∧
          (((67) = (67)) ∧
           ((true) = (true)))) ∧
         (((some
  (O.cells (some 26) 10
    [V.int IntKind.i64 a, V.int IntKind.i64 (Int.ofNat 2), V.int IntKind.i64 c, V.int IntKind.i64 d,
      V.int IntKind.i64 e, V.int IntKind.i64 f, V.int IntKind.i64 g, V.int IntKind.i64 h, V.int IntKind.i64 i,
      V.int IntKind.u32 j]
    Ev.T.leaf)) = (some
  (O.cells (some 26) 10
    [V.int IntKind.i64 a, V.int IntKind.i64 (Int.ofNat 2), V.int IntKind.i64 c, V.int IntKind.i64 d,
      V.int IntKind.i64 e, V.int IntKind.i64 f, V.int IntKind.i64 g, V.int IntKind.i64 h, V.int IntKind.i64 i,
      V.int IntKind.u32 j]
    Ev.T.leaf))) ∧
          ((some (O.ro none A.length A Ev.T.leaf)) = (some (O.ro none A.length A Ev.T.leaf))))))) ∧
      (((!ilt (wr IntKind.i64 ((Int.ofNat k).add (Int.ofNat 1))) w) = (false)) → ((T
  (some
    [V.int IntKind.i64 l0, V.int IntKind.i64 l1, V.int IntKind.i64 l2, V.int IntKind.i64 l3, V.int IntKind.i64 l4,
      V.int IntKind.i64 l5, V.int IntKind.i64 l6, V.int IntKind.i64 l7]))) ∧
       (((((some (V.int IntKind.i64 w)) = (some (V.int IntKind.i64 w))) ∧
          (((some (V.ptr 1010 0)) = (some (V.ptr 1010 0))) ∧
           (((some (V.ptr 1012 0)) = (some (V.ptr 1012 0))) ∧
            (((some (V.slice 1003 0 n cc)) = (some (V.slice 1003 0 n cc))) ∧
             (((some (V.int IntKind.i64 (Int.ofNat n))) = (some (V.int IntKind.i64 (Int.ofNat n)))) ∧
              (((some (V.int IntKind.i64 (wr IntKind.i64 ((Int.ofNat k).add (Int.ofNat 1))))) = (some (V.int IntKind.i64 (wr IntKind.i64 ((Int.ofNat k).add (Int.ofNat 1)))))) ∧
               (True))))))) ∧
         (((67) = (67)) ∧
          ((true) = (true)))) ∧
        (((some
  (O.cells (some 26) 10
    [V.int IntKind.i64 a, V.int IntKind.i64 (Int.ofNat 2), V.int IntKind.i64 c, V.int IntKind.i64 d,
      V.int IntKind.i64 e, V.int IntKind.i64 f, V.int IntKind.i64 g, V.int IntKind.i64 h, V.int IntKind.i64 i,
      V.int IntKind.u32 j]
    Ev.T.leaf)) = (some
  (O.cells (some 26) 10
    [V.int IntKind.i64 a, V.int IntKind.i64 (Int.ofNat 2), V.int IntKind.i64 c, V.int IntKind.i64 d,
      V.int IntKind.i64 e, V.int IntKind.i64 f, V.int IntKind.i64 g, V.int IntKind.i64 h, V.int IntKind.i64 i,
      V.int IntKind.u32 j]
    Ev.T.leaf))) ∧
         ((some (O.ro none A.length A Ev.T.leaf)) = (some (O.ro none A.length A Ev.T.leaf)))))))))))) ∧
(((ilt (Int.ofNat k) (Int.ofNat n)) = (false)) → ((E)) ∧
 (((true) = (true)) ∧
  ((((some (V.int IntKind.i64 w)) = (some (V.int IntKind.i64 w))) ∧
    (True)) ∧
   (((67) = (67)) ∧
    ((true) = (true))))))) := by kernel_rfl
theorem r2_0 (a c d e f g h i j w : Int) (n : Nat) (cc : Cap) (A : List V) (k : Nat) (l0 l1 l2 l3 l4 l5 l6 l7 : Int) (T : Option (List V) → Prop) (R : V → Prop) (E : Prop) : (evW (GF (some 0)) (sp (some 0)) 60 bd none iFair (S (inv n cc w (Int.ofNat k)) (hL (cfgL a 2 c d e f g h i j) A (L8 l0 l1 l2 l3 l4 l5 l6 l7))) (K7 n cc w (Int.ofNat k) (cfgL a 2 c d e f g h i j) A T R E)) = (
(((ilt (Int.ofNat k) (Int.ofNat n)) = (true)) → ((false) = (false)) ∧
 (((ilt (Int.ofNat k) (Int.ofNat n)) = (true)) ∧
  ((∃ l, (ldF (cfgL a 2 c d e f g h i j) A (L8 l0 l1 l2 l3 l4 l5 l6 l7) k) = (some (V.agg 6 l Ev.T.leaf)) ∧ LK.shape [LK.int IntKind.i64, LK.int IntKind.i64, LK.int IntKind.i64, LK.int IntKind.i64, LK.int IntKind.i64, LK.str] l) ∧
   (∀ y0 : Int, ∀ y1 : Int, ∀ y2 : Int, ∀ y3 : Int, ∀ y4 : Int, ∀ y5 : List UInt8, ((ldF (cfgL a 2 c d e f g h i j) A (L8 l0 l1 l2 l3 l4 l5 l6 l7) k) = (some
  (V.agg 6
    ([] ++ [V.int IntKind.i64 y0] ++ [V.int IntKind.i64 y1] ++ [V.int IntKind.i64 y2] ++ [V.int IntKind.i64 y3] ++
        [V.int IntKind.i64 y4] ++
      [V.str y5])
    Ev.T.leaf))) → ((!BT.clsB (some 0) (Int.ofNat 2) i { kind := y0, m := y1, a := y2, b := y3, c := y4, t := y5 }) = (false)) ∧
    ((((True) ∧
       ((True) ∧
        ((Int.ofNat 2) = (Int.ofNat 2)))) ∧
      (True)) ∧
     ((((!ilt (wr IntKind.i64 ((Int.ofNat k).add (Int.ofNat 1))) w) = (true)) → (((!ilt (wr IntKind.i64 ((wr IntKind.i64 ((Int.ofNat k).add (Int.ofNat 1))).sub w))
    (match
      ilt
        (match
          ilt l7
            (match
              ilt l6
                (match ilt l5 l4 with
                | true => l5
                | false => l4) with
            | true => l6
            | false =>
              match ilt l5 l4 with
              | true => l5
              | false => l4) with
        | true => l7
        | false =>
          match
            ilt l6
              (match ilt l5 l4 with
              | true => l5
              | false => l4) with
          | true => l6
          | false =>
            match ilt l5 l4 with
            | true => l5
            | false => l4)
        (match ilt l1 (wr IntKind.i64 ((Int.ofNat k).add (Int.ofNat 1))) with
        | true => l1
        | false => wr IntKind.i64 ((Int.ofNat k).add 1)) with
    | true =>
      match
        ilt l7
          (match
            ilt l6
              (match ilt l5 l4 with
              | true => l5
              | false => l4) with
          | true => l6
          | false =>
            match ilt l5 l4 with
            | true => l5
            | false => l4) with
      | true => l7
      | false =>
        match
          ilt l6
            (match ilt l5 l4 with
            | true => l5
            | false => l4) with
        | true => l6
        | false =>
          match ilt l5 l4 with
          | true => l5
          | false => l4
    | false =>
      match ilt l1 (wr IntKind.i64 ((Int.ofNat k).add 1)) with
      | true => l1
      | false => wr IntKind.i64 ((Int.ofNat k).add 1))) = (true)) → (R (V.tuple [V.bool false, V.int IntKind.i64 (Int.ofNat 0)]))) ∧
       (((!ilt (wr IntKind.i64 ((wr IntKind.i64 ((Int.ofNat k).add (Int.ofNat 1))).sub w))
    (match
      ilt
        (match
          ilt l7
            (match
              ilt l6
                (match ilt l5 l4 with
                | true => l5
                | false => l4) with
            | true => l6
            | false =>
              match ilt l5 l4 with
              | true => l5
              | false => l4) with
        | true => l7
        | false =>
          match
            ilt l6
              (match ilt l5 l4 with
              | true => l5
              | false => l4) with
          | true => l6
          | false =>
            match ilt l5 l4 with
            | true => l5
            | false => l4)
        (match ilt l1 (wr IntKind.i64 ((Int.ofNat k).add (Int.ofNat 1))) with
        | true => l1
        | false => wr IntKind.i64 ((Int.ofNat k).add 1)) with
    | true =>
      match
        ilt l7
          (match
            ilt l6
              (match ilt l5 l4 with
              | true => l5
              | false => l4) with
          | true => l6
          | false =>
            match ilt l5 l4 with
            | true => l5
            | false => l4) with
      | true => l7
      | false =>
        match
          ilt l6
            (match ilt l5 l4 with
            | true => l5
            | false => l4) with
        | true => l6
        | false =>
          match ilt l5 l4 with
          | true => l5
          | false => l4
    | false =>
      match ilt l1 (wr IntKind.i64 ((Int.ofNat k).add 1)) with
      | true => l1
      | false => wr IntKind.i64 ((Int.ofNat k).add 1))) = (false)) → ((T
  (some
    [V.int IntKind.i64 (wr IntKind.i64 ((Int.ofNat k).add (Int.ofNat 1))), V.int IntKind.i64 l1, V.int IntKind.i64 l2,
      V.int IntKind.i64 l3, V.int IntKind.i64 l4, V.int IntKind.i64 l5, V.int IntKind.i64 l6, V.int IntKind.i64 l7]))) ∧
        (((((some (V.int IntKind.i64 w)) = (some (V.int IntKind.i64 w))) ∧
           (((some (V.ptr 1010 0)) = (some (V.ptr 1010 0))) ∧
            (((some (V.ptr 1012 0)) = (some (V.ptr 1012 0))) ∧
             (((some (V.slice 1003 0 n cc)) = (some (V.slice 1003 0 n cc))) ∧
              (((some (V.int IntKind.i64 (Int.ofNat n))) = (some (V.int IntKind.i64 (Int.ofNat n)))) ∧
               (((some (V.int IntKind.i64 (wr IntKind.i64 ((Int.ofNat k).add (Int.ofNat 1))))) = (some (V.int IntKind.i64 (wr IntKind.i64 ((Int.ofNat k).add (Int.ofNat 1)))))) ∧
                (True))))))) ∧
          (((67) = (67)) ∧
           ((true) = (true)))) ∧
         (((some
  (O.cells (some 26) 10
    [V.int IntKind.i64 a, V.int IntKind.i64 (Int.ofNat 2), V.int IntKind.i64 c, V.int IntKind.i64 d,
      V.int IntKind.i64 e, V.int IntKind.i64 f, V.int IntKind.i64 g, V.int IntKind.i64 h, V.int IntKind.i64 i,
      V.int IntKind.u32 j]
    Ev.T.leaf)) = (some
  (O.cells (some 26) 10
    [V.int IntKind.i64 a, V.int IntKind.i64 (Int.ofNat 2), V.int IntKind.i64 c, V.int IntKind.i64 d,
      V.int IntKind.i64 e, V.int IntKind.i64 f, V.int IntKind.i64 g, V.int IntKind.i64 h, V.int IntKind.i64 i,
      V.int IntKind.u32 j]
    Ev.T.leaf))) ∧
          ((some (O.ro none A.length A Ev.T.leaf)) = (some (O.ro none A.length A Ev.T.leaf))))))) ∧
      (((!ilt (wr IntKind.i64 ((Int.ofNat k).add (Int.ofNat 1))) w) = (false)) → ((T
  (some
    [V.int IntKind.i64 (wr IntKind.i64 ((Int.ofNat k).add (Int.ofNat 1))), V.int IntKind.i64 l1, V.int IntKind.i64 l2,
      V.int IntKind.i64 l3, V.int IntKind.i64 l4, V.int IntKind.i64 l5, V.int IntKind.i64 l6, V.int IntKind.i64 l7]))) ∧
       (((((some (V.int IntKind.i64 w)) = (some (V.int IntKind.i64 w))) ∧
          (((some (V.ptr 1010 0)) = (some (V.ptr 1010 0))) ∧
           (((some (V.ptr 1012 0)) = (some (V.ptr 1012 0))) ∧
            (((some (V.slice 1003 0 n cc)) = (some (V.slice 1003 0 n cc))) ∧
             (((some (V.int IntKind.i64 (Int.ofNat n))) = (some (V.int IntKind.i64 (Int.ofNat n)))) ∧
              (((some (V.int IntKind.i64 (wr IntKind.i64 ((Int.ofNat k).add (Int.ofNat 1))))) = (some (V.int IntKind.i64 (wr IntKind.i64 ((Int.ofNat k).add (Int.ofNat 1)))))) ∧
               (True))))))) ∧
         (((67) = (67)) ∧
          ((true) = (true)))) ∧
        (((some
  (O.cells (some 26) 10
    [V.int IntKind.i64 a, V.int IntKind.i64 (Int.ofNat 2), V.int IntKind.i64 c, V.int IntKind.i64 d,
      V.int IntKind.i64 e, V.int IntKind.i64 f, V.int IntKind.i64 g, V.int IntKind.i64 h, V.int IntKind.i64 i,
      V.int IntKind.u32 j]
    Ev.T.leaf)) = (some
  (O.cells (some 26) 10
    [V.int IntKind.i64 a, V.int IntKind.i64 (Int.ofNat 2), V.int IntKind.i64 c, V.int IntKind.i64 d,
      V.int IntKind.i64 e, V.int IntKind.i64 f, V.int IntKind.i64 g, V.int IntKind.i64 h, V.int IntKind.i64 i,
      V.int IntKind.u32 j]
    Ev.T.leaf))) ∧
         ((some (O.ro none A.length A Ev.T.leaf)) = (some (O.ro none A.length A Ev.T.leaf)))))))))))) ∧
(((ilt (Int.ofNat k) (Int.ofNat n)) = (false)) → ((E)) ∧
 (((true) = (true)) ∧
  ((((some (V.int IntKind.i64 w)) = (some (V.int IntKind.i64 w))) ∧
    (True)) ∧
   (((67) = (67)) ∧
    ((true) = (true))))))) := by kernel_rfl
theorem r2_1 (a c d e f g h i j w : Int) (n : Nat) (cc : Cap) (A : List V) (k : Nat) (l0 l1 l2 l3 l4 l5 l6 l7 : Int) (T : Option (List V) → Prop) (R : V → Prop) (E : Prop) : (evW (GF (some 1)) (sp (some 1)) 60 bd none iFair (S (inv n cc w (Int.ofNat k)) (hL (cfgL a 2 c d e f g h i j) A (L8 l0 l1 l2 l3 l4 l5 l6 l7))) (K7 n cc w (Int.ofNat k) (cfgL a 2 c d e f g h i j) A T R E)) = (
(((ilt (Int.ofNat k) (Int.ofNat n)) = (true)) → ((false) = (false)) ∧
 (((ilt (Int.ofNat k) (Int.ofNat n)) = (true)) ∧
  ((∃ l, (ldF (cfgL a 2 c d e f g h i j) A (L8 l0 l1 l2 l3 l4 l5 l6 l7) k) = (some (V.agg 6 l Ev.T.leaf)) ∧ LK.shape [LK.int IntKind.i64, LK.int IntKind.i64, LK.int IntKind.i64, LK.int IntKind.i64, LK.int IntKind.i64, LK.str] l) ∧
   (∀ y0 : Int, ∀ y1 : Int, ∀ y2 : Int, ∀ y3 : Int, ∀ y4 : Int, ∀ y5 : List UInt8, ((ldF (cfgL a 2 c d e f g h i j) A (L8 l0 l1 l2 l3 l4 l5 l6 l7) k) = (some
  (V.agg 6
    ([] ++ [V.int IntKind.i64 y0] ++ [V.int IntKind.i64 y1] ++ [V.int IntKind.i64 y2] ++ [V.int IntKind.i64 y3] ++
        [V.int IntKind.i64 y4] ++
      [V.str y5])
    Ev.T.leaf))) → ((!BT.clsB (some 1) (Int.ofNat 2) i { kind := y0, m := y1, a := y2, b := y3, c := y4, t := y5 }) = (false)) ∧
    ((((True) ∧
       ((True) ∧
        ((Int.ofNat 2) = (Int.ofNat 2)))) ∧
      (True)) ∧
     ((((!ilt (wr IntKind.i64 ((Int.ofNat k).add (Int.ofNat 1))) w) = (true)) → (((!ilt (wr IntKind.i64 ((wr IntKind.i64 ((Int.ofNat k).add (Int.ofNat 1))).sub w))
    (match
      ilt
        (match
          ilt l7
            (match
              ilt l6
                (match ilt l5 l4 with
                | true => l5
                | false => l4) with
            | true => l6
            | false =>
              match ilt l5 l4 with
              | true => l5
              | false => l4) with
        | true => l7
        | false =>
          match
            ilt l6
              (match ilt l5 l4 with
              | true => l5
              | false => l4) with
          | true => l6
          | false =>
            match ilt l5 l4 with
            | true => l5
            | false => l4)
        (match ilt (wr IntKind.i64 ((Int.ofNat k).add (Int.ofNat 1))) l0 with
        | true => wr IntKind.i64 ((Int.ofNat k).add 1)
        | false => l0) with
    | true =>
      match
        ilt l7
          (match
            ilt l6
              (match ilt l5 l4 with
              | true => l5
              | false => l4) with
          | true => l6
          | false =>
            match ilt l5 l4 with
            | true => l5
            | false => l4) with
      | true => l7
      | false =>
        match
          ilt l6
            (match ilt l5 l4 with
            | true => l5
            | false => l4) with
        | true => l6
        | false =>
          match ilt l5 l4 with
          | true => l5
          | false => l4
    | false =>
      match ilt (wr IntKind.i64 ((Int.ofNat k).add 1)) l0 with
      | true => wr IntKind.i64 ((Int.ofNat k).add 1)
      | false => l0)) = (true)) → (R (V.tuple [V.bool false, V.int IntKind.i64 (Int.ofNat 0)]))) ∧
       (((!ilt (wr IntKind.i64 ((wr IntKind.i64 ((Int.ofNat k).add (Int.ofNat 1))).sub w))
    (match
      ilt
        (match
          ilt l7
            (match
              ilt l6
                (match ilt l5 l4 with
                | true => l5
                | false => l4) with
            | true => l6
            | false =>
              match ilt l5 l4 with
              | true => l5
              | false => l4) with
        | true => l7
        | false =>
          match
            ilt l6
              (match ilt l5 l4 with
              | true => l5
              | false => l4) with
          | true => l6
          | false =>
            match ilt l5 l4 with
            | true => l5
            | false => l4)
        (match ilt (wr IntKind.i64 ((Int.ofNat k).add (Int.ofNat 1))) l0 with
        | true => wr IntKind.i64 ((Int.ofNat k).add 1)
        | false => l0) with
    | true =>
      match
        ilt l7
          (match
            ilt l6
              (match ilt l5 l4 with
              | true => l5
              | false => l4) with
          | true => l6
          | false =>
            match ilt l5 l4 with
            | true => l5
            | false => l4) with
      | true => l7
      | false =>
        match
          ilt l6
            (match ilt l5 l4 with
            | true => l5
            | false => l4) with
        | true => l6
        | false =>
          match ilt l5 l4 with
          | true => l5
          | false => l4
    | false =>
      match ilt (wr IntKind.i64 ((Int.ofNat k).add 1)) l0 with
      | true => wr IntKind.i64 ((Int.ofNat k).add 1)
      | false => l0)) = (false)) → ((T
  (some
    [V.int IntKind.i64 l0, V.int IntKind.i64 (wr IntKind.i64 ((Int.ofNat k).add (Int.ofNat 1))), V.int IntKind.i64 l2,
      V.int IntKind.i64 l3, V.int IntKind.i64 l4, V.int IntKind.i64 l5, V.int IntKind.i64 l6, V.int IntKind.i64 l7]))) ∧
        (((((some (V.int IntKind.i64 w)) = (some (V.int IntKind.i64 w))) ∧
           (((some (V.ptr 1010 0)) = (some (V.ptr 1010 0))) ∧
            (((some (V.ptr 1012 0)) = (some (V.ptr 1012 0))) ∧
             (((some (V.slice 1003 0 n cc)) = (some (V.slice 1003 0 n cc))) ∧
              (((some (V.int IntKind.i64 (Int.ofNat n))) = (some (V.int IntKind.i64 (Int.ofNat n)))) ∧
               (((some (V.int IntKind.i64 (wr IntKind.i64 ((Int.ofNat k).add (Int.ofNat 1))))) = (some (V.int IntKind.i64 (wr IntKind.i64 ((Int.ofNat k).add (Int.ofNat 1)))))) ∧
                (True))))))) ∧
          (((67) = (67)) ∧
           ((true) = (true)))) ∧
         (((some
  (O.cells (some 26) 10
    [V.int IntKind.i64 a, V.int IntKind.i64 (Int.ofNat 2), V.int IntKind.i64 c, V.int IntKind.i64 d,
      V.int IntKind.i64 e, V.int IntKind.i64 f, V.int IntKind.i64 g, V.int IntKind.i64 h, V.int IntKind.i64 i,
      V.int IntKind.u32 j]
    Ev.T.leaf)) = (some
  (O.cells (some 26) 10
    [V.int IntKind.i64 a, V.int IntKind.i64 (Int.ofNat 2), V.int IntKind.i64 c, V.int IntKind.i64 d,
      V.int IntKind.i64 e, V.int IntKind.i64 f, V.int IntKind.i64 g, V.int IntKind.i64 h, V.int IntKind.i64 i,
      V.int IntKind.u32 j]
    Ev.T.leaf))) ∧
          ((some (O.ro none A.length A Ev.T.leaf)) = (some (O.ro none A.length A Ev.T.leaf))))))) ∧
      (((!ilt (wr IntKind.i64 ((Int.ofNat k).add (Int.ofNat 1))) w) = (false)) → ((T
  (some
    [V.int IntKind.i64 l0, V.int IntKind.i64 (wr IntKind.i64 ((Int.ofNat k).add (Int.ofNat 1))), V.int IntKind.i64 l2,
      V.int IntKind.i64 l3, V.int IntKind.i64 l4, V.int IntKind.i64 l5, V.int IntKind.i64 l6, V.int IntKind.i64 l7]))) ∧
       (((((some (V.int IntKind.i64 w)) = (some (V.int IntKind.i64 w))) ∧
          (((some (V.ptr 1010 0)) = (some (V.ptr 1010 0))) ∧
           (((some (V.ptr 1012 0)) = (some (V.ptr 1012 0))) ∧
            (((some (V.slice 1003 0 n cc)) = (some (V.slice 1003 0 n cc))) ∧
             (((some (V.int IntKind.i64 (Int.ofNat n))) = (some (V.int IntKind.i64 (Int.ofNat n)))) ∧
              (((some (V.int IntKind.i64 (wr IntKind.i64 ((Int.ofNat k).add (Int.ofNat 1))))) = (some (V.int IntKind.i64 (wr IntKind.i64 ((Int.ofNat k).add (Int.ofNat 1)))))) ∧
               (True))))))) ∧
         (((67) = (67)) ∧
          ((true) = (true)))) ∧
        (((some
  (O.cells (some 26) 10
    [V.int IntKind.i64 a, V.int IntKind.i64 (Int.ofNat 2), V.int IntKind.i64 c, V.int IntKind.i64 d,
      V.int IntKind.i64 e, V.int IntKind.i64 f, V.int IntKind.i64 g, V.int IntKind.i64 h, V.int IntKind.i64 i,
      V.int IntKind.u32 j]
    Ev.T.leaf)) = (some
  (O.cells (some 26) 10
    [V.int IntKind.i64 a, V.int IntKind.i64 (Int.ofNat 2), V.int IntKind.i64 c, V.int IntKind.i64 d,
      V.int IntKind.i64 e, V.int IntKind.i64 f, V.int IntKind.i64 g, V.int IntKind.i64 h, V.int IntKind.i64 i,
      V.int IntKind.u32 j]
    Ev.T.leaf))) ∧
         ((some (O.ro none A.length A Ev.T.leaf)) = (some (O.ro none A.length A Ev.T.leaf)))))))))))) ∧
(((ilt (Int.ofNat k) (Int.ofNat n)) = (false)) → ((E)) ∧
 (((true) = (true)) ∧
  ((((some (V.int IntKind.i64 w)) = (some (V.int IntKind.i64 w))) ∧
    (True)) ∧
   (((67) = (67)) ∧
    ((true) = (true))))))) := by kernel_rfl
theorem r2_4 (a c d e f g h i j w : Int) (n : Nat) (cc : Cap) (A : List V) (k : Nat) (l0 l1 l2 l3 l4 l5 l6 l7 : Int) (T : Option (List V) → Prop) (R : V → Prop) (E : Prop) : (evW (GF (some 4)) (sp (some 4)) 60 bd none iFair (S (inv n cc w (Int.ofNat k)) (hL (cfgL a 2 c d e f g h i j) A (L8 l0 l1 l2 l3 l4 l5 l6 l7))) (K7 n cc w (Int.ofNat k) (cfgL a 2 c d e f g h i j) A T R E)) = (
(((ilt (Int.ofNat k) (Int.ofNat n)) = (true)) → ((false) = (false)) ∧
 (((ilt (Int.ofNat k) (Int.ofNat n)) = (true)) ∧
  ((∃ l, (ldF (cfgL a 2 c d e f g h i j) A (L8 l0 l1 l2 l3 l4 l5 l6 l7) k) = (some (V.agg 6 l Ev.T.leaf)) ∧ LK.shape [LK.int IntKind.i64, LK.int IntKind.i64, LK.int IntKind.i64, LK.int IntKind.i64, LK.int IntKind.i64, LK.str] l) ∧
   (∀ y0 : Int, ∀ y1 : Int, ∀ y2 : Int, ∀ y3 : Int, ∀ y4 : Int, ∀ y5 : List UInt8, ((ldF (cfgL a 2 c d e f g h i j) A (L8 l0 l1 l2 l3 l4 l5 l6 l7) k) = (some
  (V.agg 6
    ([] ++ [V.int IntKind.i64 y0] ++ [V.int IntKind.i64 y1] ++ [V.int IntKind.i64 y2] ++ [V.int IntKind.i64 y3] ++
        [V.int IntKind.i64 y4] ++
      [V.str y5])
    Ev.T.leaf))) → ((!BT.clsB (some 4) (Int.ofNat 2) i { kind := y0, m := y1, a := y2, b := y3, c := y4, t := y5 }) = (false)) ∧
    ((((True) ∧
       ((True) ∧
        ((Int.ofNat 2) = (Int.ofNat 2)))) ∧
      (True)) ∧
     ((((!ilt (wr IntKind.i64 ((Int.ofNat k).add (Int.ofNat 1))) w) = (true)) → (((!ilt (wr IntKind.i64 ((wr IntKind.i64 ((Int.ofNat k).add (Int.ofNat 1))).sub w))
    (match
      ilt
        (match
          ilt l7
            (match
              ilt l6
                (match ilt l5 (wr IntKind.i64 ((Int.ofNat k).add (Int.ofNat 1))) with
                | true => l5
                | false => wr IntKind.i64 ((Int.ofNat k).add 1)) with
            | true => l6
            | false =>
              match ilt l5 (wr IntKind.i64 ((Int.ofNat k).add 1)) with
              | true => l5
              | false => wr IntKind.i64 ((Int.ofNat k).add 1)) with
        | true => l7
        | false =>
          match
            ilt l6
              (match ilt l5 (wr IntKind.i64 ((Int.ofNat k).add 1)) with
              | true => l5
              | false => wr IntKind.i64 ((Int.ofNat k).add 1)) with
          | true => l6
          | false =>
            match ilt l5 (wr IntKind.i64 ((Int.ofNat k).add 1)) with
            | true => l5
            | false => wr IntKind.i64 ((Int.ofNat k).add 1))
        (match ilt l1 l0 with
        | true => l1
        | false => l0) with
    | true =>
      match
        ilt l7
          (match
            ilt l6
              (match ilt l5 (wr IntKind.i64 ((Int.ofNat k).add 1)) with
              | true => l5
              | false => wr IntKind.i64 ((Int.ofNat k).add 1)) with
          | true => l6
          | false =>
            match ilt l5 (wr IntKind.i64 ((Int.ofNat k).add 1)) with
            | true => l5
            | false => wr IntKind.i64 ((Int.ofNat k).add 1)) with
      | true => l7
      | false =>
        match
          ilt l6
            (match ilt l5 (wr IntKind.i64 ((Int.ofNat k).add 1)) with
            | true => l5
            | false => wr IntKind.i64 ((Int.ofNat k).add 1)) with
        | true => l6
        | false =>
          match ilt l5 (wr IntKind.i64 ((Int.ofNat k).add 1)) with
          | true => l5
          | false => wr IntKind.i64 ((Int.ofNat k).add 1)
    | false =>
      match ilt l1 l0 with
      | true => l1
      | false => l0)) = (true)) → (R (V.tuple [V.bool false, V.int IntKind.i64 (Int.ofNat 0)]))) ∧
       (((!ilt (wr IntKind.i64 ((wr IntKind.i64 ((Int.ofNat k).add (Int.ofNat 1))).sub w))
    (match
      ilt
        (match
          ilt l7
            (match
              ilt l6
                (match ilt l5 (wr IntKind.i64 ((Int.ofNat k).add (Int.ofNat 1))) with
                | true => l5
                | false => wr IntKind.i64 ((Int.ofNat k).add 1)) with
            | true => l6
            | false =>
              match ilt l5 (wr IntKind.i64 ((Int.ofNat k).add 1)) with
              | true => l5
              | false => wr IntKind.i64 ((Int.ofNat k).add 1)) with
        | true => l7
        | false =>
          match
            ilt l6
              (match ilt l5 (wr IntKind.i64 ((Int.ofNat k).add 1)) with
              | true => l5
              | false => wr IntKind.i64 ((Int.ofNat k).add 1)) with
          | true => l6
          | false =>
            match ilt l5 (wr IntKind.i64 ((Int.ofNat k).add 1)) with
            | true => l5
            | false => wr IntKind.i64 ((Int.ofNat k).add 1))
        (match ilt l1 l0 with
        | true => l1
        | false => l0) with
    | true =>
      match
        ilt l7
          (match
            ilt l6
              (match ilt l5 (wr IntKind.i64 ((Int.ofNat k).add 1)) with
              | true => l5
              | false => wr IntKind.i64 ((Int.ofNat k).add 1)) with
          | true => l6
          | false =>
            match ilt l5 (wr IntKind.i64 ((Int.ofNat k).add 1)) with
            | true => l5
            | false => wr IntKind.i64 ((Int.ofNat k).add 1)) with
      | true => l7
      | false =>
        match
          ilt l6
            (match ilt l5 (wr IntKind.i64 ((Int.ofNat k).add 1)) with
            | true => l5
            | false => wr IntKind.i64 ((Int.ofNat k).add 1)) with
        | true => l6
        | false =>
          match ilt l5 (wr IntKind.i64 ((Int.ofNat k).add 1)) with
          | true => l5
          | false => wr IntKind.i64 ((Int.ofNat k).add 1)
    | false =>
      match ilt l1 l0 with
      | true => l1
      | false => l0)) = (false)) → ((T
  (some
    [V.int IntKind.i64 l0, V.int IntKind.i64 l1, V.int IntKind.i64 l2, V.int IntKind.i64 l3,
      V.int IntKind.i64 (wr IntKind.i64 ((Int.ofNat k).add (Int.ofNat 1))), V.int IntKind.i64 l5, V.int IntKind.i64 l6,
      V.int IntKind.i64 l7]))) ∧
        (((((some (V.int IntKind.i64 w)) = (some (V.int IntKind.i64 w))) ∧
           (((some (V.ptr 1010 0)) = (some (V.ptr 1010 0))) ∧
            (((some (V.ptr 1012 0)) = (some (V.ptr 1012 0))) ∧
             (((some (V.slice 1003 0 n cc)) = (some (V.slice 1003 0 n cc))) ∧
              (((some (V.int IntKind.i64 (Int.ofNat n))) = (some (V.int IntKind.i64 (Int.ofNat n)))) ∧
               (((some (V.int IntKind.i64 (wr IntKind.i64 ((Int.ofNat k).add (Int.ofNat 1))))) = (some (V.int IntKind.i64 (wr IntKind.i64 ((Int.ofNat k).add (Int.ofNat 1)))))) ∧
                (True))))))) ∧
          (((67) = (67)) ∧
           ((true) = (true)))) ∧
         (((some
  (O.cells (some 26) 10
    [V.int IntKind.i64 a, V.int IntKind.i64 (Int.ofNat 2), V.int IntKind.i64 c, V.int IntKind.i64 d,
      V.int IntKind.i64 e, V.int IntKind.i64 f, V.int IntKind.i64 g, V.int IntKind.i64 h, V.int IntKind.i64 i,
      V.int IntKind.u32 j]
    Ev.T.leaf)) = (some
  (O.cells (some 26) 10
    [V.int IntKind.i64 a, V.int IntKind.i64 (Int.ofNat 2), V.int IntKind.i64 c, V.int IntKind.i64 d,
      V.int IntKind.i64 e, V.int IntKind.i64 f, V.int IntKind.i64 g, V.int IntKind.i64 h, V.int IntKind.i64 i,
      V.int IntKind.u32 j]
    Ev.T.leaf))) ∧
          ((some (O.ro none A.length A Ev.T.leaf)) = (some (O.ro none A.length A Ev.T.leaf))))))) ∧
      (((!ilt (wr IntKind.i64 ((Int.ofNat k).add (Int.ofNat 1))) w) = (false)) → ((T
  (some
    [V.int IntKind.i64 l0, V.int IntKind.i64 l1, V.int IntKind.i64 l2, V.int IntKind.i64 l3,
      V.int IntKind.i64 (wr IntKind.i64 ((Int.ofNat k).add (Int.ofNat 1))), V.int IntKind.i64 l5, V.int IntKind.i64 l6,
      V.int IntKind.i64 l7]))) ∧
       (((((some (V.int IntKind.i64 w)) = (some (V.int IntKind.i64 w))) ∧
          (((some (V.ptr 1010 0)) = (some (V.ptr 1010 0))) ∧
           (((some (V.ptr 1012 0)) = (some (V.ptr 1012 0))) ∧
            (((some (V.slice 1003 0 n cc)) = (some (V.slice 1003 0 n cc))) ∧
             (((some (V.int IntKind.i64 (Int.ofNat n))) = (some (V.int IntKind.i64 (Int.ofNat n)))) ∧
              (((some (V.int IntKind.i64 (wr IntKind.i64 ((Int.ofNat k).add (Int.ofNat 1))))) = (some (V.int IntKind.i64 (wr IntKind.i64 ((Int.ofNat k).add (Int.ofNat 1)))))) ∧
               (True))))))) ∧
         (((67) = (67)) ∧
          ((true) = (true)))) ∧
        (((some
  (O.cells (some 26) 10
    [V.int IntKind.i64 a, V.int IntKind.i64 (Int.ofNat 2), V.int IntKind.i64 c, V.int IntKind.i64 d,
      V.int IntKind.i64 e, V.int IntKind.i64 f, V.int IntKind.i64 g, V.int IntKind.i64 h, V.int IntKind.i64 i,
      V.int IntKind.u32 j]
    Ev.T.leaf)) = (some
  (O.cells (some 26) 10
    [V.int IntKind.i64 a, V.int IntKind.i64 (Int.ofNat 2), V.int IntKind.i64 c, V.int IntKind.i64 d,
      V.int IntKind.i64 e, V.int IntKind.i64 f, V.int IntKind.i64 g, V.int IntKind.i64 h, V.int IntKind.i64 i,
      V.int IntKind.u32 j]
    Ev.T.leaf))) ∧
         ((some (O.ro none A.length A Ev.T.leaf)) = (some (O.ro none A.length A Ev.T.leaf)))))))))))) ∧
(((ilt (Int.ofNat k) (Int.ofNat n)) = (false)) → ((E)) ∧
 (((true) = (true)) ∧
  ((((some (V.int IntKind.i64 w)) = (some (V.int IntKind.i64 w))) ∧
    (True)) ∧
   (((67) = (67)) ∧
    ((true) = (true))))))) := by kernel_rfl
theorem r2_5 (a c d e f g h i j w : Int) (n : Nat) (cc : Cap) (A : List V) (k : Nat) (l0 l1 l2 l3 l4 l5 l6 l7 : Int) (T : Option (List V) → Prop) (R : V → Prop) (E : Prop) : (evW (GF (some 5)) (sp (some 5)) 60 bd none iFair (S (inv n cc w (Int.ofNat k)) (hL (cfgL a 2 c d e f g h i j) A (L8 l0 l1 l2 l3 l4 l5 l6 l7))) (K7 n cc w (Int.ofNat k) (cfgL a 2 c d e f g h i j) A T R E)) = (
(((ilt (Int.ofNat k) (Int.ofNat n)) = (true)) → ((false) = (false)) ∧
 (((ilt (Int.ofNat k) (Int.ofNat n)) = (true)) ∧
  ((∃ l, (ldF (cfgL a 2 c d e f g h i j) A (L8 l0 l1 l2 l3 l4 l5 l6 l7) k) = (some (V.agg 6 l Ev.T.leaf)) ∧ LK.shape [LK.int IntKind.i64, LK.int IntKind.i64, LK.int IntKind.i64, LK.int IntKind.i64, LK.int IntKind.i64, LK.str] l) ∧
   (∀ y0 : Int, ∀ y1 : Int, ∀ y2 : Int, ∀ y3 : Int, ∀ y4 : Int, ∀ y5 : List UInt8, ((ldF (cfgL a 2 c d e f g h i j) A (L8 l0 l1 l2 l3 l4 l5 l6 l7) k) = (some
  (V.agg 6
    ([] ++ [V.int IntKind.i64 y0] ++ [V.int IntKind.i64 y1] ++ [V.int IntKind.i64 y2] ++ [V.int IntKind.i64 y3] ++
        [V.int IntKind.i64 y4] ++
      [V.str y5])
    Ev.T.leaf))) → ((!BT.clsB (some 5) (Int.ofNat 2) i { kind := y0, m := y1, a := y2, b := y3, c := y4, t := y5 }) = (false)) ∧
    ((((True) ∧
       ((True) ∧
        ((Int.ofNat 2) = (Int.ofNat 2)))) ∧
      (True)) ∧
     ((((!ilt (wr IntKind.i64 ((Int.ofNat k).add (Int.ofNat 1))) w) = (true)) → (((!ilt (wr IntKind.i64 ((wr IntKind.i64 ((Int.ofNat k).add (Int.ofNat 1))).sub w))
    (match
      ilt
        (match
          ilt l7
            (match
              ilt l6
                (match ilt (wr IntKind.i64 ((Int.ofNat k).add (Int.ofNat 1))) l4 with
                | true => wr IntKind.i64 ((Int.ofNat k).add 1)
                | false => l4) with
            | true => l6
            | false =>
              match ilt (wr IntKind.i64 ((Int.ofNat k).add 1)) l4 with
              | true => wr IntKind.i64 ((Int.ofNat k).add 1)
              | false => l4) with
        | true => l7
        | false =>
          match
            ilt l6
              (match ilt (wr IntKind.i64 ((Int.ofNat k).add 1)) l4 with
              | true => wr IntKind.i64 ((Int.ofNat k).add 1)
              | false => l4) with
          | true => l6
          | false =>
            match ilt (wr IntKind.i64 ((Int.ofNat k).add 1)) l4 with
            | true => wr IntKind.i64 ((Int.ofNat k).add 1)
            | false => l4)
        (match ilt l1 l0 with
        | true => l1
        | false => l0) with
    | true =>
      match
        ilt l7
          (match
            ilt l6
              (match ilt (wr IntKind.i64 ((Int.ofNat k).add 1)) l4 with
              | true => wr IntKind.i64 ((Int.ofNat k).add 1)
              | false => l4) with
          | true => l6
          | false =>
            match ilt (wr IntKind.i64 ((Int.ofNat k).add 1)) l4 with
            | true => wr IntKind.i64 ((Int.ofNat k).add 1)
            | false => l4) with
      | true => l7
      | false =>
        match
          ilt l6
            (match ilt (wr IntKind.i64 ((Int.ofNat k).add 1)) l4 with
            | true => wr IntKind.i64 ((Int.ofNat k).add 1)
            | false => l4) with
        | true => l6
        | false =>
          match ilt (wr IntKind.i64 ((Int.ofNat k).add 1)) l4 with
          | true => wr IntKind.i64 ((Int.ofNat k).add 1)
          | false => l4
    | false =>
      match ilt l1 l0 with
      | true => l1
      | false => l0)) = (true)) → (R (V.tuple [V.bool false, V.int IntKind.i64 (Int.ofNat 0)]))) ∧
       (((!ilt (wr IntKind.i64 ((wr IntKind.i64 ((Int.ofNat k).add (Int.ofNat 1))).sub w))
    (match
      ilt
        (match
          ilt l7
            (match
              ilt l6
                (match ilt (wr IntKind.i64 ((Int.ofNat k).add (Int.ofNat 1))) l4 with
                | true => wr IntKind.i64 ((Int.ofNat k).add 1)
                | false => l4) with
            | true => l6
            | false =>
              match ilt (wr IntKind.i64 ((Int.ofNat k).add 1)) l4 with
              | true => wr IntKind.i64 ((Int.ofNat k).add 1)
              | false => l4) with
        | true => l7
        | false =>
          match
            ilt l6
              (match ilt (wr IntKind.i64 ((Int.ofNat k).add 1)) l4 with
              | true => wr IntKind.i64 ((Int.ofNat k).add 1)
              | false => l4) with
          | true => l6
          | false =>
            match ilt (wr IntKind.i64 ((Int.ofNat k).add 1)) l4 with
            | true => wr IntKind.i64 ((Int.ofNat k).add 1)
            | false => l4)
        (match ilt l1 l0 with
        | true => l1
        | false => l0) with
    | true =>
      match
        ilt l7
          (match
            ilt l6
              (match ilt (wr IntKind.i64 ((Int.ofNat k).add 1)) l4 with
              | true => wr IntKind.i64 ((Int.ofNat k).add 1)
              | false => l4) with
          | true => l6
          | false =>
            match ilt (wr IntKind.i64 ((Int.ofNat k).add 1)) l4 with
            | true => wr IntKind.i64 ((Int.ofNat k).add 1)
            | false => l4) with
      | true => l7
      | false =>
        match
          ilt l6
            (match ilt (wr IntKind.i64 ((Int.ofNat k).add 1)) l4 with
            | true => wr IntKind.i64 ((Int.ofNat k).add 1)
            | false => l4) with
        | true => l6
        | false =>
          match ilt (wr IntKind.i64 ((Int.ofNat k).add 1)) l4 with
          | true => wr IntKind.i64 ((Int.ofNat k).add 1)
          | false => l4
    | false =>
      match ilt l1 l0 with
      | true => l1
      | false => l0)) = (false)) → ((T
  (some
    [V.int IntKind.i64 l0, V.int IntKind.i64 l1, V.int IntKind.i64 l2, V.int IntKind.i64 l3, V.int IntKind.i64 l4,
      V.int IntKind.i64 (wr IntKind.i64 ((Int.ofNat k).add (Int.ofNat 1))), V.int IntKind.i64 l6, V.int IntKind.i64 l7]))) ∧
        (((((some (V.int IntKind.i64 w)) = (some (V.int IntKind.i64 w))) ∧
           (((some (V.ptr 1010 0)) = (some (V.ptr 1010 0))) ∧
            (((some (V.ptr 1012 0)) = (some (V.ptr 1012 0))) ∧
             (((some (V.slice 1003 0 n cc)) = (some (V.slice 1003 0 n cc))) ∧
              (((some (V.int IntKind.i64 (Int.ofNat n))) = (some (V.int IntKind.i64 (Int.ofNat n)))) ∧
               (((some (V.int IntKind.i64 (wr IntKind.i64 ((Int.ofNat k).add (Int.ofNat 1))))) = (some (V.int IntKind.i64 (wr IntKind.i64 ((Int.ofNat k).add (Int.ofNat 1)))))) ∧
                (True))))))) ∧
          (((67) = (67)) ∧
           ((true) = (true)))) ∧
         (((some
  (O.cells (some 26) 10
    [V.int IntKind.i64 a, V.int IntKind.i64 (Int.ofNat 2), V.int IntKind.i64 c, V.int IntKind.i64 d,
      V.int IntKind.i64 e, V.int IntKind.i64 f, V.int IntKind.i64 g, V.int IntKind.i64 h, V.int IntKind.i64 i,
      V.int IntKind.u32 j]
    Ev.T.leaf)) = (some
  (O.cells (some 26) 10
    [V.int IntKind.i64 a, V.int IntKind.i64 (Int.ofNat 2), V.int IntKind.i64 c, V.int IntKind.i64 d,
      V.int IntKind.i64 e, V.int IntKind.i64 f, V.int IntKind.i64 g, V.int IntKind.i64 h, V.int IntKind.i64 i,
      V.int IntKind.u32 j]
    Ev.T.leaf))) ∧
          ((some (O.ro none A.length A Ev.T.leaf)) = (some (O.ro none A.length A Ev.T.leaf))))))) ∧
      (((!ilt (wr IntKind.i64 ((Int.ofNat k).add (Int.ofNat 1))) w) = (false)) → ((T
  (some
    [V.int IntKind.i64 l0, V.int IntKind.i64 l1, V.int IntKind.i64 l2, V.int IntKind.i64 l3, V.int IntKind.i64 l4,
      V.int IntKind.i64 (wr IntKind.i64 ((Int.ofNat k).add (Int.ofNat 1))), V.int IntKind.i64 l6, V.int IntKind.i64 l7]))) ∧
       (((((some (V.int IntKind.i64 w)) = (some (V.int IntKind.i64 w))) ∧
          (((some (V.ptr 1010 0)) = (some (V.ptr 1010 0))) ∧
           (((some (V.ptr 1012 0)) = (some (V.ptr 1012 0))) ∧
            (((some (V.slice 1003 0 n cc)) = (some (V.slice 1003 0 n cc))) ∧
             (((some (V.int IntKind.i64 (Int.ofNat n))) = (some (V.int IntKind.i64 (Int.ofNat n)))) ∧
              (((some (V.int IntKind.i64 (wr IntKind.i64 ((Int.ofNat k).add (Int.ofNat 1))))) = (some (V.int IntKind.i64 (wr IntKind.i64 ((Int.ofNat k).add (Int.ofNat 1)))))) ∧
               (True))))))) ∧
         (((67) = (67)) ∧
          ((true) = (true)))) ∧
        (((some
  (O.cells (some 26) 10
    [V.int IntKind.i64 a, V.int IntKind.i64 (Int.ofNat 2), V.int IntKind.i64 c, V.int IntKind.i64 d,
      V.int IntKind.i64 e, V.int IntKind.i64 f, V.int IntKind.i64 g, V.int IntKind.i64 h, V.int IntKind.i64 i,
      V.int IntKind.u32 j]
    Ev.T.leaf)) = (some
  (O.cells (some 26) 10
    [V.int IntKind.i64 a, V.int IntKind.i64 (Int.ofNat 2), V.int IntKind.i64 c, V.int IntKind.i64 d,
      V.int IntKind.i64 e, V.int IntKind.i64 f, V.int IntKind.i64 g, V.int IntKind.i64 h, V.int IntKind.i64 i,
      V.int IntKind.u32 j]
    Ev.T.leaf))) ∧
         ((some (O.ro none A.length A Ev.T.leaf)) = (some (O.ro none A.length A Ev.T.leaf)))))))))))) ∧
(((ilt (Int.ofNat k) (Int.ofNat n)) = (false)) → ((E)) ∧
 (((true) = (true)) ∧
  ((((some (V.int IntKind.i64 w)) = (some (V.int IntKind.i64 w))) ∧
    (True)) ∧
   (((67) = (67)) ∧
    ((true) = (true))))))) := by kernel_rfl
theorem r2_6 (a c d e f g h i j w : Int) (n : Nat) (cc : Cap) (A : List V) (k : Nat) (l0 l1 l2 l3 l4 l5 l6 l7 : Int) (T : Option (List V) → Prop) (R : V → Prop) (E : Prop) : (evW (GF (some 6)) (sp (some 6)) 60 bd none iFair (S (inv n cc w (Int.ofNat k)) (hL (cfgL a 2 c d e f g h i j) A (L8 l0 l1 l2 l3 l4 l5 l6 l7))) (K7 n cc w (Int.ofNat k) (cfgL a 2 c d e f g h i j) A T R E)) = (
(((ilt (Int.ofNat k) (Int.ofNat n)) = (true)) → ((false) = (false)) ∧
 (((ilt (Int.ofNat k) (Int.ofNat n)) = (true)) ∧
  ((∃ l, (ldF (cfgL a 2 c d e f g h i j) A (L8 l0 l1 l2 l3 l4 l5 l6 l7) k) = (some (V.agg 6 l Ev.T.leaf)) ∧ LK.shape [LK.int IntKind.i64, LK.int IntKind.i64, LK.int IntKind.i64, LK.int IntKind.i64, LK.int IntKind.i64, LK.str] l) ∧
   (∀ y0 : Int, ∀ y1 : Int, ∀ y2 : Int, ∀ y3 : Int, ∀ y4 : Int, ∀ y5 : List UInt8, ((ldF (cfgL a 2 c d e f g h i j) A (L8 l0 l1 l2 l3 l4 l5 l6 l7) k) = (some
  (V.agg 6
    ([] ++ [V.int IntKind.i64 y0] ++ [V.int IntKind.i64 y1] ++ [V.int IntKind.i64 y2] ++ [V.int IntKind.i64 y3] ++
        [V.int IntKind.i64 y4] ++
      [V.str y5])
    Ev.T.leaf))) → ((!BT.clsB (some 6) (Int.ofNat 2) i { kind := y0, m := y1, a := y2, b := y3, c := y4, t := y5 }) = (false)) ∧
    ((((True) ∧
       ((True) ∧
        ((Int.ofNat 2) = (Int.ofNat 2)))) ∧
      (True)) ∧
     ((((!ilt (wr IntKind.i64 ((Int.ofNat k).add (Int.ofNat 1))) w) = (true)) → (((!ilt (wr IntKind.i64 ((wr IntKind.i64 ((Int.ofNat k).add (Int.ofNat 1))).sub w))
    (match
      ilt
        (match
          ilt l7
            (match
              ilt (wr IntKind.i64 ((Int.ofNat k).add (Int.ofNat 1)))
                (match ilt l5 l4 with
                | true => l5
                | false => l4) with
            | true => wr IntKind.i64 ((Int.ofNat k).add 1)
            | false =>
              match ilt l5 l4 with
              | true => l5
              | false => l4) with
        | true => l7
        | false =>
          match
            ilt (wr IntKind.i64 ((Int.ofNat k).add 1))
              (match ilt l5 l4 with
              | true => l5
              | false => l4) with
          | true => wr IntKind.i64 ((Int.ofNat k).add 1)
          | false =>
            match ilt l5 l4 with
            | true => l5
            | false => l4)
        (match ilt l1 l0 with
        | true => l1
        | false => l0) with
    | true =>
      match
        ilt l7
          (match
            ilt (wr IntKind.i64 ((Int.ofNat k).add 1))
              (match ilt l5 l4 with
              | true => l5
              | false => l4) with
          | true => wr IntKind.i64 ((Int.ofNat k).add 1)
          | false =>
            match ilt l5 l4 with
            | true => l5
            | false => l4) with
      | true => l7
      | false =>
        match
          ilt (wr IntKind.i64 ((Int.ofNat k).add 1))
            (match ilt l5 l4 with
            | true => l5
            | false => l4) with
        | true => wr IntKind.i64 ((Int.ofNat k).add 1)
        | false =>
          match ilt l5 l4 with
          | true => l5
          | false => l4
    | false =>
      match ilt l1 l0 with
      | true => l1
      | false => l0)) = (true)) → (R (V.tuple [V.bool false, V.int IntKind.i64 (Int.ofNat 0)]))) ∧
       (((!ilt (wr IntKind.i64 ((wr IntKind.i64 ((Int.ofNat k).add (Int.ofNat 1))).sub w))
    (match
      ilt
        (match
          ilt l7
            (match
              ilt (wr IntKind.i64 ((Int.ofNat k).add (Int.ofNat 1)))
                (match ilt l5 l4 with
                | true => l5
                | false => l4) with
            | true => wr IntKind.i64 ((Int.ofNat k).add 1)
            | false =>
              match ilt l5 l4 with
              | true => l5
              | false => l4) with
        | true => l7
        | false =>
          match
            ilt (wr IntKind.i64 ((Int.ofNat k).add 1))
              (match ilt l5 l4 with
              | true => l5
              | false => l4) with
          | true => wr IntKind.i64 ((Int.ofNat k).add 1)
          | false =>
            match ilt l5 l4 with
            | true => l5
            | false => l4)
        (match ilt l1 l0 with
        | true => l1
        | false => l0) with
    | true =>
      match
        ilt l7
          (match
            ilt (wr IntKind.i64 ((Int.ofNat k).add 1))
              (match ilt l5 l4 with
              | true => l5
              | false => l4) with
          | true => wr IntKind.i64 ((Int.ofNat k).add 1)
          | false =>
            match ilt l5 l4 with
            | true => l5
            | false => l4) with
      | true => l7
      | false =>
        match
          ilt (wr IntKind.i64 ((Int.ofNat k).add 1))
            (match ilt l5 l4 with
            | true => l5
            | false => l4) with
        | true => wr IntKind.i64 ((Int.ofNat k).add 1)
        | false =>
          match ilt l5 l4 with
          | true => l5
          | false => l4
    | false =>
      match ilt l1 l0 with
      | true => l1
      | false => l0)) = (false)) → ((T
  (some
    [V.int IntKind.i64 l0, V.int IntKind.i64 l1, V.int IntKind.i64 l2, V.int IntKind.i64 l3, V.int IntKind.i64 l4,
      V.int IntKind.i64 l5, V.int IntKind.i64 (wr IntKind.i64 ((Int.ofNat k).add (Int.ofNat 1))), V.int IntKind.i64 l7]))) ∧
        (((((some (V.int IntKind.i64 w)) = (some (V.int IntKind.i64 w))) ∧
           (((some (V.ptr 1010 0)) = (some (V.ptr 1010 0))) ∧
            (((some (V.ptr 1012 0)) = (some (V.ptr 1012 0))) ∧
             (((some (V.slice 1003 0 n cc)) = (some (V.slice 1003 0 n cc))) ∧
              (((some (V.int IntKind.i64 (Int.ofNat n))) = (some (V.int IntKind.i64 (Int.ofNat n)))) ∧
               (((some (V.int IntKind.i64 (wr IntKind.i64 ((Int.ofNat k).add (Int.ofNat 1))))) = (some (V.int IntKind.i64 (wr IntKind.i64 ((Int.ofNat k).add (Int.ofNat 1)))))) ∧
                (True))))))) ∧
          (((67) = (67)) ∧
           ((true) = (true)))) ∧
         (((some
  (O.cells (some 26) 10
    [V.int IntKind.i64 a, V.int IntKind.i64 (Int.ofNat 2), V.int IntKind.i64 c, V.int IntKind.i64 d,
      V.int IntKind.i64 e, V.int IntKind.i64 f, V.int IntKind.i64 g, V.int IntKind.i64 h, V.int IntKind.i64 i,
      V.int IntKind.u32 j]
    Ev.T.leaf)) = (some
  (O.cells (some 26) 10
    [V.int IntKind.i64 a, V.int IntKind.i64 (Int.ofNat 2), V.int IntKind.i64 c, V.int IntKind.i64 d,
      V.int IntKind.i64 e, V.int IntKind.i64 f, V.int IntKind.i64 g, V.int IntKind.i64 h, V.int IntKind.i64 i,
      V.int IntKind.u32 j]
    Ev.T.leaf))) ∧
          ((some (O.ro none A.length A Ev.T.leaf)) = (some (O.ro none A.length A Ev.T.leaf))))))) ∧
      (((!ilt (wr IntKind.i64 ((Int.ofNat k).add (Int.ofNat 1))) w) = (false)) → ((T
  (some
    [V.int IntKind.i64 l0, V.int IntKind.i64 l1, V.int IntKind.i64 l2, V.int IntKind.i64 l3, V.int IntKind.i64 l4,
      V.int IntKind.i64 l5, V.int IntKind.i64 (wr IntKind.i64 ((Int.ofNat k).add (Int.ofNat 1))), V.int IntKind.i64 l7]))) ∧
       (((((some (V.int IntKind.i64 w)) = (some (V.int IntKind.i64 w))) ∧
          (((some (V.ptr 1010 0)) = (some (V.ptr 1010 0))) ∧
           (((some (V.ptr 1012 0)) = (some (V.ptr 1012 0))) ∧
            (((some (V.slice 1003 0 n cc)) = (some (V.slice 1003 0 n cc))) ∧
             (((some (V.int IntKind.i64 (Int.ofNat n))) = (some (V.int IntKind.i64 (Int.ofNat n)))) ∧
              (((some (V.int IntKind.i64 (wr IntKind.i64 ((Int.ofNat k).add (Int.ofNat 1))))) = (some (V.int IntKind.i64 (wr IntKind.i64 ((Int.ofNat k).add (Int.ofNat 1)))))) ∧
               (True))))))) ∧
         (((67) = (67)) ∧
          ((true) = (true)))) ∧
        (((some
  (O.cells (some 26) 10
    [V.int IntKind.i64 a, V.int IntKind.i64 (Int.ofNat 2), V.int IntKind.i64 c, V.int IntKind.i64 d,
      V.int IntKind.i64 e, V.int IntKind.i64 f, V.int IntKind.i64 g, V.int IntKind.i64 h, V.int IntKind.i64 i,
      V.int IntKind.u32 j]
    Ev.T.leaf)) = (some
  (O.cells (some 26) 10
    [V.int IntKind.i64 a, V.int IntKind.i64 (Int.ofNat 2), V.int IntKind.i64 c, V.int IntKind.i64 d,
      V.int IntKind.i64 e, V.int IntKind.i64 f, V.int IntKind.i64 g, V.int IntKind.i64 h, V.int IntKind.i64 i,
      V.int IntKind.u32 j]
    Ev.T.leaf))) ∧
         ((some (O.ro none A.length A Ev.T.leaf)) = (some (O.ro none A.length A Ev.T.leaf)))))))))))) ∧
(((ilt (Int.ofNat k) (Int.ofNat n)) = (false)) → ((E)) ∧
 (((true) = (true)) ∧
  ((((some (V.int IntKind.i64 w)) = (some (V.int IntKind.i64 w))) ∧
    (True)) ∧
   (((67) = (67)) ∧
    ((true) = (true))))))) := by kernel_rfl
theorem r2_7 (a c d e f g h i j w : Int) (n : Nat) (cc : Cap) (A : List V) (k : Nat) (l0 l1 l2 l3 l4 l5 l6 l7 : Int) (T : Option (List V) → Prop) (R : V → Prop) (E : Prop) : (evW (GF (some 7)) (sp (some 7)) 60 bd none iFair (S (inv n cc w (Int.ofNat k)) (hL (cfgL a 2 c d e f g h i j) A (L8 l0 l1 l2 l3 l4 l5 l6 l7))) (K7 n cc w (Int.ofNat k) (cfgL a 2 c d e f g h i j) A T R E)) = (
(((ilt (Int.ofNat k) (Int.ofNat n)) = (true)) → ((false) = (false)) ∧
 (((ilt (Int.ofNat k) (Int.ofNat n)) = (true)) ∧
  ((∃ l, (ldF (cfgL a 2 c d e f g h i j) A (L8 l0 l1 l2 l3 l4 l5 l6 l7) k) = (some (V.agg 6 l Ev.T.leaf)) ∧ LK.shape [LK.int IntKind.i64, LK.int IntKind.i64, LK.int IntKind.i64, LK.int IntKind.i64, LK.int IntKind.i64, LK.str] l) ∧
   (∀ y0 : Int, ∀ y1 : Int, ∀ y2 : Int, ∀ y3 : Int, ∀ y4 : Int, ∀ y5 : List UInt8, ((ldF (cfgL a 2 c d e f g h i j) A (L8 l0 l1 l2 l3 l4 l5 l6 l7) k) = (some
  (V.agg 6
    ([] ++ [V.int IntKind.i64 y0] ++ [V.int IntKind.i64 y1] ++ [V.int IntKind.i64 y2] ++ [V.int IntKind.i64 y3] ++
        [V.int IntKind.i64 y4] ++
      [V.str y5])
    Ev.T.leaf))) → ((!BT.clsB (some 7) (Int.ofNat 2) i { kind := y0, m := y1, a := y2, b := y3, c := y4, t := y5 }) = (false)) ∧
    ((((True) ∧
       ((True) ∧
        ((Int.ofNat 2) = (Int.ofNat 2)))) ∧
      (True)) ∧
     ((((!ilt (wr IntKind.i64 ((Int.ofNat k).add (Int.ofNat 1))) w) = (true)) → (((!ilt (wr IntKind.i64 ((wr IntKind.i64 ((Int.ofNat k).add (Int.ofNat 1))).sub w))
    (match
      ilt
        (match
          ilt (wr IntKind.i64 ((Int.ofNat k).add (Int.ofNat 1)))
            (match
              ilt l6
                (match ilt l5 l4 with
                | true => l5
                | false => l4) with
            | true => l6
            | false =>
              match ilt l5 l4 with
              | true => l5
              | false => l4) with
        | true => wr IntKind.i64 ((Int.ofNat k).add 1)
        | false =>
          match
            ilt l6
              (match ilt l5 l4 with
              | true => l5
              | false => l4) with
          | true => l6
          | false =>
            match ilt l5 l4 with
            | true => l5
            | false => l4)
        (match ilt l1 l0 with
        | true => l1
        | false => l0) with
    | true =>
      match
        ilt (wr IntKind.i64 ((Int.ofNat k).add 1))
          (match
            ilt l6
              (match ilt l5 l4 with
              | true => l5
              | false => l4) with
          | true => l6
          | false =>
            match ilt l5 l4 with
            | true => l5
            | false => l4) with
      | true => wr IntKind.i64 ((Int.ofNat k).add 1)
      | false =>
        match
          ilt l6
            (match ilt l5 l4 with
            | true => l5
            | false => l4) with
        | true => l6
        | false =>
          match ilt l5 l4 with
          | true => l5
          | false => l4
    | false =>
      match ilt l1 l0 with
      | true => l1
      | false => l0)) = (true)) → (R (V.tuple [V.bool false, V.int IntKind.i64 (Int.ofNat 0)]))) ∧
       (((!ilt (wr IntKind.i64 ((wr IntKind.i64 ((Int.ofNat k).add (Int.ofNat 1))).sub w))
    (match
      ilt
        (match
          ilt (wr IntKind.i64 ((Int.ofNat k).add (Int.ofNat 1)))
            (match
              ilt l6
                (match ilt l5 l4 with
                | true => l5
                | false => l4) with
            | true => l6
            | false =>
              match ilt l5 l4 with
              | true => l5
              | false => l4) with
        | true => wr IntKind.i64 ((Int.ofNat k).add 1)
        | false =>
          match
            ilt l6
              (match ilt l5 l4 with
              | true => l5
              | false => l4) with
          | true => l6
          | false =>
            match ilt l5 l4 with
            | true => l5
            | false => l4)
        (match ilt l1 l0 with
        | true => l1
        | false => l0) with
    | true =>
      match
        ilt (wr IntKind.i64 ((Int.ofNat k).add 1))
          (match
            ilt l6
              (match ilt l5 l4 with
              | true => l5
              | false => l4) with
          | true => l6
          | false =>
            match ilt l5 l4 with
            | true => l5
            | false => l4) with
      | true => wr IntKind.i64 ((Int.ofNat k).add 1)
      | false =>
        match
          ilt l6
            (match ilt l5 l4 with
            | true => l5
            | false => l4) with
        | true => l6
        | false =>
          match ilt l5 l4 with
          | true => l5
          | false => l4
    | false =>
      match ilt l1 l0 with
      | true => l1
      | false => l0)) = (false)) → ((T
  (some
    [V.int IntKind.i64 l0, V.int IntKind.i64 l1, V.int IntKind.i64 l2, V.int IntKind.i64 l3, V.int IntKind.i64 l4,
      V.int IntKind.i64 l5, V.int IntKind.i64 l6, V.int IntKind.i64 (wr IntKind.i64 ((Int.ofNat k).add (Int.ofNat 1)))]))) ∧
        (((((some (V.int IntKind.i64 w)) = (some (V.int IntKind.i64 w))) ∧
           (((some (V.ptr 1010 0)) = (some (V.ptr 1010 0))) ∧
            (((some (V.ptr 1012 0)) = (some (V.ptr 1012 0))) ∧
             (((some (V.slice 1003 0 n cc)) = (some (V.slice 1003 0 n cc))) ∧
              (((some (V.int IntKind.i64 (Int.ofNat n))) = (some (V.int IntKind.i64 (Int.ofNat n)))) ∧
               (((some (V.int IntKind.i64 (wr IntKind.i64 ((Int.ofNat k).add (Int.ofNat 1))))) = (some (V.int IntKind.i64 (wr IntKind.i64 ((Int.ofNat k).add (Int.ofNat 1)))))) ∧
                (True))))))) ∧
          (((67) = (67)) ∧
           ((true) = (true)))) ∧
         (((some
  (O.cells (some 26) 10
    [V.int IntKind.i64 a, V.int IntKind.i64 (Int.ofNat 2), V.int IntKind.i64 c, V.int IntKind.i64 d,
      V.int IntKind.i64 e, V.int IntKind.i64 f, V.int IntKind.i64 g, V.int IntKind.i64 h, V.int IntKind.i64 i,
      V.int IntKind.u32 j]
    Ev.T.leaf)) = (some
  (O.cells (some 26) 10
    [V.int IntKind.i64 a, V.int IntKind.i64 (Int.ofNat 2), V.int IntKind.i64 c, V.int IntKind.i64 d,
      V.int IntKind.i64 e, V.int IntKind.i64 f, V.int IntKind.i64 g, V.int IntKind.i64 h, V.int IntKind.i64 i,
      V.int IntKind.u32 j]
    Ev.T.leaf))) ∧
          ((some (O.ro none A.length A Ev.T.leaf)) = (some (O.ro none A.length A Ev.T.leaf))))))) ∧
      (((!ilt (wr IntKind.i64 ((Int.ofNat k).add (Int.ofNat 1))) w) = (false)) → ((T
  (some
    [V.int IntKind.i64 l0, V.int IntKind.i64 l1, V.int IntKind.i64 l2, V.int IntKind.i64 l3, V.int IntKind.i64 l4,
      V.int IntKind.i64 l5, V.int IntKind.i64 l6, V.int IntKind.i64 (wr IntKind.i64 ((Int.ofNat k).add (Int.ofNat 1)))]))) ∧
       (((((some (V.int IntKind.i64 w)) = (some (V.int IntKind.i64 w))) ∧
          (((some (V.ptr 1010 0)) = (some (V.ptr 1010 0))) ∧
           (((some (V.ptr 1012 0)) = (some (V.ptr 1012 0))) ∧
            (((some (V.slice 1003 0 n cc)) = (some (V.slice 1003 0 n cc))) ∧
             (((some (V.int IntKind.i64 (Int.ofNat n))) = (some (V.int IntKind.i64 (Int.ofNat n)))) ∧
              (((some (V.int IntKind.i64 (wr IntKind.i64 ((Int.ofNat k).add (Int.ofNat 1))))) = (some (V.int IntKind.i64 (wr IntKind.i64 ((Int.ofNat k).add (Int.ofNat 1)))))) ∧
               (True))))))) ∧
         (((67) = (67)) ∧
          ((true) = (true)))) ∧
        (((some
  (O.cells (some 26) 10
    [V.int IntKind.i64 a, V.int IntKind.i64 (Int.ofNat 2), V.int IntKind.i64 c, V.int IntKind.i64 d,
      V.int IntKind.i64 e, V.int IntKind.i64 f, V.int IntKind.i64 g, V.int IntKind.i64 h, V.int IntKind.i64 i,
      V.int IntKind.u32 j]
    Ev.T.leaf)) = (some
  (O.cells (some 26) 10
    [V.int IntKind.i64 a, V.int IntKind.i64 (Int.ofNat 2), V.int IntKind.i64 c, V.int IntKind.i64 d,
      V.int IntKind.i64 e, V.int IntKind.i64 f, V.int IntKind.i64 g, V.int IntKind.i64 h, V.int IntKind.i64 i,
      V.int IntKind.u32 j]
    Ev.T.leaf))) ∧
         ((some (O.ro none A.length A Ev.T.leaf)) = (some (O.ro none A.length A Ev.T.leaf)))))))))))) ∧
(((ilt (Int.ofNat k) (Int.ofNat n)) = (false)) → ((E)) ∧
 (((true) = (true)) ∧
  ((((some (V.int IntKind.i64 w)) = (some (V.int IntKind.i64 w))) ∧
    (True)) ∧
   (((67) = (67)) ∧
    ((true) = (true))))))) := by kernel_rfl
theorem w9 (w : Int) (h : H) : (evW (GF none) (sp none) 60 x5 none iFair (S [(2, .int .i64 w)] h) (fun x st => match x with | .ret => retIs (fun v => v = .tuple [.bool true, .int .i64 (Int.ofNat 0)]) st | _ => False)) = (
(V.tuple [V.bool true, V.int IntKind.i64 (Int.ofNat 0)]) = (V.tuple [V.bool true, V.int IntKind.i64 (Int.ofNat 0)])) := by kernel_rfl
end FR
end Go.Proofs.YtcbggkejlhifpaaGreatDoor

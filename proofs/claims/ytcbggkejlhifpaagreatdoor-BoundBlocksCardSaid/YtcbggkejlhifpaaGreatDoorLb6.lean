/- BoundBlocks: what is behind the script: its code, part by part. -/
import Derived.Test.YtcbggkejlhifpaaGreatDoorCl2
namespace Go.Proofs.YtcbggkejlhifpaaGreatDoor
set_option maxRecDepth 100000
set_option maxHeartbeats 4000000
open Go.Ev Go.RowKit
namespace LB
theorem q14b : x14 = nest [y14, r16] x17 := by kernel_rfl
theorem q17 : x17 = .seq r17 x18 := by kernel_rfl
theorem ok14b : [y14, r16].all okC = true := by kernel_rfl
theorem ok17 : okC r17 = true := by kernel_rfl
noncomputable def sp2 : SpF where
  at' := fun f t => match Nat.beq f iBlocks, t with
    | true, 92 => .idx | true, 94 => .ldI .i64 | true, 95 => .both | true, 99 => .idx | true, 101 => .ldI .i64 | true, 110 => .idx | true, 121 => .is true | _, _ => .keep
abbrev cT2 : CallK := callTW GL sp2.kx sp2.must (evW GL sp2 60)
abbrev ii (x : Int) : V := .int .i64 x
noncomputable abbrev st12 (r : V) (w : Int) (l : V) (t q : Nat) : List (Nat × V) := [(11, r), (10, ii w)] ++ hd l t q
noncomputable abbrev st13 (A : Bool) (r : V) (w : Int) (l : V) (t q : Nat) : List (Nat × V) := [(14, .bool A), (15, z0)] ++ st12 r w l t q
noncomputable abbrev st14 (A B : Bool) (r : V) (w : Int) (l : V) (t q : Nat) : List (Nat × V) := [(16, .bool B), (17, z0)] ++ st13 A r w l t q
noncomputable abbrev st17 (k : Int) (r : V) (w : Int) (l : V) (t q : Nat) : List (Nat × V) := [(18, ii k)] ++ st12 r w l t q
noncomputable abbrev st18 (N : Bool) (k : Int) (r : V) (w : Int) (l : V) (t q : Nat) : List (Nat × V) := [(19, .bool N)] ++ st17 k r w l t q
/-- is an operation of this kind needed -/
noncomputable def need (y : Int) : Bool := match ieq y (Int.ofNat 7) with
  | true => true
  | false => ilt (Int.ofNat 12) y
noncomputable def KQ (l : List (Nat × V)) (T : Option V → Prop) (h : H) (x : X) (st : St) : Prop := match x with
  | .normal => T (st.env.tr.get 19) ∧ hasS l st ∧ eqH st.h h
  | _ => False
abbrev useV : V := .agg 6 [z0, z0, z0, z0, z0, .str []] (.node .leaf (some (ii (Int.ofNat 10))) .leaf)
noncomputable def retB (st : St) : Prop := match takeAll st.defs st.h with
  | some h2 => match resultsO G0 h2 st.env fn with
    | some v => v = .bool true
    | .none => False
  | .none => False
/-- the kind of an operation -/
noncomputable def ldP (t : T O) (k : Nat) : Option V := rLoad (G0.ty tInt) ⟨t, 1010⟩ (some (.ptr 1003 (Nat.add (Nat.add 0 (Nat.mul k 6)) 0)))
theorem w12a (a b c d e f g h i j : Int) (o : Option O) (R : List V) (l r : V) (t q : Nat) (w : Int) : (regW GL sp2 cT2 iBlocks (cOps r12) (opsPart (cOps r12) 0 3) (envL 129 (st12 r w l t q)) ⟨tR o (cfgL a b c d e f g h i j) R, 1010⟩ (KE ([(53, cfgV a b c d e f g h i j), (54, r), (55, ii w)] ++ st12 r w l t q) ⟨tR o (cfgL a b c d e f g h i j) R, 1010⟩)) = (
(((some
  (V.agg 10
    [V.int IntKind.i64 a, V.int IntKind.i64 b, V.int IntKind.i64 c, V.int IntKind.i64 d, V.int IntKind.i64 e,
      V.int IntKind.i64 f, V.int IntKind.i64 g, V.int IntKind.i64 h, V.int IntKind.i64 i, V.int IntKind.u32 j]
    T.leaf)) = (some
  (V.agg 10
    [V.int IntKind.i64 a, V.int IntKind.i64 b, V.int IntKind.i64 c, V.int IntKind.i64 d, V.int IntKind.i64 e,
      V.int IntKind.i64 f, V.int IntKind.i64 g, V.int IntKind.i64 h, V.int IntKind.i64 i, V.int IntKind.u32 j]
    T.leaf))) ∧
 (((some r) = (some r)) ∧
  (((some (V.int IntKind.i64 w)) = (some (V.int IntKind.i64 w))) ∧
   (((some r) = (some r)) ∧
    (((some (V.int IntKind.i64 w)) = (some (V.int IntKind.i64 w))) ∧
     (((some l) = (some l)) ∧
      (((some (V.int IntKind.u8 (Int.ofNat t))) = (some (V.int IntKind.u8 (Int.ofNat t)))) ∧
       (((some (V.int IntKind.u8 (Int.ofNat q))) = (some (V.int IntKind.u8 (Int.ofNat q)))) ∧
        (((some (V.ptr 1002 0)) = (some (V.ptr 1002 0))) ∧
         (True)))))))))) ∧
(((129) = (129)) ∧
 (((((T.leaf.node none
          (T.leaf.node none
            ((T.leaf.node none
                  (T.leaf.node none
                    (T.leaf.node none
                      (T.leaf.node none (T.leaf.node (some (O.cells (some 36) R.length R T.leaf)) T.leaf))))).node
              none T.leaf))).node
      none T.leaf).node
  (some
    (O.ro (some 0) 4
      [V.int IntKind.u8 (Int.ofNat 0), V.int IntKind.u8 (Int.ofNat 111), V.int IntKind.u8 (Int.ofNat 108),
        V.int IntKind.u8 (Int.ofNat 102)]
      T.leaf))
  (((T.leaf.node none
            ((T.leaf.node none (T.leaf.node none (T.leaf.node none (T.leaf.node none (T.leaf.node o T.leaf))))).node
              none T.leaf)).node
        none T.leaf).node
    none
    ((T.leaf.node none
          ((T.leaf.node none
                (T.leaf.node none
                  (T.leaf.node none
                    (T.leaf.node none
                      (T.leaf.node
                        (some
                          (O.cells (some 26) 10
                            [V.int IntKind.i64 a, V.int IntKind.i64 b, V.int IntKind.i64 c, V.int IntKind.i64 d,
                              V.int IntKind.i64 e, V.int IntKind.i64 f, V.int IntKind.i64 g, V.int IntKind.i64 h,
                              V.int IntKind.i64 i, V.int IntKind.u32 j]
                            T.leaf))
                        T.leaf))))).node
            none T.leaf)).node
      none T.leaf))) = (((T.leaf.node none
          (T.leaf.node none
            ((T.leaf.node none
                  (T.leaf.node none
                    (T.leaf.node none
                      (T.leaf.node none (T.leaf.node (some (O.cells (some 36) R.length R T.leaf)) T.leaf))))).node
              none T.leaf))).node
      none T.leaf).node
  (some
    (O.ro (some 0) 4
      [V.int IntKind.u8 (Int.ofNat 0), V.int IntKind.u8 (Int.ofNat 111), V.int IntKind.u8 (Int.ofNat 108),
        V.int IntKind.u8 (Int.ofNat 102)]
      T.leaf))
  (((T.leaf.node none
            ((T.leaf.node none (T.leaf.node none (T.leaf.node none (T.leaf.node none (T.leaf.node o T.leaf))))).node
              none T.leaf)).node
        none T.leaf).node
    none
    ((T.leaf.node none
          ((T.leaf.node none
                (T.leaf.node none
                  (T.leaf.node none
                    (T.leaf.node none
                      (T.leaf.node
                        (some
                          (O.cells (some 26) 10
                            [V.int IntKind.i64 a, V.int IntKind.i64 b, V.int IntKind.i64 c, V.int IntKind.i64 d,
                              V.int IntKind.i64 e, V.int IntKind.i64 f, V.int IntKind.i64 g, V.int IntKind.i64 h,
                              V.int IntKind.i64 i, V.int IntKind.u32 j]
                            T.leaf))
                        T.leaf))))).node
            none T.leaf)).node
      none T.leaf)))) ∧
  ((1010) = (1010))))) := by kernel_rfl
theorem w12b (A : Bool) (l r : V) (t q : Nat) (w : Int) (h : H) : (regW GL sp2 cT2 iBlocks (cOps r12) (opsPart (cOps r12) 4 5) (envL 129 ([(56, .tuple [.bool A, z0])] ++ st12 r w l t q)) h (KH (st13 A r w l t q) h)) = (
(((some (V.bool A)) = (some (V.bool A))) ∧
 (((some (V.int IntKind.i64 (Int.ofNat 0))) = (some (V.int IntKind.i64 (Int.ofNat 0)))) ∧
  (((some r) = (some r)) ∧
   (((some (V.int IntKind.i64 w)) = (some (V.int IntKind.i64 w))) ∧
    (((some l) = (some l)) ∧
     (((some (V.int IntKind.u8 (Int.ofNat t))) = (some (V.int IntKind.u8 (Int.ofNat t)))) ∧
      (((some (V.int IntKind.u8 (Int.ofNat q))) = (some (V.int IntKind.u8 (Int.ofNat q)))) ∧
       (((some (V.ptr 1002 0)) = (some (V.ptr 1002 0))) ∧
        (True))))))))) ∧
(((129) = (129)) ∧
 ((h) = (h)))) := by kernel_rfl
theorem w13a (a b c d e f g h i j : Int) (o : Option O) (R : List V) (A : Bool) (l r : V) (t q : Nat) (w : Int) : (regW GL sp2 cT2 iBlocks (cOps r13) (opsPart (cOps r13) 0 7) (envL 129 (st13 A r w l t q)) ⟨tR o (cfgL a b c d e f g h i j) R, 1010⟩ (KE ([(60, cfgV a b c d e f g h i j), (61, r), (66, ii (wr .i64 (Int.add (wr .i64 (Int.add w (Int.ofNat 1))) (wr .i64 (Int.ofNat q)))))] ++ st13 A r w l t q) ⟨tR o (cfgL a b c d e f g h i j) R, 1010⟩)) = (
(((some
  (V.agg 10
    [V.int IntKind.i64 a, V.int IntKind.i64 b, V.int IntKind.i64 c, V.int IntKind.i64 d, V.int IntKind.i64 e,
      V.int IntKind.i64 f, V.int IntKind.i64 g, V.int IntKind.i64 h, V.int IntKind.i64 i, V.int IntKind.u32 j]
    T.leaf)) = (some
  (V.agg 10
    [V.int IntKind.i64 a, V.int IntKind.i64 b, V.int IntKind.i64 c, V.int IntKind.i64 d, V.int IntKind.i64 e,
      V.int IntKind.i64 f, V.int IntKind.i64 g, V.int IntKind.i64 h, V.int IntKind.i64 i, V.int IntKind.u32 j]
    T.leaf))) ∧
 (((some r) = (some r)) ∧
  (((some (V.int IntKind.i64 (wr IntKind.i64 ((wr IntKind.i64 (w.add (Int.ofNat 1))).add (wr IntKind.i64 (Int.ofNat q)))))) = (some (V.int IntKind.i64 (wr IntKind.i64 ((wr IntKind.i64 (w.add (Int.ofNat 1))).add (wr IntKind.i64 (Int.ofNat q))))))) ∧
   (((some (V.bool A)) = (some (V.bool A))) ∧
    (((some (V.int IntKind.i64 (Int.ofNat 0))) = (some (V.int IntKind.i64 (Int.ofNat 0)))) ∧
     (((some r) = (some r)) ∧
      (((some (V.int IntKind.i64 w)) = (some (V.int IntKind.i64 w))) ∧
       (((some l) = (some l)) ∧
        (((some (V.int IntKind.u8 (Int.ofNat t))) = (some (V.int IntKind.u8 (Int.ofNat t)))) ∧
         (((some (V.int IntKind.u8 (Int.ofNat q))) = (some (V.int IntKind.u8 (Int.ofNat q)))) ∧
          (((some (V.ptr 1002 0)) = (some (V.ptr 1002 0))) ∧
           (True)))))))))))) ∧
(((129) = (129)) ∧
 (((((T.leaf.node none
          (T.leaf.node none
            ((T.leaf.node none
                  (T.leaf.node none
                    (T.leaf.node none
                      (T.leaf.node none (T.leaf.node (some (O.cells (some 36) R.length R T.leaf)) T.leaf))))).node
              none T.leaf))).node
      none T.leaf).node
  (some
    (O.ro (some 0) 4
      [V.int IntKind.u8 (Int.ofNat 0), V.int IntKind.u8 (Int.ofNat 111), V.int IntKind.u8 (Int.ofNat 108),
        V.int IntKind.u8 (Int.ofNat 102)]
      T.leaf))
  (((T.leaf.node none
            ((T.leaf.node none (T.leaf.node none (T.leaf.node none (T.leaf.node none (T.leaf.node o T.leaf))))).node
              none T.leaf)).node
        none T.leaf).node
    none
    ((T.leaf.node none
          ((T.leaf.node none
                (T.leaf.node none
                  (T.leaf.node none
                    (T.leaf.node none
                      (T.leaf.node
                        (some
                          (O.cells (some 26) 10
                            [V.int IntKind.i64 a, V.int IntKind.i64 b, V.int IntKind.i64 c, V.int IntKind.i64 d,
                              V.int IntKind.i64 e, V.int IntKind.i64 f, V.int IntKind.i64 g, V.int IntKind.i64 h,
                              V.int IntKind.i64 i, V.int IntKind.u32 j]
                            T.leaf))
                        T.leaf))))).node
            none T.leaf)).node
      none T.leaf))) = (((T.leaf.node none
          (T.leaf.node none
            ((T.leaf.node none
                  (T.leaf.node none
                    (T.leaf.node none
                      (T.leaf.node none (T.leaf.node (some (O.cells (some 36) R.length R T.leaf)) T.leaf))))).node
              none T.leaf))).node
      none T.leaf).node
  (some
    (O.ro (some 0) 4
      [V.int IntKind.u8 (Int.ofNat 0), V.int IntKind.u8 (Int.ofNat 111), V.int IntKind.u8 (Int.ofNat 108),
        V.int IntKind.u8 (Int.ofNat 102)]
      T.leaf))
  (((T.leaf.node none
            ((T.leaf.node none (T.leaf.node none (T.leaf.node none (T.leaf.node none (T.leaf.node o T.leaf))))).node
              none T.leaf)).node
        none T.leaf).node
    none
    ((T.leaf.node none
          ((T.leaf.node none
                (T.leaf.node none
                  (T.leaf.node none
                    (T.leaf.node none
                      (T.leaf.node
                        (some
                          (O.cells (some 26) 10
                            [V.int IntKind.i64 a, V.int IntKind.i64 b, V.int IntKind.i64 c, V.int IntKind.i64 d,
                              V.int IntKind.i64 e, V.int IntKind.i64 f, V.int IntKind.i64 g, V.int IntKind.i64 h,
                              V.int IntKind.i64 i, V.int IntKind.u32 j]
                            T.leaf))
                        T.leaf))))).node
            none T.leaf)).node
      none T.leaf)))) ∧
  ((1010) = (1010))))) := by kernel_rfl
theorem w13b (A B : Bool) (l r : V) (t q : Nat) (w : Int) (h : H) : (regW GL sp2 cT2 iBlocks (cOps r13) (opsPart (cOps r13) 8 5) (envL 129 ([(67, .tuple [.bool B, z0])] ++ st13 A r w l t q)) h (KH (st14 A B r w l t q) h)) = (
(((some (V.bool B)) = (some (V.bool B))) ∧
 (((some (V.int IntKind.i64 (Int.ofNat 0))) = (some (V.int IntKind.i64 (Int.ofNat 0)))) ∧
  (((some (V.bool A)) = (some (V.bool A))) ∧
   (((some (V.int IntKind.i64 (Int.ofNat 0))) = (some (V.int IntKind.i64 (Int.ofNat 0)))) ∧
    (((some r) = (some r)) ∧
     (((some (V.int IntKind.i64 w)) = (some (V.int IntKind.i64 w))) ∧
      (((some l) = (some l)) ∧
       (((some (V.int IntKind.u8 (Int.ofNat t))) = (some (V.int IntKind.u8 (Int.ofNat t)))) ∧
        (((some (V.int IntKind.u8 (Int.ofNat q))) = (some (V.int IntKind.u8 (Int.ofNat q)))) ∧
         (((some (V.ptr 1002 0)) = (some (V.ptr 1002 0))) ∧
          (True))))))))))) ∧
(((129) = (129)) ∧
 ((h) = (h)))) := by kernel_rfl
theorem w14 (l r : V) (t q w : Nat) (h : H) : (evL GL sp2 60 iBlocks [y14, r16] (KV (st17 (wr .i64 (Int.add (Int.ofNat w) (Int.tmod (wr .i64 (Int.ofNat q)) (Int.ofNat w)))) r (Int.ofNat w) l t q) h) (S (st14 true true r (Int.ofNat w) l t q) h)) = (
((ieq (Int.ofNat w) (Int.ofNat 0)) = (false)) ∧
(((((some (V.int IntKind.i64 (wr IntKind.i64 ((Int.ofNat w).add ((wr IntKind.i64 (Int.ofNat q)).tmod (Int.ofNat w)))))) = (some (V.int IntKind.i64 (wr IntKind.i64 ((Int.ofNat w).add ((wr IntKind.i64 (Int.ofNat q)).tmod (Int.ofNat w))))))) ∧
   (((some r) = (some r)) ∧
    (((some (V.int IntKind.i64 (Int.ofNat w))) = (some (V.int IntKind.i64 (Int.ofNat w)))) ∧
     (((some l) = (some l)) ∧
      (((some (V.int IntKind.u8 (Int.ofNat t))) = (some (V.int IntKind.u8 (Int.ofNat t)))) ∧
       (((some (V.int IntKind.u8 (Int.ofNat q))) = (some (V.int IntKind.u8 (Int.ofNat q)))) ∧
        (((some (V.ptr 1002 0)) = (some (V.ptr 1002 0))) ∧
         (True)))))))) ∧
  (((129) = (129)) ∧
   ((true) = (true)))) ∧
 ((h) = (h)))) := by kernel_rfl
theorem w17 (a b c d e f g h i j : Int) (o : Option O) (R : List V) (n k : Nat) (cc : Cap) (l : V) (t q : Nat) (w : Int) (T : Option V → Prop) : (evW GL sp2 60 r17 none iBlocks (S (st17 (Int.ofNat k) (.slice 1003 0 n cc) w l t q) ⟨tR o (cfgL a b c d e f g h i j) R, 1010⟩) (KQ (st17 (Int.ofNat k) (.slice 1003 0 n cc) w l t q) T ⟨tR o (cfgL a b c d e f g h i j) R, 1010⟩)) = (
((false) = (false)) ∧
(((ilt (Int.ofNat k) (Int.ofNat n)) = (true)) ∧
 ((∃ x, (ldP (tR o (cfgL a b c d e f g h i j) R) k) = (some (V.int IntKind.i64 x))) ∧
  (∀ y0 : Int, ((ldP (tR o (cfgL a b c d e f g h i j) R) k) = (some (V.int IntKind.i64 y0))) → (((!ieq y0 (Int.ofNat 7)) = (true)) → ((false) = (false)) ∧
    (((ilt (Int.ofNat k) (Int.ofNat n)) = (true)) ∧
     ((∃ x, (ldP (tR o (cfgL a b c d e f g h i j) R) k) = (some (V.int IntKind.i64 x))) ∧
      (∀ y1 : Int, ((ldP (tR o (cfgL a b c d e f g h i j) R) k) = (some (V.int IntKind.i64 y1))) → ((T (some (V.bool !!ilt (Int.ofNat 12) y1)))) ∧
       (((((some (V.int IntKind.i64 (Int.ofNat k))) = (some (V.int IntKind.i64 (Int.ofNat k)))) ∧
          (((some (V.slice 1003 0 n cc)) = (some (V.slice 1003 0 n cc))) ∧
           (((some (V.int IntKind.i64 w)) = (some (V.int IntKind.i64 w))) ∧
            (((some l) = (some l)) ∧
             (((some (V.int IntKind.u8 (Int.ofNat t))) = (some (V.int IntKind.u8 (Int.ofNat t)))) ∧
              (((some (V.int IntKind.u8 (Int.ofNat q))) = (some (V.int IntKind.u8 (Int.ofNat q)))) ∧
               (((some (V.ptr 1002 0)) = (some (V.ptr 1002 0))) ∧
                (True)))))))) ∧
         (((129) = (129)) ∧
          ((true) = (true)))) ∧
        (((((Ev.T.leaf.node none
          (Ev.T.leaf.node none
            ((Ev.T.leaf.node none
                  (Ev.T.leaf.node none
                    (Ev.T.leaf.node none
                      (Ev.T.leaf.node none
                        (Ev.T.leaf.node (some (O.cells (some 36) R.length R Ev.T.leaf)) Ev.T.leaf))))).node
              none Ev.T.leaf))).node
      none Ev.T.leaf).node
  (some
    (O.ro (some 0) 4
      [V.int IntKind.u8 (Int.ofNat 0), V.int IntKind.u8 (Int.ofNat 111), V.int IntKind.u8 (Int.ofNat 108),
        V.int IntKind.u8 (Int.ofNat 102)]
      Ev.T.leaf))
  (((Ev.T.leaf.node none
            ((Ev.T.leaf.node none
                  (Ev.T.leaf.node none (Ev.T.leaf.node none (Ev.T.leaf.node none (Ev.T.leaf.node o Ev.T.leaf))))).node
              none Ev.T.leaf)).node
        none Ev.T.leaf).node
    none
    ((Ev.T.leaf.node none
          ((Ev.T.leaf.node none
                (Ev.T.leaf.node none
                  (Ev.T.leaf.node none
                    (Ev.T.leaf.node none
                      (Ev.T.leaf.node
                        (some
                          (O.cells (some 26) 10
                            [V.int IntKind.i64 a, V.int IntKind.i64 b, V.int IntKind.i64 c, V.int IntKind.i64 d,
                              V.int IntKind.i64 e, V.int IntKind.i64 f, V.int IntKind.i64 g, V.int IntKind.i64 h,
                              V.int IntKind.i64 i, V.int IntKind.u32 j]
                            Ev.T.leaf))
                        Ev.T.leaf))))).node
            none Ev.T.leaf)).node
      none Ev.T.leaf))) = (((Ev.T.leaf.node none
          (Ev.T.leaf.node none
            ((Ev.T.leaf.node none
                  (Ev.T.leaf.node none
                    (Ev.T.leaf.node none
                      (Ev.T.leaf.node none
                        (Ev.T.leaf.node (some (O.cells (some 36) R.length R Ev.T.leaf)) Ev.T.leaf))))).node
              none Ev.T.leaf))).node
      none Ev.T.leaf).node
  (some
    (O.ro (some 0) 4
      [V.int IntKind.u8 (Int.ofNat 0), V.int IntKind.u8 (Int.ofNat 111), V.int IntKind.u8 (Int.ofNat 108),
        V.int IntKind.u8 (Int.ofNat 102)]
      Ev.T.leaf))
  (((Ev.T.leaf.node none
            ((Ev.T.leaf.node none
                  (Ev.T.leaf.node none (Ev.T.leaf.node none (Ev.T.leaf.node none (Ev.T.leaf.node o Ev.T.leaf))))).node
              none Ev.T.leaf)).node
        none Ev.T.leaf).node
    none
    ((Ev.T.leaf.node none
          ((Ev.T.leaf.node none
                (Ev.T.leaf.node none
                  (Ev.T.leaf.node none
                    (Ev.T.leaf.node none
                      (Ev.T.leaf.node
                        (some
                          (O.cells (some 26) 10
                            [V.int IntKind.i64 a, V.int IntKind.i64 b, V.int IntKind.i64 c, V.int IntKind.i64 d,
                              V.int IntKind.i64 e, V.int IntKind.i64 f, V.int IntKind.i64 g, V.int IntKind.i64 h,
                              V.int IntKind.i64 i, V.int IntKind.u32 j]
                            Ev.T.leaf))
                        Ev.T.leaf))))).node
            none Ev.T.leaf)).node
      none Ev.T.leaf)))) ∧
         ((1010) = (1010)))))))) ∧
   (((!ieq y0 (Int.ofNat 7)) = (false)) → ((T (some (V.bool true)))) ∧
    (((((some (V.int IntKind.i64 (Int.ofNat k))) = (some (V.int IntKind.i64 (Int.ofNat k)))) ∧
       (((some (V.slice 1003 0 n cc)) = (some (V.slice 1003 0 n cc))) ∧
        (((some (V.int IntKind.i64 w)) = (some (V.int IntKind.i64 w))) ∧
         (((some l) = (some l)) ∧
          (((some (V.int IntKind.u8 (Int.ofNat t))) = (some (V.int IntKind.u8 (Int.ofNat t)))) ∧
           (((some (V.int IntKind.u8 (Int.ofNat q))) = (some (V.int IntKind.u8 (Int.ofNat q)))) ∧
            (((some (V.ptr 1002 0)) = (some (V.ptr 1002 0))) ∧
             (True)))))))) ∧
      (((129) = (129)) ∧
       ((true) = (true)))) ∧
     (((((Ev.T.leaf.node none
          (Ev.T.leaf.node none
            ((Ev.T.leaf.node none
                  (Ev.T.leaf.node none
                    (Ev.T.leaf.node none
                      (Ev.T.leaf.node none
                        (Ev.T.leaf.node (some (O.cells (some 36) R.length R Ev.T.leaf)) Ev.T.leaf))))).node
              none Ev.T.leaf))).node
      none Ev.T.leaf).node
  (some
    (O.ro (some 0) 4
      [V.int IntKind.u8 (Int.ofNat 0), V.int IntKind.u8 (Int.ofNat 111), V.int IntKind.u8 (Int.ofNat 108),
        V.int IntKind.u8 (Int.ofNat 102)]
      Ev.T.leaf))
  (((Ev.T.leaf.node none
            ((Ev.T.leaf.node none
                  (Ev.T.leaf.node none (Ev.T.leaf.node none (Ev.T.leaf.node none (Ev.T.leaf.node o Ev.T.leaf))))).node
              none Ev.T.leaf)).node
        none Ev.T.leaf).node
    none
    ((Ev.T.leaf.node none
          ((Ev.T.leaf.node none
                (Ev.T.leaf.node none
                  (Ev.T.leaf.node none
                    (Ev.T.leaf.node none
                      (Ev.T.leaf.node
                        (some
                          (O.cells (some 26) 10
                            [V.int IntKind.i64 a, V.int IntKind.i64 b, V.int IntKind.i64 c, V.int IntKind.i64 d,
                              V.int IntKind.i64 e, V.int IntKind.i64 f, V.int IntKind.i64 g, V.int IntKind.i64 h,
                              V.int IntKind.i64 i, V.int IntKind.u32 j]
                            Ev.T.leaf))
                        Ev.T.leaf))))).node
            none Ev.T.leaf)).node
      none Ev.T.leaf))) = (((Ev.T.leaf.node none
          (Ev.T.leaf.node none
            ((Ev.T.leaf.node none
                  (Ev.T.leaf.node none
                    (Ev.T.leaf.node none
                      (Ev.T.leaf.node none
                        (Ev.T.leaf.node (some (O.cells (some 36) R.length R Ev.T.leaf)) Ev.T.leaf))))).node
              none Ev.T.leaf))).node
      none Ev.T.leaf).node
  (some
    (O.ro (some 0) 4
      [V.int IntKind.u8 (Int.ofNat 0), V.int IntKind.u8 (Int.ofNat 111), V.int IntKind.u8 (Int.ofNat 108),
        V.int IntKind.u8 (Int.ofNat 102)]
      Ev.T.leaf))
  (((Ev.T.leaf.node none
            ((Ev.T.leaf.node none
                  (Ev.T.leaf.node none (Ev.T.leaf.node none (Ev.T.leaf.node none (Ev.T.leaf.node o Ev.T.leaf))))).node
              none Ev.T.leaf)).node
        none Ev.T.leaf).node
    none
    ((Ev.T.leaf.node none
          ((Ev.T.leaf.node none
                (Ev.T.leaf.node none
                  (Ev.T.leaf.node none
                    (Ev.T.leaf.node none
                      (Ev.T.leaf.node
                        (some
                          (O.cells (some 26) 10
                            [V.int IntKind.i64 a, V.int IntKind.i64 b, V.int IntKind.i64 c, V.int IntKind.i64 d,
                              V.int IntKind.i64 e, V.int IntKind.i64 f, V.int IntKind.i64 g, V.int IntKind.i64 h,
                              V.int IntKind.i64 i, V.int IntKind.u32 j]
                            Ev.T.leaf))
                        Ev.T.leaf))))).node
            none Ev.T.leaf)).node
      none Ev.T.leaf)))) ∧
      ((1010) = (1010))))))))) := by kernel_rfl
theorem w18a (N : Bool) (k : Int) (l r : V) (t q : Nat) (w : Int) (h : H) : (regW GL sp2 cT2 iBlocks (cOps r18) (opsPart (cOps r18) 0 1) (envL 129 (st18 N k r w l t q)) h (KH ([(105, r)] ++ st18 N k r w l t q) h)) = (
(((some r) = (some r)) ∧
 (((some (V.bool N)) = (some (V.bool N))) ∧
  (((some (V.int IntKind.i64 k)) = (some (V.int IntKind.i64 k))) ∧
   (((some r) = (some r)) ∧
    (((some (V.int IntKind.i64 w)) = (some (V.int IntKind.i64 w))) ∧
     (((some l) = (some l)) ∧
      (((some (V.int IntKind.u8 (Int.ofNat t))) = (some (V.int IntKind.u8 (Int.ofNat t)))) ∧
       (((some (V.int IntKind.u8 (Int.ofNat q))) = (some (V.int IntKind.u8 (Int.ofNat q)))) ∧
        (((some (V.ptr 1002 0)) = (some (V.ptr 1002 0))) ∧
         (True)))))))))) ∧
(((129) = (129)) ∧
 ((h) = (h)))) := by kernel_rfl
theorem w18b (N : Bool) (k : Int) (l r r2 : V) (t q : Nat) (w : Int) (h : H) : (regW GL sp2 cT2 iBlocks (cOps r18) (opsPart (cOps r18) 2 1) (envL 129 ([(106, r2)] ++ st18 N k r w l t q)) h (KH ([(20, r2)] ++ st18 N k r w l t q) h)) = (
(((some r2) = (some r2)) ∧
 (((some (V.bool N)) = (some (V.bool N))) ∧
  (((some (V.int IntKind.i64 k)) = (some (V.int IntKind.i64 k))) ∧
   (((some r) = (some r)) ∧
    (((some (V.int IntKind.i64 w)) = (some (V.int IntKind.i64 w))) ∧
     (((some l) = (some l)) ∧
      (((some (V.int IntKind.u8 (Int.ofNat t))) = (some (V.int IntKind.u8 (Int.ofNat t)))) ∧
       (((some (V.int IntKind.u8 (Int.ofNat q))) = (some (V.int IntKind.u8 (Int.ofNat q)))) ∧
        (((some (V.ptr 1002 0)) = (some (V.ptr 1002 0))) ∧
         (True)))))))))) ∧
(((129) = (129)) ∧
 ((h) = (h)))) := by kernel_rfl
theorem w19a (N : Bool) (k n : Nat) (cc : Cap) (l r : V) (t q : Nat) (w : Int) (h : H) : (regW GL sp2 cT2 iBlocks (cOps r19) (opsPart (cOps r19) 0 4) (envL 129 ([(20, .slice 1011 0 n cc)] ++ st18 N (Int.ofNat k) r w l t q)) h (KH ([(110, .ptr 1011 (Nat.add 0 (Nat.mul k 6))), (109, useV), (20, .slice 1011 0 n cc)] ++ st18 N (Int.ofNat k) r w l t q) h)) = (
((false) = (false)) ∧
(((ilt (Int.ofNat k) (Int.ofNat n)) = (true)) ∧
 ((((some (V.ptr 1011 (Nat.add 0 (k.mul 6)))) = (some (V.ptr 1011 (Nat.add 0 (k.mul 6))))) ∧
   (((some
  (V.agg 6
    [V.int IntKind.i64 (Int.ofNat 0), V.int IntKind.i64 (Int.ofNat 0), V.int IntKind.i64 (Int.ofNat 0),
      V.int IntKind.i64 (Int.ofNat 0), V.int IntKind.i64 (Int.ofNat 0), V.str []]
    (T.leaf.node (some (V.int IntKind.i64 (Int.ofNat 10))) T.leaf))) = (some
  (V.agg 6
    [V.int IntKind.i64 (Int.ofNat 0), V.int IntKind.i64 (Int.ofNat 0), V.int IntKind.i64 (Int.ofNat 0),
      V.int IntKind.i64 (Int.ofNat 0), V.int IntKind.i64 (Int.ofNat 0), V.str []]
    (T.leaf.node (some (V.int IntKind.i64 (Int.ofNat 10))) T.leaf)))) ∧
    (((some (V.slice 1011 0 n cc)) = (some (V.slice 1011 0 n cc))) ∧
     (((some (V.bool N)) = (some (V.bool N))) ∧
      (((some (V.int IntKind.i64 (Int.ofNat k))) = (some (V.int IntKind.i64 (Int.ofNat k)))) ∧
       (((some r) = (some r)) ∧
        (((some (V.int IntKind.i64 w)) = (some (V.int IntKind.i64 w))) ∧
         (((some l) = (some l)) ∧
          (((some (V.int IntKind.u8 (Int.ofNat t))) = (some (V.int IntKind.u8 (Int.ofNat t)))) ∧
           (((some (V.int IntKind.u8 (Int.ofNat q))) = (some (V.int IntKind.u8 (Int.ofNat q)))) ∧
            (((some (V.ptr 1002 0)) = (some (V.ptr 1002 0))) ∧
             (True)))))))))))) ∧
  (((129) = (129)) ∧
   ((h) = (h)))))) := by kernel_rfl
theorem w20a (a b c d e f g h i j : Int) (o : Option O) (R : List V) (N : Bool) (l r : V) (t q : Nat) (w : Int) : (regW GL sp2 cT2 iBlocks (cOps r20) (opsPart (cOps r20) 0 3) (envL 129 ([(20, r), (19, .bool N), (10, ii w)] ++ hd l t q)) ⟨tR o (cfgL a b c d e f g h i j) R, 1010⟩ (KE ([(112, cfgV a b c d e f g h i j), (113, r), (114, ii w), (19, .bool N)] ++ hd l t q) ⟨tR o (cfgL a b c d e f g h i j) R, 1010⟩)) = (
(((some
  (V.agg 10
    [V.int IntKind.i64 a, V.int IntKind.i64 b, V.int IntKind.i64 c, V.int IntKind.i64 d, V.int IntKind.i64 e,
      V.int IntKind.i64 f, V.int IntKind.i64 g, V.int IntKind.i64 h, V.int IntKind.i64 i, V.int IntKind.u32 j]
    T.leaf)) = (some
  (V.agg 10
    [V.int IntKind.i64 a, V.int IntKind.i64 b, V.int IntKind.i64 c, V.int IntKind.i64 d, V.int IntKind.i64 e,
      V.int IntKind.i64 f, V.int IntKind.i64 g, V.int IntKind.i64 h, V.int IntKind.i64 i, V.int IntKind.u32 j]
    T.leaf))) ∧
 (((some r) = (some r)) ∧
  (((some (V.int IntKind.i64 w)) = (some (V.int IntKind.i64 w))) ∧
   (((some (V.bool N)) = (some (V.bool N))) ∧
    (((some l) = (some l)) ∧
     (((some (V.int IntKind.u8 (Int.ofNat t))) = (some (V.int IntKind.u8 (Int.ofNat t)))) ∧
      (((some (V.int IntKind.u8 (Int.ofNat q))) = (some (V.int IntKind.u8 (Int.ofNat q)))) ∧
       (((some (V.ptr 1002 0)) = (some (V.ptr 1002 0))) ∧
        (True))))))))) ∧
(((129) = (129)) ∧
 (((((T.leaf.node none
          (T.leaf.node none
            ((T.leaf.node none
                  (T.leaf.node none
                    (T.leaf.node none
                      (T.leaf.node none (T.leaf.node (some (O.cells (some 36) R.length R T.leaf)) T.leaf))))).node
              none T.leaf))).node
      none T.leaf).node
  (some
    (O.ro (some 0) 4
      [V.int IntKind.u8 (Int.ofNat 0), V.int IntKind.u8 (Int.ofNat 111), V.int IntKind.u8 (Int.ofNat 108),
        V.int IntKind.u8 (Int.ofNat 102)]
      T.leaf))
  (((T.leaf.node none
            ((T.leaf.node none (T.leaf.node none (T.leaf.node none (T.leaf.node none (T.leaf.node o T.leaf))))).node
              none T.leaf)).node
        none T.leaf).node
    none
    ((T.leaf.node none
          ((T.leaf.node none
                (T.leaf.node none
                  (T.leaf.node none
                    (T.leaf.node none
                      (T.leaf.node
                        (some
                          (O.cells (some 26) 10
                            [V.int IntKind.i64 a, V.int IntKind.i64 b, V.int IntKind.i64 c, V.int IntKind.i64 d,
                              V.int IntKind.i64 e, V.int IntKind.i64 f, V.int IntKind.i64 g, V.int IntKind.i64 h,
                              V.int IntKind.i64 i, V.int IntKind.u32 j]
                            T.leaf))
                        T.leaf))))).node
            none T.leaf)).node
      none T.leaf))) = (((T.leaf.node none
          (T.leaf.node none
            ((T.leaf.node none
                  (T.leaf.node none
                    (T.leaf.node none
                      (T.leaf.node none (T.leaf.node (some (O.cells (some 36) R.length R T.leaf)) T.leaf))))).node
              none T.leaf))).node
      none T.leaf).node
  (some
    (O.ro (some 0) 4
      [V.int IntKind.u8 (Int.ofNat 0), V.int IntKind.u8 (Int.ofNat 111), V.int IntKind.u8 (Int.ofNat 108),
        V.int IntKind.u8 (Int.ofNat 102)]
      T.leaf))
  (((T.leaf.node none
            ((T.leaf.node none (T.leaf.node none (T.leaf.node none (T.leaf.node none (T.leaf.node o T.leaf))))).node
              none T.leaf)).node
        none T.leaf).node
    none
    ((T.leaf.node none
          ((T.leaf.node none
                (T.leaf.node none
                  (T.leaf.node none
                    (T.leaf.node none
                      (T.leaf.node
                        (some
                          (O.cells (some 26) 10
                            [V.int IntKind.i64 a, V.int IntKind.i64 b, V.int IntKind.i64 c, V.int IntKind.i64 d,
                              V.int IntKind.i64 e, V.int IntKind.i64 f, V.int IntKind.i64 g, V.int IntKind.i64 h,
                              V.int IntKind.i64 i, V.int IntKind.u32 j]
                            T.leaf))
                        T.leaf))))).node
            none T.leaf)).node
      none T.leaf)))) ∧
  ((1010) = (1010))))) := by kernel_rfl
theorem w20b (N D : Bool) (l : V) (t q : Nat) (h : H) : (regW GL sp2 cT2 iBlocks (cOps r20) (opsPart (cOps r20) 4 5) (envL 129 ([(115, .tuple [.bool D, z0]), (19, .bool N)] ++ hd l t q)) h (KH ([(21, .bool D), (22, z0), (19, .bool N)] ++ hd l t q) h)) = (
(((some (V.bool D)) = (some (V.bool D))) ∧
 (((some (V.int IntKind.i64 (Int.ofNat 0))) = (some (V.int IntKind.i64 (Int.ofNat 0)))) ∧
  (((some (V.bool N)) = (some (V.bool N))) ∧
   (((some l) = (some l)) ∧
    (((some (V.int IntKind.u8 (Int.ofNat t))) = (some (V.int IntKind.u8 (Int.ofNat t)))) ∧
     (((some (V.int IntKind.u8 (Int.ofNat q))) = (some (V.int IntKind.u8 (Int.ofNat q)))) ∧
      (((some (V.ptr 1002 0)) = (some (V.ptr 1002 0))) ∧
       (True)))))))) ∧
(((129) = (129)) ∧
 ((h) = (h)))) := by kernel_rfl
theorem w21 (N D : Bool) (l : V) (t q : Nat) (o : Option O) (R cf : List V) : (evW GL sp2 60 x21 none iBlocks (S ([(21, .bool D), (22, z0), (19, .bool N)] ++ hd l t q) ⟨tR o cf R, 1010⟩) (fun x st => match x with | .ret => retB st | _ => False)) = (
((D == !N) = (true)) ∧
((V.bool true) = (V.bool true))) := by kernel_rfl
end LB
end Go.Proofs.YtcbggkejlhifpaaGreatDoor

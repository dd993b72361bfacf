/- estrayref41.Text: its parts, one round of its loop, and what lies behind. -/
import Derived.Test.YtfmcmolhkmjemaaGreatDoorDg2
namespace Go.Proofs.YtfmcmolhkmjemaaGreatDoor
set_option maxRecDepth 100000
set_option maxHeartbeats 2000000
open Go.Ev Go.RowKit
namespace RT
noncomputable def fn : Func := match Tryz.prog.funcs[iRText]? with
  | some f => f
  | .none => default
noncomputable def code : Code := match fn.body with
  | some c => c
  | .none => .skip
noncomputable def r0 : Code := cFst code
noncomputable def x1 : Code := cSnd code
noncomputable def r1 : Code := cFst x1
noncomputable def x2 : Code := cSnd x1
noncomputable def r2 : Code := cFst x2
noncomputable def x3 : Code := cSnd x2
noncomputable def z : Code := cFst x3
noncomputable def x4 : Code := cSnd x3
noncomputable def r4 : Code := cFst z
noncomputable def bl : Code := cSnd z
noncomputable def lp : Code := cFst bl
noncomputable def bd : Code := cFst lp
theorem isFn : Tryz.prog.funcs[iRText]? = some fn := by kernel_rfl
theorem body : fn.body = some code := by kernel_rfl
theorem tmps : fn.ntmps = 57 := by kernel_rfl
theorem cut : code = nest [r0, r1, r2] x3 := by kernel_rfl
theorem q3 : x3 = .seq z x4 := by kernel_rfl
theorem q4 : z = .seq r4 bl := by kernel_rfl
theorem q5 : bl = .block 0 lp := by kernel_rfl
theorem q6 : lp = .loop bd := by kernel_rfl
theorem ok0 : [r0, r1, r2].all okC = true := by kernel_rfl
theorem ok4 : okC r4 = true := by kernel_rfl
theorem ok5 : okC bd = true := by kernel_rfl
theorem ok6 : okC x4 = true := by kernel_rfl
/-- the bound of the numbers whose digits are known -/
def big : Nat := 9223372036854775808
noncomputable def GR : Γ := mkG Tryz.prog eqs rows (extL [DT.kD big])
noncomputable def sp : SpF where
  at' := fun f t => match Nat.beq f iRText, t with
    | true, 9 => .both | true, 13 => .both | true, 18 => .idx | true, 19 => .ldA [.int .i64, .int .i64] | true, 22 => .both | true, 26 => .both | true, 31 => .both | true, 36 => .both | true, 40 => .both | _, _ => .keep
  kx := DT.kx big
noncomputable def S (l : List (Nat × V)) (h : H) : St := ⟨envL 57 l, h, []⟩
noncomputable def hI (L : List V) : H := ⟨T.put .leaf 1000 (some (.ro none L.length L .leaf)), 1001⟩
abbrev sl (n : Nat) (c : Cap) : V := .slice 1000 0 n c
noncomputable def hasS (l : List (Nat × V)) (st : St) : Prop := hasT st.env l ∧ st.env.sz = 57 ∧ noDefs st.defs = true
noncomputable def inv (n : Nat) (c : Cap) (s : List UInt8) (i : Int) : List (Nat × V) := [(0, sl n c), (4, .str s), (5, .int .i64 i)]
noncomputable def retIs (Q : V → Prop) (st : St) : Prop := match takeAll st.defs st.h with
  | some h2 => match resultsO G0 h2 st.env fn with
    | some v => Q v
    | .none => False
  | .none => False
noncomputable def K0 (l : List (Nat × V)) (h : H) (R : V → Prop) (E : Prop) (x : X) (st : St) : Prop := match x with
  | .normal => E ∧ hasS l st ∧ eqH st.h h
  | .ret => retIs R st
  | _ => False
noncomputable def K5 (n : Nat) (c : Cap) (L : List V) (i : Int) (Q : List UInt8 → Prop) (R : V → Prop) (E : Prop) (s : List UInt8) (x : X) (st : St) : Prop := match x with
  | .normal => (match st.env.tr.get 4 with
    | some (.str s') => Q s' ∧ hasS [(0, sl n c), (4, .str s'), (5, .int .i64 (wr .i64 (Int.add i (Int.ofNat 1))))] st
    | _ => False) ∧ st.h.tr.get 1000 = some (.ro none L.length L .leaf)
  | .ret => retIs R st
  | .exit k => E ∧ Nat.beq k 0 = true ∧ hasS [(4, .str s)] st
/-- a result, as it is loaded -/
noncomputable def ldR (k : Nat) (L : List V) : Option V := rLoad (GR.ty tRes) (hI L) (some (.ptr 1000 (Nat.add 0 (Nat.mul k 2))))
theorem w0 (n : Nat) (L : List V) (c : Cap) (R : V → Prop) (E : Prop) : (evL GR sp 40 iRText [r0, r1, r2] (K0 [(0, sl n c), (4, .str [])] (hI L) R E) (S [(0, sl n c)] (hI L))) = (
(((ilt (Int.ofNat 2000) (Int.ofNat n)) = (true)) → (R (V.tuple [V.str [], V.int IntKind.i64 (Int.ofNat 11)]))) ∧
(((ilt (Int.ofNat 2000) (Int.ofNat n)) = (false)) → ((E)) ∧
 (((((some (V.slice 1000 0 n c)) = (some (V.slice 1000 0 n c))) ∧
    (((some (V.str [])) = (some (V.str []))) ∧
     (True))) ∧
   (((57) = (57)) ∧
    ((true) = (true)))) ∧
  (((T.leaf.node none
  (((T.leaf.node none
            ((T.leaf.node none
                  (T.leaf.node none
                    (T.leaf.node none
                      (T.leaf.node none (T.leaf.node (some (O.ro none L.length L T.leaf)) T.leaf))))).node
              none T.leaf)).node
        none T.leaf).node
    none T.leaf)) = (T.leaf.node none
  (((T.leaf.node none
            ((T.leaf.node none
                  (T.leaf.node none
                    (T.leaf.node none
                      (T.leaf.node none (T.leaf.node (some (O.ro none L.length L T.leaf)) T.leaf))))).node
              none T.leaf)).node
        none T.leaf).node
    none T.leaf))) ∧
   ((1001) = (1001)))))) := by kernel_rfl
theorem w4 (n : Nat) (L : List V) (c : Cap) (R : V → Prop) (E : Prop) : (evW GR sp 40 r4 none iRText (S [(0, sl n c), (4, .str [])] (hI L)) (K0 (inv n c [] (Int.ofNat 0)) (hI L) R E)) = (
((E)) ∧
(((((some (V.slice 1000 0 n c)) = (some (V.slice 1000 0 n c))) ∧
   (((some (V.str [])) = (some (V.str []))) ∧
    (((some (V.int IntKind.i64 (Int.ofNat 0))) = (some (V.int IntKind.i64 (Int.ofNat 0)))) ∧
     (True)))) ∧
  (((57) = (57)) ∧
   ((true) = (true)))) ∧
 (((T.leaf.node none
  (((T.leaf.node none
            ((T.leaf.node none
                  (T.leaf.node none
                    (T.leaf.node none
                      (T.leaf.node none (T.leaf.node (some (O.ro none L.length L T.leaf)) T.leaf))))).node
              none T.leaf)).node
        none T.leaf).node
    none T.leaf)) = (T.leaf.node none
  (((T.leaf.node none
            ((T.leaf.node none
                  (T.leaf.node none
                    (T.leaf.node none
                      (T.leaf.node none (T.leaf.node (some (O.ro none L.length L T.leaf)) T.leaf))))).node
              none T.leaf)).node
        none T.leaf).node
    none T.leaf))) ∧
  ((1001) = (1001))))) := by kernel_rfl
theorem w5 (n : Nat) (L : List V) (c : Cap) (k : Nat) (s : List UInt8) (Q : List UInt8 → Prop) (R : V → Prop) (E : Prop) : (evW GR sp 40 bd none iRText (S (inv n c s (Int.ofNat k)) (hI L)) (K5 n c L (Int.ofNat k) Q R E s)) = (
(((ilt (Int.ofNat k) (Int.ofNat n)) = (true)) → ((false) = (false)) ∧
 (((ilt (Int.ofNat k) (Int.ofNat n)) = (true)) ∧
  ((∃ l, (ldR k L) = (some (V.agg 2 l T.leaf)) ∧ LK.shape [LK.int IntKind.i64, LK.int IntKind.i64] l) ∧
   (∀ y0 : Int, ∀ y1 : Int, ((ldR k L) = (some (V.agg 2 ([] ++ [V.int IntKind.i64 y0] ++ [V.int IntKind.i64 y1]) T.leaf))) → (((ilt y0 (Int.ofNat 0)) = (true)) → (R (V.tuple [V.str [], V.int IntKind.i64 (Int.ofNat 2)]))) ∧
    (((ilt y0 (Int.ofNat 0)) = (false)) → (((ilt (Int.ofNat 17) y0) = (true)) → (R (V.tuple [V.str [], V.int IntKind.i64 (Int.ofNat 2)]))) ∧
     (((ilt (Int.ofNat 17) y0) = (false)) → (((ilt y1 (Int.ofNat 0)) = (true)) → (R (V.tuple [V.str [], V.int IntKind.i64 (Int.ofNat 2)]))) ∧
      (((ilt y1 (Int.ofNat 0)) = (false)) → (((!ieq y0 (Int.ofNat 0)) = (true)) → (((!ieq y1 (Int.ofNat 0)) = (true)) → (R (V.tuple [V.str [], V.int IntKind.i64 (Int.ofNat 2)]))) ∧
        (((!ieq y1 (Int.ofNat 0)) = (false)) → ((!DT.inB 9223372036854775808 (wr IntKind.u64 y0)) = (false)) ∧
         ((((s.length.add (digF (wr IntKind.u64 y0)).length).ble 1000000000) = (true)) ∧
          (((((s ++ digF (wr IntKind.u64 y0)).length.add 1).ble 1000000000) = (true)) ∧
           (((!DT.inB 9223372036854775808 (wr IntKind.u64 y1)) = (false)) ∧
            (((((s ++ digF (wr IntKind.u64 y0) ++ [32]).length.add (digF (wr IntKind.u64 y1)).length).ble 1000000000) = (true)) ∧
             (((((s ++ digF (wr IntKind.u64 y0) ++ [32] ++ digF (wr IntKind.u64 y1)).length.add 1).ble 1000000000) = (true)) ∧
              ((((True) ∧
                 (((y1) = (y1)) ∧
                  ((y1) = (y1)))) ∧
                (((True) ∧
                  ((True) ∧
                   ((y0) = (y0)))) ∧
                 (True))) ∧
               ((((Q (s ++ digF (wr IntKind.u64 y0) ++ [32] ++ digF (wr IntKind.u64 y1) ++ [10]))) ∧
                 ((((some (V.slice 1000 0 n c)) = (some (V.slice 1000 0 n c))) ∧
                   (((some (V.str (s ++ digF (wr IntKind.u64 y0) ++ [32] ++ digF (wr IntKind.u64 y1) ++ [10]))) = (some (V.str (s ++ digF (wr IntKind.u64 y0) ++ [32] ++ digF (wr IntKind.u64 y1) ++ [10])))) ∧
                    (((some (V.int IntKind.i64 (wr IntKind.i64 ((Int.ofNat k).add (Int.ofNat 1))))) = (some (V.int IntKind.i64 (wr IntKind.i64 ((Int.ofNat k).add (Int.ofNat 1)))))) ∧
                     (True)))) ∧
                  (((57) = (57)) ∧
                   ((true) = (true))))) ∧
                ((some (O.ro none L.length L T.leaf)) = (some (O.ro none L.length L T.leaf)))))))))))) ∧
       (((!ieq y0 (Int.ofNat 0)) = (false)) → ((!DT.inB 9223372036854775808 (wr IntKind.u64 y0)) = (false)) ∧
        ((((s.length.add (digF (wr IntKind.u64 y0)).length).ble 1000000000) = (true)) ∧
         (((((s ++ digF (wr IntKind.u64 y0)).length.add 1).ble 1000000000) = (true)) ∧
          (((!DT.inB 9223372036854775808 (wr IntKind.u64 y1)) = (false)) ∧
           (((((s ++ digF (wr IntKind.u64 y0) ++ [32]).length.add (digF (wr IntKind.u64 y1)).length).ble 1000000000) = (true)) ∧
            (((((s ++ digF (wr IntKind.u64 y0) ++ [32] ++ digF (wr IntKind.u64 y1)).length.add 1).ble 1000000000) = (true)) ∧
             ((((True) ∧
                (((y1) = (y1)) ∧
                 ((y1) = (y1)))) ∧
               (((True) ∧
                 ((True) ∧
                  ((y0) = (y0)))) ∧
                (True))) ∧
              ((((Q (s ++ digF (wr IntKind.u64 y0) ++ [32] ++ digF (wr IntKind.u64 y1) ++ [10]))) ∧
                ((((some (V.slice 1000 0 n c)) = (some (V.slice 1000 0 n c))) ∧
                  (((some (V.str (s ++ digF (wr IntKind.u64 y0) ++ [32] ++ digF (wr IntKind.u64 y1) ++ [10]))) = (some (V.str (s ++ digF (wr IntKind.u64 y0) ++ [32] ++ digF (wr IntKind.u64 y1) ++ [10])))) ∧
                   (((some (V.int IntKind.i64 (wr IntKind.i64 ((Int.ofNat k).add (Int.ofNat 1))))) = (some (V.int IntKind.i64 (wr IntKind.i64 ((Int.ofNat k).add (Int.ofNat 1)))))) ∧
                    (True)))) ∧
                 (((57) = (57)) ∧
                  ((true) = (true))))) ∧
               ((some (O.ro none L.length L T.leaf)) = (some (O.ro none L.length L T.leaf)))))))))))))))))) ∧
(((ilt (Int.ofNat k) (Int.ofNat n)) = (false)) → ((E)) ∧
 (((true) = (true)) ∧
  ((((some (V.str s)) = (some (V.str s))) ∧
    (True)) ∧
   (((57) = (57)) ∧
    ((true) = (true))))))) := by kernel_rfl
theorem w6 (s : List UInt8) (h : H) (R : V → Prop) : (evW GR sp 40 x4 none iRText (S [(4, .str s)] h) (fun x st => match x with | .ret => retIs R st | _ => False)) = (
(R (V.tuple [V.str s, V.int IntKind.i64 (Int.ofNat 0)]))) := by kernel_rfl
end RT
end Go.Proofs.YtfmcmolhkmjemaaGreatDoor

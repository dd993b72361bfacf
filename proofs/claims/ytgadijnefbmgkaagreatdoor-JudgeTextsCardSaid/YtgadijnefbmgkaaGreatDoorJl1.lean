/- JudgeTexts: its code, part by part. -/
import Derived.Test.YtgadijnefbmgkaaGreatDoorJg
namespace Go.Proofs.YtgadijnefbmgkaaGreatDoor
set_option maxRecDepth 100000
open Go.Ev Go.RowKit
namespace LT
noncomputable def fn : Func := match Tryz.prog.funcs[iTexts]? with
  | some f => f
  | .none => default
noncomputable def code : Code := match fn.body with
  | some c => c
  | .none => .skip
noncomputable def r0 : Code := cFst code
noncomputable def x1 : Code := cSnd code
noncomputable def y1 : Code := cFst x1
noncomputable def x2 : Code := cSnd x1
noncomputable def r3 : Code := cFst x2
noncomputable def x3 : Code := cSnd x2
noncomputable def r4 : Code := cFst x3
noncomputable def x4 : Code := cSnd x3
noncomputable def r5 : Code := cFst x4
theorem isFn : Tryz.prog.funcs[iTexts]? = some fn := by kernel_rfl
theorem body : fn.body = some code := by kernel_rfl
theorem tmps : fn.ntmps = 32 := by kernel_rfl
theorem cut : code = JT.nest [r0, y1] x2 := by kernel_rfl
theorem q3 : x2 = .seq r3 x3 := by kernel_rfl
theorem q4 : x3 = .seq r4 x4 := by kernel_rfl
theorem q5 : x4 = .seq r5 .ret := by kernel_rfl
theorem q3r : r3 = .region 3 (cOps r3) false := by kernel_rfl
theorem q4r : r4 = .region 4 (cOps r4) false := by kernel_rfl
theorem q3n : (cOps r3).size = 7 := by kernel_rfl
theorem q4n : (cOps r4).size = 7 := by kernel_rfl
theorem ok1 : [r0, y1].all okC = true := by kernel_rfl
theorem ok5 : okC r5 = true := by kernel_rfl
noncomputable def op3 : Oper := match (cOps r3)[1]? with
  | some o => o
  | .none => default
noncomputable def op4 : Oper := match (cOps r4)[1]? with
  | some o => o
  | .none => default
theorem p3 : (cOps r3)[1]? = some op3 := by kernel_rfl
theorem p4 : (cOps r4)[1]? = some op4 := by kernel_rfl
theorem g3' : op3.guard = .none := by kernel_rfl
theorem g4' : op4.guard = .none := by kernel_rfl
theorem d3 : op3.dst = some 13 := by kernel_rfl
theorem d4 : op4.dst = some 18 := by kernel_rfl
noncomputable def fnT : Func := match Tryz.prog.funcs[iText]? with
  | some f => f
  | .none => default
noncomputable def fnR : Func := match Tryz.prog.funcs[iRText]? with
  | some f => f
  | .none => default
theorem isT : Tryz.prog.funcs[iText]? = some fnT := by kernel_rfl
theorem isR : Tryz.prog.funcs[iRText]? = some fnR := by kernel_rfl
theorem nameT : fnT.name ≠ "runtime.NumGoroutine" := fun h => absurd (show (fnT.name == "runtime.NumGoroutine") = false by kernel_rfl) (by rw [h]; decide)
theorem nameR : fnR.name ≠ "runtime.NumGoroutine" := fun h => absurd (show (fnR.name == "runtime.NumGoroutine") = false by kernel_rfl) (by rw [h]; decide)
theorem bodyT : ∃ c, fnT.body = some c := Option.isSome_iff_exists.1 (show fnT.body.isSome = true by kernel_rfl)
theorem bodyR : ∃ c, fnR.body = some c := Option.isSome_iff_exists.1 (show fnR.body.isSome = true by kernel_rfl)
noncomputable def sp : SpF where
  at' := fun f t => match Nat.beq f iTexts, t with
    | true, 9 => .both | true, 23 => .is true | true, 27 => .is true | _, _ => .keep
noncomputable def S (l : List (Nat × V)) (h : H) : St := ⟨envL 32 l, h, []⟩
/-- memory: the variables, the numbers -/
noncomputable def hA (o : Option O) : H := ⟨T.put (varsT gs) 1000 o, 1001⟩
noncomputable def hasS (l : List (Nat × V)) (st : St) : Prop := hasT st.env l ∧ st.env.sz = 32 ∧ noDefs st.defs = true
noncomputable def retIs (Q : V → Prop) (st : St) : Prop := match takeAll st.defs st.h with
  | some h2 => match resultsO G0 h2 st.env fn with
    | some v => Q v
    | .none => False
  | .none => False
noncomputable def K1 (l : List (Nat × V)) (h : H) (E : Prop) (x : X) (st : St) : Prop := match x with
  | .normal => E ∧ hasS l st ∧ JT.eqH st.h h
  | .ret => retIs (fun v => v = .bool true) st
  | _ => False
noncomputable def KD (l : List (Nat × V)) (h : H) (x : X) (st : St) : Prop := match x with
  | .normal => hasS l st ∧ JT.eqH st.h h
  | _ => False
noncomputable def KH (l : List (Nat × V)) (h : H) (env : Env) (h' : H) : Prop := hasT env l ∧ env.sz = 32 ∧ h' = h
abbrev cT : CallK := callTW GL sp.kx sp.must (evW GL sp 40)
theorem act3 (o : V) : act GL (envL 32 [(0, o), (12, o)]).get op3.op = .call (some (.fn iText [o])) := by kernel_rfl
theorem act4 (o : V) (s : List UInt8) (e : Int) : act GL (envL 32 [(0, o), (3, .str s), (4, .int .i64 e), (17, o)]).get op4.op = .call (some (.fn iRText [o])) := by kernel_rfl
theorem w0 (o : Option O) (E : Prop) : (JT.evL GL sp 40 iTexts [r0, y1] (K1 [(0, .nils)] (hA o) E) (S [(0, .nils)] (hA o))) = (
(((false) = (true)) → (V.bool true) = (V.bool true)) ∧
(((false) = (false)) → ((E)) ∧
 (((((some V.nils) = (some V.nils)) ∧
    (True)) ∧
   (((32) = (32)) ∧
    ((true) = (true)))) ∧
  (((T.leaf.node
  (some
    (O.ro none 12
      [V.str [], V.str [109, 111, 100, 101, 108], V.str [111, 110, 99, 101], V.str [101, 110, 100, 101, 100],
        V.str [115, 116, 101, 97, 100, 121], V.str [99, 97, 117, 115, 101, 100], V.str [117, 115, 101, 100],
        V.str [99, 111, 117, 110, 116, 115], V.str [113, 117, 111, 116, 97], V.str [115, 116, 97, 108, 101],
        V.str [108, 101, 97, 107, 115], V.str [107, 101, 101, 112, 115]]
      T.leaf))
  (((T.leaf.node none
            ((T.leaf.node none (T.leaf.node none (T.leaf.node none (T.leaf.node none (T.leaf.node o T.leaf))))).node
              none T.leaf)).node
        none T.leaf).node
    (some
      (O.ro none 4
        [V.int IntKind.u8 (Int.ofNat 0), V.int IntKind.u8 (Int.ofNat 111), V.int IntKind.u8 (Int.ofNat 108),
          V.int IntKind.u8 (Int.ofNat 102)]
        T.leaf))
    T.leaf)) = (T.leaf.node
  (some
    (O.ro none 12
      [V.str [], V.str [109, 111, 100, 101, 108], V.str [111, 110, 99, 101], V.str [101, 110, 100, 101, 100],
        V.str [115, 116, 101, 97, 100, 121], V.str [99, 97, 117, 115, 101, 100], V.str [117, 115, 101, 100],
        V.str [99, 111, 117, 110, 116, 115], V.str [113, 117, 111, 116, 97], V.str [115, 116, 97, 108, 101],
        V.str [108, 101, 97, 107, 115], V.str [107, 101, 101, 112, 115]]
      T.leaf))
  (((T.leaf.node none
            ((T.leaf.node none (T.leaf.node none (T.leaf.node none (T.leaf.node none (T.leaf.node o T.leaf))))).node
              none T.leaf)).node
        none T.leaf).node
    (some
      (O.ro none 4
        [V.int IntKind.u8 (Int.ofNat 0), V.int IntKind.u8 (Int.ofNat 111), V.int IntKind.u8 (Int.ofNat 108),
          V.int IntKind.u8 (Int.ofNat 102)]
        T.leaf))
    T.leaf))) ∧
   ((1001) = (1001)))))) := by kernel_rfl
theorem w1 (n : Nat) (c : Cap) (o : Option O) (E : Prop) : (JT.evL GL sp 40 iTexts [r0, y1] (K1 [(0, .slice 1000 0 n c)] (hA o) E) (S [(0, .slice 1000 0 n c)] (hA o))) = (
(((ilt (Int.ofNat 30) (Int.ofNat n)) = (true)) → (V.bool true) = (V.bool true)) ∧
(((ilt (Int.ofNat 30) (Int.ofNat n)) = (false)) → ((E)) ∧
 (((((some (V.slice 1000 0 n c)) = (some (V.slice 1000 0 n c))) ∧
    (True)) ∧
   (((32) = (32)) ∧
    ((true) = (true)))) ∧
  (((T.leaf.node
  (some
    (O.ro none 12
      [V.str [], V.str [109, 111, 100, 101, 108], V.str [111, 110, 99, 101], V.str [101, 110, 100, 101, 100],
        V.str [115, 116, 101, 97, 100, 121], V.str [99, 97, 117, 115, 101, 100], V.str [117, 115, 101, 100],
        V.str [99, 111, 117, 110, 116, 115], V.str [113, 117, 111, 116, 97], V.str [115, 116, 97, 108, 101],
        V.str [108, 101, 97, 107, 115], V.str [107, 101, 101, 112, 115]]
      T.leaf))
  (((T.leaf.node none
            ((T.leaf.node none (T.leaf.node none (T.leaf.node none (T.leaf.node none (T.leaf.node o T.leaf))))).node
              none T.leaf)).node
        none T.leaf).node
    (some
      (O.ro none 4
        [V.int IntKind.u8 (Int.ofNat 0), V.int IntKind.u8 (Int.ofNat 111), V.int IntKind.u8 (Int.ofNat 108),
          V.int IntKind.u8 (Int.ofNat 102)]
        T.leaf))
    T.leaf)) = (T.leaf.node
  (some
    (O.ro none 12
      [V.str [], V.str [109, 111, 100, 101, 108], V.str [111, 110, 99, 101], V.str [101, 110, 100, 101, 100],
        V.str [115, 116, 101, 97, 100, 121], V.str [99, 97, 117, 115, 101, 100], V.str [117, 115, 101, 100],
        V.str [99, 111, 117, 110, 116, 115], V.str [113, 117, 111, 116, 97], V.str [115, 116, 97, 108, 101],
        V.str [108, 101, 97, 107, 115], V.str [107, 101, 101, 112, 115]]
      T.leaf))
  (((T.leaf.node none
            ((T.leaf.node none (T.leaf.node none (T.leaf.node none (T.leaf.node none (T.leaf.node o T.leaf))))).node
              none T.leaf)).node
        none T.leaf).node
    (some
      (O.ro none 4
        [V.int IntKind.u8 (Int.ofNat 0), V.int IntKind.u8 (Int.ofNat 111), V.int IntKind.u8 (Int.ofNat 108),
          V.int IntKind.u8 (Int.ofNat 102)]
        T.leaf))
    T.leaf))) ∧
   ((1001) = (1001)))))) := by kernel_rfl
theorem w3a (a : V) (h : H) : (regW GL sp cT iTexts (cOps r3) (opsPart (cOps r3) 0 1) (envL 32 [(0, a)]) h (KH [(0, a), (12, a)] h)) = (
(((some a) = (some a)) ∧
 (((some a) = (some a)) ∧
  (True))) ∧
(((32) = (32)) ∧
 ((h) = (h)))) := by kernel_rfl
theorem w3b (a : V) (s : List UInt8) (e : Int) (h : H) : (regW GL sp cT iTexts (cOps r3) (opsPart (cOps r3) 2 5) (envL 32 [(0, a), (13, .tuple [.str s, .int .i64 e])]) h (KH [(0, a), (3, .str s), (4, .int .i64 e)] h)) = (
(((some a) = (some a)) ∧
 (((some (V.str s)) = (some (V.str s))) ∧
  (((some (V.int IntKind.i64 e)) = (some (V.int IntKind.i64 e))) ∧
   (True)))) ∧
(((32) = (32)) ∧
 ((h) = (h)))) := by kernel_rfl
theorem w4a (a : V) (s : List UInt8) (e : Int) (h : H) : (regW GL sp cT iTexts (cOps r4) (opsPart (cOps r4) 0 1) (envL 32 [(0, a), (3, .str s), (4, .int .i64 e)]) h (KH [(0, a), (3, .str s), (4, .int .i64 e), (17, a)] h)) = (
(((some a) = (some a)) ∧
 (((some (V.str s)) = (some (V.str s))) ∧
  (((some (V.int IntKind.i64 e)) = (some (V.int IntKind.i64 e))) ∧
   (((some a) = (some a)) ∧
    (True))))) ∧
(((32) = (32)) ∧
 ((h) = (h)))) := by kernel_rfl
theorem w4b (s t : List UInt8) (e f : Int) (h : H) : (regW GL sp cT iTexts (cOps r4) (opsPart (cOps r4) 2 5) (envL 32 [(3, .str s), (4, .int .i64 e), (18, .tuple [.str t, .int .i64 f])]) h (KH [(3, .str s), (4, .int .i64 e), (5, .str t), (6, .int .i64 f)] h)) = (
(((some (V.str s)) = (some (V.str s))) ∧
 (((some (V.int IntKind.i64 e)) = (some (V.int IntKind.i64 e))) ∧
  (((some (V.str t)) = (some (V.str t))) ∧
   (((some (V.int IntKind.i64 f)) = (some (V.int IntKind.i64 f))) ∧
    (True))))) ∧
(((32) = (32)) ∧
 ((h) = (h)))) := by kernel_rfl
theorem w5 (s : List UInt8) (e : Int) (o : Option O) : (evW GL sp 40 r5 none iTexts (S [(3, .str s), (4, .int .i64 e), (5, .str s), (6, .int .i64 e)] (hA o)) (KD [(2, .bool true)] (hA o))) = (
((s == s) = (true)) ∧
(((ieq e e) = (true)) ∧
 (((((some (V.bool true)) = (some (V.bool true))) ∧
    (True)) ∧
   (((32) = (32)) ∧
    ((true) = (true)))) ∧
  (((T.leaf.node
  (some
    (O.ro none 12
      [V.str [], V.str [109, 111, 100, 101, 108], V.str [111, 110, 99, 101], V.str [101, 110, 100, 101, 100],
        V.str [115, 116, 101, 97, 100, 121], V.str [99, 97, 117, 115, 101, 100], V.str [117, 115, 101, 100],
        V.str [99, 111, 117, 110, 116, 115], V.str [113, 117, 111, 116, 97], V.str [115, 116, 97, 108, 101],
        V.str [108, 101, 97, 107, 115], V.str [107, 101, 101, 112, 115]]
      T.leaf))
  (((T.leaf.node none
            ((T.leaf.node none (T.leaf.node none (T.leaf.node none (T.leaf.node none (T.leaf.node o T.leaf))))).node
              none T.leaf)).node
        none T.leaf).node
    (some
      (O.ro none 4
        [V.int IntKind.u8 (Int.ofNat 0), V.int IntKind.u8 (Int.ofNat 111), V.int IntKind.u8 (Int.ofNat 108),
          V.int IntKind.u8 (Int.ofNat 102)]
        T.leaf))
    T.leaf)) = (T.leaf.node
  (some
    (O.ro none 12
      [V.str [], V.str [109, 111, 100, 101, 108], V.str [111, 110, 99, 101], V.str [101, 110, 100, 101, 100],
        V.str [115, 116, 101, 97, 100, 121], V.str [99, 97, 117, 115, 101, 100], V.str [117, 115, 101, 100],
        V.str [99, 111, 117, 110, 116, 115], V.str [113, 117, 111, 116, 97], V.str [115, 116, 97, 108, 101],
        V.str [108, 101, 97, 107, 115], V.str [107, 101, 101, 112, 115]]
      T.leaf))
  (((T.leaf.node none
            ((T.leaf.node none (T.leaf.node none (T.leaf.node none (T.leaf.node none (T.leaf.node o T.leaf))))).node
              none T.leaf)).node
        none T.leaf).node
    (some
      (O.ro none 4
        [V.int IntKind.u8 (Int.ofNat 0), V.int IntKind.u8 (Int.ofNat 111), V.int IntKind.u8 (Int.ofNat 108),
          V.int IntKind.u8 (Int.ofNat 102)]
        T.leaf))
    T.leaf))) ∧
   ((1001) = (1001)))))) := by kernel_rfl
theorem w6 (h : H) : (evW GL sp 40 .ret none iTexts (S [(2, .bool true)] h) (fun x st => match x with | .ret => retIs (fun v => v = .bool true) st | _ => False)) = (
(V.bool true) = (V.bool true)) := by kernel_rfl
end LT
end Go.Proofs.YtgadijnefbmgkaaGreatDoor

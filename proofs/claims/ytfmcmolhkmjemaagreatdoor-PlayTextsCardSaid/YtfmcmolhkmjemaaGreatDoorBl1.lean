/- (*strings.Builder).WriteString: its parts. -/
import Derived.Test.YtfmcmolhkmjemaaGreatDoorPt0
namespace Go.Proofs.YtfmcmolhkmjemaaGreatDoor
set_option maxRecDepth 100000
set_option maxHeartbeats 2000000
open Go.Ev Go.RowKit
namespace BT
noncomputable def fn : Func := match Tryz.prog.funcs[iWrite]? with
  | some f => f
  | .none => default
noncomputable def code : Code := match fn.body with
  | some c => c
  | .none => .skip
noncomputable def r0 : Code := cFst code
noncomputable def x1 : Code := cSnd code
noncomputable def r1 : Code := cFst x1
noncomputable def x2 : Code := cSnd x1
noncomputable def r2 : Code := cFst x2
noncomputable def x3 : Code := cSnd x2
theorem isFn : Tryz.prog.funcs[iWrite]? = some fn := by kernel_rfl
theorem body : fn.body = some code := by kernel_rfl
theorem tmps : fn.ntmps = 19 := by kernel_rfl
theorem cut : code = nest [r0, r1] x2 := by kernel_rfl
theorem q2 : x2 = .seq r2 x3 := by kernel_rfl
theorem q2r : r2 = .region 2 (cOps r2) false := by kernel_rfl
theorem q2n : (cOps r2).size = 10 := by kernel_rfl
theorem ok0 : [r0, r1].all okC = true := by kernel_rfl
theorem ok3 : okC x3 = true := by kernel_rfl
noncomputable def opAt (c : Code) (i : Nat) : Oper := match (cOps c)[i]? with
  | some o => o
  | .none => default
theorem p6 : opsPart (cOps r2) 6 1 = [opAt r2 6] := by kernel_rfl
theorem g6 : (opAt r2 6).guard = .none := by kernel_rfl
theorem d6 : (opAt r2 6).dst = some 14 := by kernel_rfl
theorem hop (env : Env) : act G0 env.get (opAt r2 6).op = .ef (fun h => fAppend G0 (G0.ty tBytes) (G0.ty tStr) h (env.get (.tmp 12)) (env.get (.tmp 13))) := by kernel_rfl
noncomputable def tyS : TY := match G0.ty tBytes with
  | some t => t
  | none => ⟨.slice 0, 0, false, none, #[]⟩
noncomputable def tyE : TY := match G0.ty tByte with
  | some t => t
  | none => ⟨.slice 0, 0, false, none, #[]⟩
noncomputable def tyT : TY := match G0.ty tStr with
  | some t => t
  | none => ⟨.slice 0, 0, false, none, #[]⟩
theorem t1 : G0.ty tBytes = some tyS := by kernel_rfl
theorem t2 : tyS.desc = .slice tByte := by kernel_rfl
theorem t3 : G0.ty tByte = some tyE := by kernel_rfl
theorem t4 : G0.ty tStr = some tyT := by kernel_rfl
theorem t5 : isInt tyT.desc = some false := by kernel_rfl
theorem t6 : tyE.size = 1 := by kernel_rfl
noncomputable def sp : SpF where
  at' := fun _ _ => .keep
noncomputable def S (l : List (Nat × V)) (h : H) : St := ⟨envL 19 l, h, []⟩
/-- memory: the builder; its row -/
noncomputable def hA (a b : V) (nx : Nat) : H := ⟨T.put .leaf 1001 (some (bO a b)), nx⟩
noncomputable def hB (a b : V) (r : Nat) (L : List V) (nx : Nat) : H := ⟨T.put (T.put .leaf 1001 (some (bO a b))) r (some (.cells (some tByte) L.length L .leaf)), nx⟩
noncomputable def hasS (l : List (Nat × V)) (st : St) : Prop := hasT st.env l ∧ st.env.sz = 19 ∧ noDefs st.defs = true
noncomputable def K0A (l : List (Nat × V)) (a b : V) (nx : Nat) (x : X) (st : St) : Prop := match x with
  | .normal => hasS l st ∧ st.h.next = nx ∧ isB a b (st.h.tr.get 1001)
  | _ => False
noncomputable def K0B (l : List (Nat × V)) (a b : V) (r : Nat) (L : List V) (nx : Nat) (x : X) (st : St) : Prop := match x with
  | .normal => hasS l st ∧ st.h.next = nx ∧ isB a b (st.h.tr.get 1001) ∧ st.h.tr.get r = some (.cells (some tByte) L.length L .leaf)
  | _ => False
noncomputable def KH (l : List (Nat × V)) (h : H) (env : Env) (h' : H) : Prop := hasT env l ∧ env.sz = 19 ∧ eqH h' h
noncomputable def KC (l : List (Nat × V)) (a b : V) (r : Nat) (L : List V) (nx : Nat) (env : Env) (h' : H) : Prop := hasT env l ∧ env.sz = 19 ∧ h'.next = nx ∧ isB a b (h'.tr.get 1001) ∧ h'.tr.get r = some (.cells (some tByte) L.length L .leaf)
noncomputable def retIs (Q : V → H → Prop) (st : St) : Prop := match takeAll st.defs st.h with
  | some h2 => match resultsO G0 h2 st.env fn with
    | some v => Q v h2
    | .none => False
  | .none => False
theorem w0A (s : List UInt8) : (evL G0 sp 40 iWrite [r0, r1] (K0A [(0, .ptr 1001 0), (1, .str s)] (.ptr 1001 0) .nils 1013) (S [(0, .ptr 1001 0), (1, .str s)] (hA .nilp .nils 1013))) = (
((((some (V.ptr 1001 0)) = (some (V.ptr 1001 0))) ∧
  (((some (V.str s)) = (some (V.str s))) ∧
   (True))) ∧
 (((19) = (19)) ∧
  ((true) = (true)))) ∧
(((1013) = (1013)) ∧
 (((true) = (true)) ∧
  (((true) = (true)) ∧
   (((cell 2 [V.nilp, V.nils] (T.leaf.node (some (V.ptr 1001 0)) T.leaf) 0) = (some (V.ptr 1001 0))) ∧
    ((cell 2 [V.nilp, V.nils] (T.leaf.node (some (V.ptr 1001 0)) T.leaf) 1) = (some V.nils))))))) := by kernel_rfl
theorem w0B (s : List UInt8) (k : Nat) (L : List V) : (evL G0 sp 40 iWrite [r0, r1] (K0B [(0, .ptr 1001 0), (1, .str s)] (.ptr 1001 0) (ou 1002 k) 1002 L 1014) (S [(0, .ptr 1001 0), (1, .str s)] (hB (.ptr 1001 0) (ou 1002 k) 1002 L 1014))) = (
((((some (V.ptr 1001 0)) = (some (V.ptr 1001 0))) ∧
  (((some (V.str s)) = (some (V.str s))) ∧
   (True))) ∧
 (((19) = (19)) ∧
  ((true) = (true)))) ∧
(((1014) = (1014)) ∧
 ((((true) = (true)) ∧
   (((true) = (true)) ∧
    (((cell 2 [V.ptr 1001 0, V.slice 1002 0 k (Cap.atl k 1)] T.leaf 0) = (some (V.ptr 1001 0))) ∧
     ((cell 2 [V.ptr 1001 0, V.slice 1002 0 k (Cap.atl k 1)] T.leaf 1) = (some (V.slice 1002 0 k (Cap.atl k 1))))))) ∧
  ((some (O.cells (some 5) L.length L T.leaf)) = (some (O.cells (some 5) L.length L T.leaf)))))) := by kernel_rfl
theorem w2A (s : List UInt8) : (regW G0 sp (callTW G0 sp.kx sp.must (evW G0 sp 40)) iWrite (cOps r2) (opsPart (cOps r2) 0 6) (envL 19 [(0, .ptr 1001 0), (1, .str s)]) (hA (.ptr 1001 0) .nils 1013) (KH [(1, .str s), (8, .ptr 1001 0), (12, .nils), (13, .str s)] (hA (.ptr 1001 0) .nils 1013))) = (
(((some (V.str s)) = (some (V.str s))) ∧
 (((some (V.ptr 1001 0)) = (some (V.ptr 1001 0))) ∧
  (((some V.nils) = (some V.nils)) ∧
   (((some (V.str s)) = (some (V.str s))) ∧
    (True))))) ∧
(((19) = (19)) ∧
 ((((T.leaf.node none
      ((T.leaf.node none
            ((T.leaf.node none
                  (T.leaf.node none
                    (T.leaf.node none
                      (T.leaf.node none
                        (T.leaf.node (some (O.cells (some 66) 2 [V.ptr 1001 0, V.nils] T.leaf)) T.leaf))))).node
              none T.leaf)).node
        none T.leaf)).node
  none T.leaf) = ((T.leaf.node none
      ((T.leaf.node none
            ((T.leaf.node none
                  (T.leaf.node none
                    (T.leaf.node none
                      (T.leaf.node none
                        (T.leaf.node (some (O.cells (some 66) 2 [V.ptr 1001 0, V.nils] T.leaf)) T.leaf))))).node
              none T.leaf)).node
        none T.leaf)).node
  none T.leaf)) ∧
  ((1013) = (1013))))) := by kernel_rfl
theorem w2B (s : List UInt8) (k : Nat) (L : List V) : (regW G0 sp (callTW G0 sp.kx sp.must (evW G0 sp 40)) iWrite (cOps r2) (opsPart (cOps r2) 0 6) (envL 19 [(0, .ptr 1001 0), (1, .str s)]) (hB (.ptr 1001 0) (ou 1002 k) 1002 L 1014) (KH [(1, .str s), (8, .ptr 1001 0), (12, ou 1002 k), (13, .str s)] (hB (.ptr 1001 0) (ou 1002 k) 1002 L 1014))) = (
(((some (V.str s)) = (some (V.str s))) ∧
 (((some (V.ptr 1001 0)) = (some (V.ptr 1001 0))) ∧
  (((some (V.slice 1002 0 k (Cap.atl k 1))) = (some (V.slice 1002 0 k (Cap.atl k 1)))) ∧
   (((some (V.str s)) = (some (V.str s))) ∧
    (True))))) ∧
(((19) = (19)) ∧
 ((((T.leaf.node none
      ((T.leaf.node none
            ((T.leaf.node none
                  (T.leaf.node none
                    (T.leaf.node none
                      (T.leaf.node none
                        (T.leaf.node (some (O.cells (some 66) 2 [V.ptr 1001 0, V.slice 1002 0 k (Cap.atl k 1)] T.leaf))
                          T.leaf))))).node
              none T.leaf)).node
        none T.leaf)).node
  none
  (T.leaf.node none
    ((T.leaf.node none
          ((T.leaf.node none
                (T.leaf.node none
                  (T.leaf.node none
                    (T.leaf.node none (T.leaf.node (some (O.cells (some 5) L.length L T.leaf)) T.leaf))))).node
            none T.leaf)).node
      none T.leaf))) = ((T.leaf.node none
      ((T.leaf.node none
            ((T.leaf.node none
                  (T.leaf.node none
                    (T.leaf.node none
                      (T.leaf.node none
                        (T.leaf.node (some (O.cells (some 66) 2 [V.ptr 1001 0, V.slice 1002 0 k (Cap.atl k 1)] T.leaf))
                          T.leaf))))).node
              none T.leaf)).node
        none T.leaf)).node
  none
  (T.leaf.node none
    ((T.leaf.node none
          ((T.leaf.node none
                (T.leaf.node none
                  (T.leaf.node none
                    (T.leaf.node none (T.leaf.node (some (O.cells (some 5) L.length L T.leaf)) T.leaf))))).node
            none T.leaf)).node
      none T.leaf)))) ∧
  ((1014) = (1014))))) := by kernel_rfl
theorem w3A (s : List UInt8) (n : Nat) (L : List V) : (regW G0 sp (callTW G0 sp.kx sp.must (evW G0 sp 40)) iWrite (cOps r2) (opsPart (cOps r2) 7 3) (envL 19 [(14, ou 1013 n), (1, .str s), (8, .ptr 1001 0)]) (hB (.ptr 1001 0) .nils 1013 L 1014) (KC [(1, .str s)] (.ptr 1001 0) (ou 1013 n) 1013 L 1014)) = (
(((some (V.str s)) = (some (V.str s))) ∧
 (True)) ∧
(((19) = (19)) ∧
 (((1014) = (1014)) ∧
  ((((true) = (true)) ∧
    (((true) = (true)) ∧
     (((cell 2 [V.ptr 1001 0, V.nils] ((T.leaf.node (some (V.slice 1013 0 n (Cap.atl n 1))) T.leaf).node none T.leaf) 0) = (some (V.ptr 1001 0))) ∧
      ((cell 2 [V.ptr 1001 0, V.nils] ((T.leaf.node (some (V.slice 1013 0 n (Cap.atl n 1))) T.leaf).node none T.leaf) 1) = (some (V.slice 1013 0 n (Cap.atl n 1))))))) ∧
   ((some (O.cells (some 5) L.length L T.leaf)) = (some (O.cells (some 5) L.length L T.leaf))))))) := by kernel_rfl
theorem w3B (s : List UInt8) (n k : Nat) (L : List V) : (regW G0 sp (callTW G0 sp.kx sp.must (evW G0 sp 40)) iWrite (cOps r2) (opsPart (cOps r2) 7 3) (envL 19 [(14, ou 1014 n), (1, .str s), (8, .ptr 1001 0)]) (hB (.ptr 1001 0) (ou 1002 k) 1014 L 1015) (KC [(1, .str s)] (.ptr 1001 0) (ou 1014 n) 1014 L 1015)) = (
(((some (V.str s)) = (some (V.str s))) ∧
 (True)) ∧
(((19) = (19)) ∧
 (((1015) = (1015)) ∧
  ((((true) = (true)) ∧
    (((true) = (true)) ∧
     (((cell 2 [V.ptr 1001 0, V.slice 1002 0 k (Cap.atl k 1)]
  ((T.leaf.node (some (V.slice 1014 0 n (Cap.atl n 1))) T.leaf).node none T.leaf) 0) = (some (V.ptr 1001 0))) ∧
      ((cell 2 [V.ptr 1001 0, V.slice 1002 0 k (Cap.atl k 1)]
  ((T.leaf.node (some (V.slice 1014 0 n (Cap.atl n 1))) T.leaf).node none T.leaf) 1) = (some (V.slice 1014 0 n (Cap.atl n 1))))))) ∧
   ((some (O.cells (some 5) L.length L T.leaf)) = (some (O.cells (some 5) L.length L T.leaf))))))) := by kernel_rfl
theorem w4A (s : List UInt8) (n : Nat) (L : List V) : (evW G0 sp 40 x3 none iWrite (S [(1, .str s)] (hB (.ptr 1001 0) (ou 1013 n) 1013 L 1014)) (fun x st => match x with | .ret => retIs (fun v h' => v = .tuple [.int .i64 (Int.ofNat s.length), .nili] ∧ eqH h' (hB (.ptr 1001 0) (ou 1013 n) 1013 L 1014)) st | _ => False)) = (
((V.tuple [V.int IntKind.i64 (Int.ofNat s.length), V.nili]) = (V.tuple [V.int IntKind.i64 (Int.ofNat s.length), V.nili])) ∧
((((T.leaf.node none
      ((T.leaf.node none
            ((T.leaf.node none
                  (T.leaf.node none
                    (T.leaf.node none
                      (T.leaf.node none
                        (T.leaf.node (some (O.cells (some 66) 2 [V.ptr 1001 0, V.slice 1013 0 n (Cap.atl n 1)] T.leaf))
                          T.leaf))))).node
              none T.leaf)).node
        none
        ((T.leaf.node none
              (T.leaf.node none
                (T.leaf.node none
                  (T.leaf.node none
                    (T.leaf.node none (T.leaf.node (some (O.cells (some 5) L.length L T.leaf)) T.leaf)))))).node
          none T.leaf))).node
  none T.leaf) = ((T.leaf.node none
      ((T.leaf.node none
            ((T.leaf.node none
                  (T.leaf.node none
                    (T.leaf.node none
                      (T.leaf.node none
                        (T.leaf.node (some (O.cells (some 66) 2 [V.ptr 1001 0, V.slice 1013 0 n (Cap.atl n 1)] T.leaf))
                          T.leaf))))).node
              none T.leaf)).node
        none
        ((T.leaf.node none
              (T.leaf.node none
                (T.leaf.node none
                  (T.leaf.node none
                    (T.leaf.node none (T.leaf.node (some (O.cells (some 5) L.length L T.leaf)) T.leaf)))))).node
          none T.leaf))).node
  none T.leaf)) ∧
 ((1014) = (1014)))) := by kernel_rfl
theorem w4B (s : List UInt8) (n : Nat) (L : List V) : (evW G0 sp 40 x3 none iWrite (S [(1, .str s)] (hB (.ptr 1001 0) (ou 1014 n) 1014 L 1015)) (fun x st => match x with | .ret => retIs (fun v h' => v = .tuple [.int .i64 (Int.ofNat s.length), .nili] ∧ eqH h' (hB (.ptr 1001 0) (ou 1014 n) 1014 L 1015)) st | _ => False)) = (
((V.tuple [V.int IntKind.i64 (Int.ofNat s.length), V.nili]) = (V.tuple [V.int IntKind.i64 (Int.ofNat s.length), V.nili])) ∧
((((T.leaf.node none
      ((T.leaf.node none
            ((T.leaf.node none
                  (T.leaf.node none
                    (T.leaf.node none
                      (T.leaf.node none
                        (T.leaf.node (some (O.cells (some 66) 2 [V.ptr 1001 0, V.slice 1014 0 n (Cap.atl n 1)] T.leaf))
                          T.leaf))))).node
              none T.leaf)).node
        none T.leaf)).node
  none
  (T.leaf.node none
    (T.leaf.node none
      ((T.leaf.node none
            (T.leaf.node none
              (T.leaf.node none
                (T.leaf.node none
                  (T.leaf.node none (T.leaf.node (some (O.cells (some 5) L.length L T.leaf)) T.leaf)))))).node
        none T.leaf)))) = ((T.leaf.node none
      ((T.leaf.node none
            ((T.leaf.node none
                  (T.leaf.node none
                    (T.leaf.node none
                      (T.leaf.node none
                        (T.leaf.node (some (O.cells (some 66) 2 [V.ptr 1001 0, V.slice 1014 0 n (Cap.atl n 1)] T.leaf))
                          T.leaf))))).node
              none T.leaf)).node
        none T.leaf)).node
  none
  (T.leaf.node none
    (T.leaf.node none
      ((T.leaf.node none
            (T.leaf.node none
              (T.leaf.node none
                (T.leaf.node none
                  (T.leaf.node none (T.leaf.node (some (O.cells (some 5) L.length L T.leaf)) T.leaf)))))).node
        none T.leaf))))) ∧
 ((1015) = (1015)))) := by kernel_rfl
end BT
end Go.Proofs.YtfmcmolhkmjemaaGreatDoor

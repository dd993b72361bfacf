/- slices.Clone of a row of operations: its code, part by part. -/
import Derived.Test.YtcbggkejlhifpaaGreatDoorLb5
namespace Go.Proofs.YtcbggkejlhifpaaGreatDoor
set_option maxRecDepth 100000
set_option maxHeartbeats 4000000
open Go.Ev Go.RowKit
namespace CL
noncomputable def fn : Func := match Tryz.prog.funcs[iClone]? with
  | some f => f
  | .none => default
noncomputable def code : Code := match fn.body with
  | some c => c
  | .none => .skip
noncomputable def r0 : Code := cFst code
noncomputable def x1 : Code := cSnd code
noncomputable def r1 : Code := cFst x1
noncomputable def x2 : Code := cSnd x1
noncomputable def r3 : Code := cFst x2
noncomputable def x4 : Code := cSnd x2
theorem isFn : Tryz.prog.funcs[iClone]? = some fn := by kernel_rfl
theorem body : fn.body = some code := by kernel_rfl
theorem tmps : fn.ntmps = 8 := by kernel_rfl
theorem cut : code = nest [r0, r1] x2 := by kernel_rfl
theorem q3 : x2 = .seq r3 x4 := by kernel_rfl
theorem q3r : r3 = .region 3 (cOps r3) false := by kernel_rfl
theorem q3n : (cOps r3).size = 4 := by kernel_rfl
theorem p3 : opsPart (cOps r3) 2 1 = [LB.opAt r3 2] := by kernel_rfl
theorem g3 : (LB.opAt r3 2).guard = .none := by kernel_rfl
theorem d3 : (LB.opAt r3 2).dst = some 7 := by kernel_rfl
theorem ok0 : [r0, r1].all okC = true := by kernel_rfl
theorem ok4 : okC x4 = true := by kernel_rfl
theorem hop (env : Env) : act G0 env.get (LB.opAt r3 2).op = .ef (fun h => fAppend G0 (G0.ty tOps) (G0.ty tOps) h (env.get (.tmp 5)) (env.get (.tmp 6))) := by kernel_rfl
noncomputable def sp : SpF where
  at' := fun _ _ => .keep
abbrev rowO (L : List V) : O := .cells (some tOp) L.length L .leaf
noncomputable def hA (L : List V) : H := ⟨T.put .leaf 1003 (some (rowO L)), 1010⟩
noncomputable def hE (L : List V) : H := ⟨T.put (T.put .leaf 1003 (some (rowO L))) 1011 (some (rowO L)), 1012⟩
noncomputable def S (l : List (Nat × V)) (h : H) : St := ⟨envL 8 l, h, []⟩
noncomputable def hasS (l : List (Nat × V)) (st : St) : Prop := hasT st.env l ∧ st.env.sz = 8 ∧ noDefs st.defs = true
noncomputable def retIs (Q : V → Prop) (h : H) (st : St) : Prop := match takeAll st.defs st.h with
  | some h2 => match resultsO G0 h2 st.env fn with
    | some v => Q v ∧ h2 = h
    | .none => False
  | .none => False
noncomputable def KV (l : List (Nat × V)) (h : H) (x : X) (st : St) : Prop := match x with
  | .normal => hasS l st ∧ st.h = h
  | _ => False
def isE (o : Option (List V)) : Bool := match o with
  | some [] => true
  | _ => false
noncomputable def KC (l : List (Nat × V)) (R : List V) (env : Env) (h' : H) : Prop := hasT env l ∧ env.sz = 8 ∧ isE (rGather h' 1010 0 0) = true ∧ h'.tr.get 1003 = some (rowO R) ∧ h'.next = 1011
noncomputable def KH (l : List (Nat × V)) (h : H) (env : Env) (h' : H) : Prop := hasT env l ∧ env.sz = 8 ∧ h' = h
abbrev cT : CallK := callTW G0 sp.kx sp.must (evW G0 sp 20)
theorem wA (b n k s : Nat) (h : H) : (evL G0 sp 20 iClone [r0, r1] (KV [(0, .slice b 0 n (.atl k s))] h) (S [(0, .slice b 0 n (.atl k s))] h)) = (
((((some (V.slice b 0 n (Cap.atl k s))) = (some (V.slice b 0 n (Cap.atl k s)))) ∧
  (True)) ∧
 (((8) = (8)) ∧
  ((true) = (true)))) ∧
((h) = (h))) := by kernel_rfl
theorem w3a (n : Nat) (R : List V) : (regW G0 sp cT iClone (cOps r3) (opsPart (cOps r3) 0 2) (envL 8 [(0, .slice 1003 0 n (.atl n 6))]) (hA R) (KC [(5, .slice 1010 0 0 (.known 0)), (6, .slice 1003 0 n (.atl n 6))] R)) = (
(((some (V.slice 1010 0 0 (Cap.known 0))) = (some (V.slice 1010 0 0 (Cap.known 0)))) ∧
 (((some (V.slice 1003 0 n (Cap.atl n 6))) = (some (V.slice 1003 0 n (Cap.atl n 6)))) ∧
  (True))) ∧
(((8) = (8)) ∧
 (((true) = (true)) ∧
  (((some (O.cells (some 36) R.length R T.leaf)) = (some (O.cells (some 36) R.length R T.leaf))) ∧
   ((1011) = (1011)))))) := by kernel_rfl
theorem w3c (r : V) (h : H) : (regW G0 sp cT iClone (cOps r3) (opsPart (cOps r3) 3 1) (envL 8 [(7, r)]) h (KH [(2, r)] h)) = (
(((some r) = (some r)) ∧
 (True)) ∧
(((8) = (8)) ∧
 ((h) = (h)))) := by kernel_rfl
theorem w4 (r : V) (h : H) : (evW G0 sp 20 x4 none iClone (S [(2, r)] h) (fun x st => match x with | .ret => retIs (fun v => v = r) h st | _ => False)) = (
((r) = (r)) ∧
((h) = (h))) := by kernel_rfl
end CL
end Go.Proofs.YtcbggkejlhifpaaGreatDoor

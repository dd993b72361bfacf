/- judge.Text: what it returns, whatever the numbers: the walk. -/
import Derived.Test.YtgadijnefbmgkaaGreatDoorJt8
namespace Go.Proofs.YtgadijnefbmgkaaGreatDoor
set_option maxRecDepth 100000
open Go.Ev Go.RowKit
namespace JT
noncomputable def r13 : Code := cFst x5
theorem q18 : x5 = .seq r13 .ret := by kernel_rfl
theorem q19 : r13 = .region 13 (cOps r13) false := by kernel_rfl
theorem q20 : (cOps r13).size = 4 := by kernel_rfl
noncomputable def opJ : Oper := match (cOps r13)[1]? with
  | some o => o
  | .none => default
theorem pJ : (cOps r13)[1]? = some opJ := by kernel_rfl
theorem pJg : opJ.guard = .none := by kernel_rfl
theorem pJd : opJ.dst = some 33 := by kernel_rfl
theorem actJ (env : Env) : act G0 env.get opJ.op = actCall G0 env.get (match opJ.op with | .call c => c | _ => default) := by kernel_rfl
noncomputable def KH (l : List (Nat × V)) (h : H) (env : Env) (h' : H) : Prop := hasT env l ∧ env.sz = 34 ∧ h' = h
theorem wJ0 (o : V) (h : H) : (regW G0 sp cT iText (cOps r13) (opsPart (cOps r13) 0 1) (envL 34 [(4, o)]) h (KH [(4, o), (32, o)] h)) = (
(((some o) = (some o)) ∧
 (((some o) = (some o)) ∧
  (True))) ∧
(((34) = (34)) ∧
 ((h) = (h)))) := by kernel_rfl
theorem wJ2 (s : List UInt8) (h : H) : (regW G0 sp cT iText (cOps r13) (opsPart (cOps r13) 2 2) (envL 34 [(33, .str s)]) h (KH [(2, .str s), (3, .int .i64 (Int.ofNat 0))] h)) = (
(((some (V.str s)) = (some (V.str s))) ∧
 (((some (V.int IntKind.i64 (Int.ofNat 0))) = (some (V.int IntKind.i64 (Int.ofNat 0)))) ∧
  (True))) ∧
(((34) = (34)) ∧
 ((h) = (h)))) := by kernel_rfl
theorem wJ3 (s : List UInt8) (h : H) (R : V → Prop) : (evW G0 sp 40 .ret none iText (S [(2, .str s), (3, .int .i64 (Int.ofNat 0))] h) (fun x st => match x with | .ret => retIs R st | _ => False)) = (
(R (V.tuple [V.str s, V.int IntKind.i64 (Int.ofNat 0)]))) := by kernel_rfl
end JT
end Go.Proofs.YtgadijnefbmgkaaGreatDoor

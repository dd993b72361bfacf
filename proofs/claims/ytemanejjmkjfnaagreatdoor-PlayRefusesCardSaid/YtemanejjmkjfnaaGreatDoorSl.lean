/- slots.New makes a table whose size is known, or refuses numbers. -/
import Derived.Test.YtemanejjmkjfnaaGreatDoorMc1
import Derived.Test.YtemanejjmkjfnaaGreatDoorEvF
import Derived.Test.YtemanejjmkjfnaaGreatDoorKp
namespace Go.Proofs.YtemanejjmkjfnaaGreatDoor
set_option maxRecDepth 100000
open Go.Ev Go.RowKit
def badSlots (a j : Int) : Bool := !decide (1 ≤ a ∧ a ≤ 256 ∧ 1 ≤ j ∧ j ≤ 4294967295)
theorem badSlots_t (a j : Int) : badSlots a j = true ↔ ¬ (1 ≤ a ∧ a ≤ 256 ∧ 1 ≤ j ∧ j ≤ 4294967295) := by simp only [badSlots, not_t, decide_eq_false_iff_not]
theorem badSlots_f (a j : Int) : badSlots a j = false ↔ (1 ≤ a ∧ a ≤ 256 ∧ 1 ≤ j ∧ j ≤ 4294967295) := by simp only [badSlots, not_f, decide_eq_true_eq]
namespace Slots
noncomputable def fn : Func := match Tryz.prog.funcs[iSlots]? with
  | some f => f
  | .none => default
noncomputable def code : Code := match fn.body with
  | some c => c
  | .none => .skip
noncomputable def r0 : Code := cFst code
noncomputable def x1 : Code := cSnd code
noncomputable def y1 : Code := cFst x1
noncomputable def x2 : Code := cSnd x1
noncomputable def r3 : Code := cFst x2
noncomputable def x3 : Code := cSnd x2
noncomputable def z : Code := cFst x3
noncomputable def x4 : Code := cSnd x3
noncomputable def r4 : Code := cFst z
noncomputable def bl : Code := cSnd z
noncomputable def lp : Code := cFst bl
noncomputable def bd : Code := cFst lp
theorem isFn : Tryz.prog.funcs[iSlots]? = some fn := by kernel_rfl
theorem body : fn.body = some code := by kernel_rfl
theorem q0 : code = .seq r0 x1 := by kernel_rfl
theorem q1 : x1 = .seq y1 x2 := by kernel_rfl
theorem q2 : x2 = .seq r3 x3 := by kernel_rfl
theorem q3 : x3 = .seq z x4 := by kernel_rfl
theorem q4 : z = .seq r4 bl := by kernel_rfl
theorem q5 : bl = .block 0 lp := by kernel_rfl
theorem q6 : lp = .loop bd := by kernel_rfl
theorem q7 : fn.ntmps = 35 := by kernel_rfl
theorem o0 : okC r0 = true := by kernel_rfl
theorem o1 : okC y1 = true := by kernel_rfl
theorem o3 : okC r3 = true := by kernel_rfl
theorem o4 : okC r4 = true := by kernel_rfl
theorem o5 : okC bd = true := by kernel_rfl
theorem o6 : okC x4 = true := by kernel_rfl
noncomputable def pat : List V := [.int .i64 0, .int .i64 0, .int .u32 0]
/-- a table's block: its size is known, whatever its slots hold -/
noncomputable def obj (a : Int) : O := .cells .none 513 [] (T.put .leaf 0 (some (.int .i64 a)))
noncomputable def hT (a : Int) : H := ⟨T.put .leaf 1000 (some (obj a)), 1001⟩
noncomputable def S (l : List (Nat × V)) (h : H) : St := ⟨envL 35 l, h, []⟩
noncomputable def blk (Z : O → Prop) : Option O → Prop
  | some o => Z o
  | .none => False
/-- it says no less than what is known of a table's block -/
def Z0 (a : Int) (o : O) : Prop := ((obj a).rw = true → o.rw = true) ∧ ∀ ρ L c, ORel ρ o L c → ORel ρ (obj a) L c
def noDefs : List Nat → Bool
  | [] => true
  | _ => false
theorem noDefs_eq {l : List Nat} (h : noDefs l = true) : l = [] := by
  cases l with
  | nil => rfl
  | cons => cases h
/-- a state that knows as much -/
noncomputable def has (Z : O → Prop) (l : List (Nat × V)) (st : St) : Prop := hasT st.env l ∧ st.env.sz = 35 ∧ noDefs st.defs = true ∧ st.h.next = 1001 ∧ blk Z (st.h.tr.get 1000)
noncomputable def retIs (b : Bool) (st : St) : Prop := match takeAll st.defs st.h with
  | some h2 => match resultsO G0 h2 st.env fn with
    | some v => madeK b 2 v
    | .none => False
  | .none => False
noncomputable def retG (Z : O → Prop) (st : St) : Prop := match takeAll st.defs st.h with
  | some h2 => match resultsO G0 h2 st.env fn with
    | some v => v = .tuple [.ptr 1000 0, .int .i64 0] ∧ blk Z (h2.tr.get 1000)
    | .none => False
  | .none => False
noncomputable def sp : SpF where
  at' := fun f t => match Nat.beq f iSlots, t with | true, 9 => .both | true, 12 => .both | true, 17 => .both | true, 24 => .both | true, 31 => .idx | true, 32 => .idx | _, _ => .keep
  kx := kx2 klGa plGa
noncomputable def K0 (a j : Int) (x : X) (st : St) : Prop := match x with
  | .normal => hasT st.env [(0, .int .i64 a), (1, .int .u32 j)] ∧ st.env.sz = 35 ∧ noDefs st.defs = true ∧ st.h.next = 1000
  | _ => False
noncomputable def K1 (a j : Int) (x : X) (st : St) : Prop := match x with
  | .normal => badSlots a j = false ∧ hasT st.env [(0, .int .i64 a), (1, .int .u32 j)] ∧ st.env.sz = 35 ∧ noDefs st.defs = true ∧ st.h.next = 1000
  | .ret => badSlots a j = true ∧ retIs true st
  | _ => False
noncomputable def K4 (Z : O → Prop) (l : List (Nat × V)) (x : X) (st : St) : Prop := match x with
  | .normal => has Z l st
  | _ => False
noncomputable def K5 (Z : O → Prop) (a i : Int) (l l' : List (Nat × V)) (x : X) (st : St) : Prop := match x with
  | .normal => ilt i a = true ∧ has Z l st
  | .exit n => n = 0 ∧ has Z l' st
  | _ => False
noncomputable def hE' : H := hE
noncomputable def inv (a j i : Int) : List (Nat × V) := [(1, .int .u32 j), (6, .ptr 1000 0), (22, .int .i64 a), (23, .int .i64 i)]
theorem w0 (a j : Int) : (evW Ga sp 100 r0 none iSlots (S [(0, .int .i64 a), (1, .int .u32 j)] hE) (K0 a j)) = (
(((some (V.int IntKind.i64 a)) = (some (V.int IntKind.i64 a))) ∧
 (((some (V.int IntKind.u32 j)) = (some (V.int IntKind.u32 j))) ∧
 (True))) ∧
(((35) = (35)) ∧
 (((true) = (true)) ∧
 ((1000) = (1000))))) := by kernel_rfl
theorem w1 (a j : Int) : (evW Ga sp 100 y1 none iSlots (S [(0, .int .i64 a), (1, .int .u32 j)] hE) (K1 a j)) = (
(((ilt a (Int.ofNat 1)) = (true)) → ((badSlots a j) = (true)) ∧
 (((true) = (true)) ∧
 (((IntKind.i64) = (IntKind.i64)) ∧
 ((Int.ofNat 2) = (Int.ofNat 2))))) ∧
(((ilt a (Int.ofNat 1)) = (false)) → (((ilt (Int.ofNat 256) a) = (true)) → ((badSlots a j) = (true)) ∧
 (((true) = (true)) ∧
 (((IntKind.i64) = (IntKind.i64)) ∧
 ((Int.ofNat 2) = (Int.ofNat 2))))) ∧
 (((ilt (Int.ofNat 256) a) = (false)) → (((!ieq (GensV j) (Int.ofNat 0)) = (true)) → ((badSlots a j) = (true)) ∧
 (((true) = (true)) ∧
 (((IntKind.i64) = (IntKind.i64)) ∧
 ((Int.ofNat 2) = (Int.ofNat 2))))) ∧
 (((!ieq (GensV j) (Int.ofNat 0)) = (false)) → ((badSlots a j) = (false)) ∧
 ((((some (V.int IntKind.i64 a)) = (some (V.int IntKind.i64 a))) ∧
 (((some (V.int IntKind.u32 j)) = (some (V.int IntKind.u32 j))) ∧
 (True))) ∧
 (((35) = (35)) ∧
 (((true) = (true)) ∧
 ((1000) = (1000))))))))) := by kernel_rfl
theorem w3 (Z : O → Prop) (a j : Int) : (evW Ga sp 100 r3 none iSlots (S [(0, .int .i64 a), (1, .int .u32 j)] hE) (K4 Z [(0, .int .i64 a), (1, .int .u32 j), (6, .ptr 1000 0)])) = (
(((some (V.int IntKind.i64 a)) = (some (V.int IntKind.i64 a))) ∧
 (((some (V.int IntKind.u32 j)) = (some (V.int IntKind.u32 j))) ∧
 (((some (V.ptr 1000 0)) = (some (V.ptr 1000 0))) ∧
 (True)))) ∧
(((35) = (35)) ∧
 (((true) = (true)) ∧
 (((1001) = (1001)) ∧
 ((Z
 (O.cells (some 321) 513 []
 (((((((((((T.leaf.node (some (V.int IntKind.i64 (Int.ofNat 0))) T.leaf).node
 (some (V.int IntKind.i64 (Int.ofNat 0))) T.leaf).node
 (some (V.int IntKind.i64 (Int.ofNat 0)))
 (T.leaf.node (some (V.int IntKind.i64 (Int.ofNat 0))) T.leaf)).node
 (some (V.int IntKind.i64 (Int.ofNat 0)))
 ((T.leaf.node (some (V.int IntKind.i64 (Int.ofNat 0))) T.leaf).node
 (some (V.int IntKind.i64 (Int.ofNat 0)))
 (T.leaf.node (some (V.int IntKind.i64 (Int.ofNat 0))) T.leaf))).node
 (some (V.int IntKind.i64 (Int.ofNat 0)))
 (((T.leaf.node (some (V.int IntKind.i64 (Int.ofNat 0))) T.leaf).node
 (some (V.int IntKind.i64 (Int.ofNat 0)))
 (T.leaf.node (some (V.int IntKind.i64 (Int.ofNat 0))) T.leaf)).node
 (some (V.int IntKind.i64 (Int.ofNat 0)))
 ((T.leaf.node (some (V.int IntKind.i64 (Int.ofNat 0))) T.leaf).node
 (some (V.int IntKind.i64 (Int.ofNat 0)))
 (T.leaf.node (some (V.int IntKind.i64 (Int.ofNat 0))) T.leaf)))).node
 (some (V.int IntKind.i64 (Int.ofNat 0)))
 ((((T.leaf.node (some (V.int IntKind.i64 (Int.ofNat 0))) T.leaf).node
 (some (V.int IntKind.i64 (Int.ofNat 0)))
 (T.leaf.node (some (V.int IntKind.i64 (Int.ofNat 0))) T.leaf)).node
 (some (V.int IntKind.i64 (Int.ofNat 0)))
 ((T.leaf.node (some (V.int IntKind.i64 (Int.ofNat 0))) T.leaf).node
 (some (V.int IntKind.i64 (Int.ofNat 0)))
 (T.leaf.node (some (V.int IntKind.i64 (Int.ofNat 0))) T.leaf))).node
 (some (V.int IntKind.i64 (Int.ofNat 0)))
 (((T.leaf.node (some (V.int IntKind.i64 (Int.ofNat 0))) T.leaf).node
 (some (V.int IntKind.i64 (Int.ofNat 0)))
 (T.leaf.node (some (V.int IntKind.i64 (Int.ofNat 0))) T.leaf)).node
 (some (V.int IntKind.i64 (Int.ofNat 0)))
 ((T.leaf.node (some (V.int IntKind.i64 (Int.ofNat 0))) T.leaf).node
 (some (V.int IntKind.i64 (Int.ofNat 0)))
 (T.leaf.node (some (V.int IntKind.i64 (Int.ofNat 0))) T.leaf))))).node
 (some (V.int IntKind.i64 (Int.ofNat 0)))
 (((((T.leaf.node (some (V.int IntKind.i64 (Int.ofNat 0))) T.leaf).node
 (some (V.int IntKind.i64 (Int.ofNat 0)))
 (T.leaf.node (some (V.int IntKind.i64 (Int.ofNat 0))) T.leaf)).node
 (some (V.int IntKind.i64 (Int.ofNat 0)))
 ((T.leaf.node (some (V.int IntKind.i64 (Int.ofNat 0))) T.leaf).node
 (some (V.int IntKind.i64 (Int.ofNat 0)))
 (T.leaf.node (some (V.int IntKind.i64 (Int.ofNat 0))) T.leaf))).node
 (some (V.int IntKind.i64 (Int.ofNat 0)))
 (((T.leaf.node (some (V.int IntKind.i64 (Int.ofNat 0))) T.leaf).node
 (some (V.int IntKind.i64 (Int.ofNat 0)))
 (T.leaf.node (some (V.int IntKind.i64 (Int.ofNat 0))) T.leaf)).node
 (some (V.int IntKind.i64 (Int.ofNat 0)))
 ((T.leaf.node (some (V.int IntKind.i64 (Int.ofNat 0))) T.leaf).node
 (some (V.int IntKind.i64 (Int.ofNat 0)))
 (T.leaf.node (some (V.int IntKind.i64 (Int.ofNat 0))) T.leaf)))).node
 (some (V.int IntKind.i64 (Int.ofNat 0)))
 ((((T.leaf.node (some (V.int IntKind.i64 (Int.ofNat 0))) T.leaf).node
 (some (V.int IntKind.i64 (Int.ofNat 0)))
 (T.leaf.node (some (V.int IntKind.i64 (Int.ofNat 0))) T.leaf)).node
 (some (V.int IntKind.i64 (Int.ofNat 0)))
 ((T.leaf.node (some (V.int IntKind.i64 (Int.ofNat 0))) T.leaf).node
 (some (V.int IntKind.i64 (Int.ofNat 0)))
 (T.leaf.node (some (V.int IntKind.i64 (Int.ofNat 0))) T.leaf))).node
 (some (V.int IntKind.i64 (Int.ofNat 0)))
 (((T.leaf.node (some (V.int IntKind.i64 (Int.ofNat 0))) T.leaf).node
 (some (V.int IntKind.i64 (Int.ofNat 0)))
 (T.leaf.node (some (V.int IntKind.i64 (Int.ofNat 0))) T.leaf)).node
 (some (V.int IntKind.i64 (Int.ofNat 0)))
 ((T.leaf.node (some (V.int IntKind.i64 (Int.ofNat 0))) T.leaf).node
 (some (V.int IntKind.i64 (Int.ofNat 0)))
 (T.leaf.node (some (V.int IntKind.i64 (Int.ofNat 0))) T.leaf)))))).node
 (some (V.int IntKind.i64 (Int.ofNat 0)))
 ((((((T.leaf.node (some (V.int IntKind.i64 (Int.ofNat 0))) T.leaf).node
 (some (V.int IntKind.i64 (Int.ofNat 0)))
 (T.leaf.node (some (V.int IntKind.i64 (Int.ofNat 0))) T.leaf)).node
 (some (V.int IntKind.i64 (Int.ofNat 0)))
 ((T.leaf.node (some (V.int IntKind.i64 (Int.ofNat 0))) T.leaf).node
 (some (V.int IntKind.i64 (Int.ofNat 0)))
 (T.leaf.node (some (V.int IntKind.i64 (Int.ofNat 0))) T.leaf))).node
 (some (V.int IntKind.i64 (Int.ofNat 0)))
 (((T.leaf.node (some (V.int IntKind.i64 (Int.ofNat 0))) T.leaf).node
 (some (V.int IntKind.i64 (Int.ofNat 0)))
 (T.leaf.node (some (V.int IntKind.i64 (Int.ofNat 0))) T.leaf)).node
 (some (V.int IntKind.i64 (Int.ofNat 0)))
 ((T.leaf.node (some (V.int IntKind.i64 (Int.ofNat 0))) T.leaf).node
 (some (V.int IntKind.i64 (Int.ofNat 0)))
 (T.leaf.node (some (V.int IntKind.i64 (Int.ofNat 0))) T.leaf)))).node
 (some (V.int IntKind.i64 (Int.ofNat 0)))
 ((((T.leaf.node (some (V.int IntKind.i64 (Int.ofNat 0))) T.leaf).node
 (some (V.int IntKind.i64 (Int.ofNat 0)))
 (T.leaf.node (some (V.int IntKind.i64 (Int.ofNat 0))) T.leaf)).node
 (some (V.int IntKind.i64 (Int.ofNat 0)))
 ((T.leaf.node (some (V.int IntKind.i64 (Int.ofNat 0))) T.leaf).node
 (some (V.int IntKind.i64 (Int.ofNat 0)))
 (T.leaf.node (some (V.int IntKind.i64 (Int.ofNat 0))) T.leaf))).node
 (some (V.int IntKind.i64 (Int.ofNat 0)))
 (((T.leaf.node (some (V.int IntKind.i64 (Int.ofNat 0))) T.leaf).node
 (some (V.int IntKind.i64 (Int.ofNat 0)))
 (T.leaf.node (some (V.int IntKind.i64 (Int.ofNat 0))) T.leaf)).node
 (some (V.int IntKind.i64 (Int.ofNat 0)))
 ((T.leaf.node (some (V.int IntKind.i64 (Int.ofNat 0))) T.leaf).node
 (some (V.int IntKind.i64 (Int.ofNat 0)))
 (T.leaf.node (some (V.int IntKind.i64 (Int.ofNat 0))) T.leaf))))).node
 (some (V.int IntKind.i64 (Int.ofNat 0)))
 (((((T.leaf.node (some (V.int IntKind.i64 (Int.ofNat 0))) T.leaf).node
 (some (V.int IntKind.i64 (Int.ofNat 0)))
 (T.leaf.node (some (V.int IntKind.i64 (Int.ofNat 0))) T.leaf)).node
 (some (V.int IntKind.i64 (Int.ofNat 0)))
 ((T.leaf.node (some (V.int IntKind.i64 (Int.ofNat 0))) T.leaf).node
 (some (V.int IntKind.i64 (Int.ofNat 0)))
 (T.leaf.node (some (V.int IntKind.i64 (Int.ofNat 0))) T.leaf))).node
 (some (V.int IntKind.i64 (Int.ofNat 0)))
 (((T.leaf.node (some (V.int IntKind.i64 (Int.ofNat 0))) T.leaf).node
 (some (V.int IntKind.i64 (Int.ofNat 0)))
 (T.leaf.node (some (V.int IntKind.i64 (Int.ofNat 0))) T.leaf)).node
 (some (V.int IntKind.i64 (Int.ofNat 0)))
 ((T.leaf.node (some (V.int IntKind.i64 (Int.ofNat 0))) T.leaf).node
 (some (V.int IntKind.i64 (Int.ofNat 0)))
 (T.leaf.node (some (V.int IntKind.i64 (Int.ofNat 0))) T.leaf)))).node
 (some (V.int IntKind.i64 (Int.ofNat 0)))
 ((((T.leaf.node (some (V.int IntKind.i64 (Int.ofNat 0))) T.leaf).node
 (some (V.int IntKind.i64 (Int.ofNat 0)))
 (T.leaf.node (some (V.int IntKind.i64 (Int.ofNat 0))) T.leaf)).node
 (some (V.int IntKind.i64 (Int.ofNat 0)))
 ((T.leaf.node (some (V.int IntKind.i64 (Int.ofNat 0))) T.leaf).node
 (some (V.int IntKind.i64 (Int.ofNat 0)))
 (T.leaf.node (some (V.int IntKind.i64 (Int.ofNat 0))) T.leaf))).node
 (some (V.int IntKind.i64 (Int.ofNat 0)))
 (((T.leaf.node (some (V.int IntKind.i64 (Int.ofNat 0))) T.leaf).node
 (some (V.int IntKind.i64 (Int.ofNat 0)))
 (T.leaf.node (some (V.int IntKind.i64 (Int.ofNat 0))) T.leaf)).node
 (some (V.int IntKind.i64 (Int.ofNat 0)))
 ((T.leaf.node (some (V.int IntKind.i64 (Int.ofNat 0))) T.leaf).node
 (some (V.int IntKind.i64 (Int.ofNat 0)))
 (T.leaf.node (some (V.int IntKind.i64 (Int.ofNat 0))) T.leaf))))))).node
 (some (V.int IntKind.i64 (Int.ofNat 0)))
 (((((((T.leaf.node (some (V.int IntKind.i64 (Int.ofNat 0))) T.leaf).node
 (some (V.int IntKind.i64 (Int.ofNat 0)))
 (T.leaf.node (some (V.int IntKind.i64 (Int.ofNat 0))) T.leaf)).node
 (some (V.int IntKind.i64 (Int.ofNat 0)))
 ((T.leaf.node (some (V.int IntKind.i64 (Int.ofNat 0))) T.leaf).node
 (some (V.int IntKind.i64 (Int.ofNat 0)))
 (T.leaf.node (some (V.int IntKind.i64 (Int.ofNat 0))) T.leaf))).node
 (some (V.int IntKind.i64 (Int.ofNat 0)))
 (((T.leaf.node (some (V.int IntKind.i64 (Int.ofNat 0))) T.leaf).node
 (some (V.int IntKind.i64 (Int.ofNat 0)))
 (T.leaf.node (some (V.int IntKind.i64 (Int.ofNat 0))) T.leaf)).node
 (some (V.int IntKind.i64 (Int.ofNat 0)))
 ((T.leaf.node (some (V.int IntKind.i64 (Int.ofNat 0))) T.leaf).node
 (some (V.int IntKind.i64 (Int.ofNat 0)))
 (T.leaf.node (some (V.int IntKind.i64 (Int.ofNat 0))) T.leaf)))).node
 (some (V.int IntKind.i64 (Int.ofNat 0)))
 ((((T.leaf.node (some (V.int IntKind.i64 (Int.ofNat 0))) T.leaf).node
 (some (V.int IntKind.i64 (Int.ofNat 0)))
 (T.leaf.node (some (V.int IntKind.i64 (Int.ofNat 0))) T.leaf)).node
 (some (V.int IntKind.i64 (Int.ofNat 0)))
 ((T.leaf.node (some (V.int IntKind.i64 (Int.ofNat 0))) T.leaf).node
 (some (V.int IntKind.i64 (Int.ofNat 0)))
 (T.leaf.node (some (V.int IntKind.i64 (Int.ofNat 0))) T.leaf))).node
 (some (V.int IntKind.i64 (Int.ofNat 0)))
 (((T.leaf.node (some (V.int IntKind.i64 (Int.ofNat 0))) T.leaf).node
 (some (V.int IntKind.i64 (Int.ofNat 0)))
 (T.leaf.node (some (V.int IntKind.i64 (Int.ofNat 0))) T.leaf)).node
 (some (V.int IntKind.i64 (Int.ofNat 0)))
 ((T.leaf.node (some (V.int IntKind.i64 (Int.ofNat 0))) T.leaf).node
 (some (V.int IntKind.i64 (Int.ofNat 0)))
 (T.leaf.node (some (V.int IntKind.i64 (Int.ofNat 0))) T.leaf))))).node
 (some (V.int IntKind.i64 (Int.ofNat 0)))
 (((((T.leaf.node (some (V.int IntKind.i64 (Int.ofNat 0))) T.leaf).node
 (some (V.int IntKind.i64 (Int.ofNat 0)))
 (T.leaf.node (some (V.int IntKind.i64 (Int.ofNat 0))) T.leaf)).node
 (some (V.int IntKind.i64 (Int.ofNat 0)))
 ((T.leaf.node (some (V.int IntKind.i64 (Int.ofNat 0))) T.leaf).node
 (some (V.int IntKind.i64 (Int.ofNat 0)))
 (T.leaf.node (some (V.int IntKind.i64 (Int.ofNat 0))) T.leaf))).node
 (some (V.int IntKind.i64 (Int.ofNat 0)))
 (((T.leaf.node (some (V.int IntKind.i64 (Int.ofNat 0))) T.leaf).node
 (some (V.int IntKind.i64 (Int.ofNat 0)))
 (T.leaf.node (some (V.int IntKind.i64 (Int.ofNat 0))) T.leaf)).node
 (some (V.int IntKind.i64 (Int.ofNat 0)))
 ((T.leaf.node (some (V.int IntKind.i64 (Int.ofNat 0))) T.leaf).node
 (some (V.int IntKind.i64 (Int.ofNat 0)))
 (T.leaf.node (some (V.int IntKind.i64 (Int.ofNat 0))) T.leaf)))).node
 (some (V.int IntKind.i64 (Int.ofNat 0)))
 ((((T.leaf.node (some (V.int IntKind.i64 (Int.ofNat 0))) T.leaf).node
 (some (V.int IntKind.i64 (Int.ofNat 0)))
 (T.leaf.node (some (V.int IntKind.i64 (Int.ofNat 0))) T.leaf)).node
 (some (V.int IntKind.i64 (Int.ofNat 0)))
 ((T.leaf.node (some (V.int IntKind.i64 (Int.ofNat 0))) T.leaf).node
 (some (V.int IntKind.i64 (Int.ofNat 0)))
 (T.leaf.node (some (V.int IntKind.i64 (Int.ofNat 0))) T.leaf))).node
 (some (V.int IntKind.i64 (Int.ofNat 0)))
 (((T.leaf.node (some (V.int IntKind.i64 (Int.ofNat 0))) T.leaf).node
 (some (V.int IntKind.i64 (Int.ofNat 0)))
 (T.leaf.node (some (V.int IntKind.i64 (Int.ofNat 0))) T.leaf)).node
 (some (V.int IntKind.i64 (Int.ofNat 0)))
 ((T.leaf.node (some (V.int IntKind.i64 (Int.ofNat 0))) T.leaf).node
 (some (V.int IntKind.i64 (Int.ofNat 0)))
 (T.leaf.node (some (V.int IntKind.i64 (Int.ofNat 0))) T.leaf)))))).node
 (some (V.int IntKind.i64 (Int.ofNat 0)))
 ((((((T.leaf.node (some (V.int IntKind.i64 (Int.ofNat 0))) T.leaf).node
 (some (V.int IntKind.i64 (Int.ofNat 0)))
 (T.leaf.node (some (V.int IntKind.i64 (Int.ofNat 0))) T.leaf)).node
 (some (V.int IntKind.i64 (Int.ofNat 0)))
 ((T.leaf.node (some (V.int IntKind.i64 (Int.ofNat 0))) T.leaf).node
 (some (V.int IntKind.i64 (Int.ofNat 0)))
 (T.leaf.node (some (V.int IntKind.i64 (Int.ofNat 0))) T.leaf))).node
 (some (V.int IntKind.i64 (Int.ofNat 0)))
 (((T.leaf.node (some (V.int IntKind.i64 (Int.ofNat 0))) T.leaf).node
 (some (V.int IntKind.i64 (Int.ofNat 0)))
 (T.leaf.node (some (V.int IntKind.i64 (Int.ofNat 0))) T.leaf)).node
 (some (V.int IntKind.i64 (Int.ofNat 0)))
 ((T.leaf.node (some (V.int IntKind.i64 (Int.ofNat 0))) T.leaf).node
 (some (V.int IntKind.i64 (Int.ofNat 0)))
 (T.leaf.node (some (V.int IntKind.i64 (Int.ofNat 0))) T.leaf)))).node
 (some (V.int IntKind.i64 (Int.ofNat 0)))
 ((((T.leaf.node (some (V.int IntKind.i64 (Int.ofNat 0))) T.leaf).node
 (some (V.int IntKind.i64 (Int.ofNat 0)))
 (T.leaf.node (some (V.int IntKind.i64 (Int.ofNat 0))) T.leaf)).node
 (some (V.int IntKind.i64 (Int.ofNat 0)))
 ((T.leaf.node (some (V.int IntKind.i64 (Int.ofNat 0))) T.leaf).node
 (some (V.int IntKind.i64 (Int.ofNat 0)))
 (T.leaf.node (some (V.int IntKind.i64 (Int.ofNat 0))) T.leaf))).node
 (some (V.int IntKind.i64 (Int.ofNat 0)))
 (((T.leaf.node (some (V.int IntKind.i64 (Int.ofNat 0))) T.leaf).node
 (some (V.int IntKind.i64 (Int.ofNat 0)))
 (T.leaf.node (some (V.int IntKind.i64 (Int.ofNat 0))) T.leaf)).node
 (some (V.int IntKind.i64 (Int.ofNat 0)))
 ((T.leaf.node (some (V.int IntKind.i64 (Int.ofNat 0))) T.leaf).node
 (some (V.int IntKind.i64 (Int.ofNat 0)))
 (T.leaf.node (some (V.int IntKind.i64 (Int.ofNat 0))) T.leaf))))).node
 (some (V.int IntKind.i64 (Int.ofNat 0)))
 (((((T.leaf.node (some (V.int IntKind.i64 (Int.ofNat 0))) T.leaf).node
 (some (V.int IntKind.i64 (Int.ofNat 0)))
 (T.leaf.node (some (V.int IntKind.i64 (Int.ofNat 0))) T.leaf)).node
 (some (V.int IntKind.i64 (Int.ofNat 0)))
 ((T.leaf.node (some (V.int IntKind.i64 (Int.ofNat 0))) T.leaf).node
 (some (V.int IntKind.i64 (Int.ofNat 0)))
 (T.leaf.node (some (V.int IntKind.i64 (Int.ofNat 0))) T.leaf))).node
 (some (V.int IntKind.i64 (Int.ofNat 0)))
 (((T.leaf.node (some (V.int IntKind.i64 (Int.ofNat 0))) T.leaf).node
 (some (V.int IntKind.i64 (Int.ofNat 0)))
 (T.leaf.node (some (V.int IntKind.i64 (Int.ofNat 0))) T.leaf)).node
 (some (V.int IntKind.i64 (Int.ofNat 0)))
 ((T.leaf.node (some (V.int IntKind.i64 (Int.ofNat 0))) T.leaf).node
 (some (V.int IntKind.i64 (Int.ofNat 0)))
 (T.leaf.node (some (V.int IntKind.i64 (Int.ofNat 0))) T.leaf)))).node
 (some (V.int IntKind.i64 (Int.ofNat 0)))
 ((((T.leaf.node (some (V.int IntKind.i64 (Int.ofNat 0))) T.leaf).node
 (some (V.int IntKind.i64 (Int.ofNat 0)))
 (T.leaf.node (some (V.int IntKind.i64 (Int.ofNat 0))) T.leaf)).node
 (some (V.int IntKind.i64 (Int.ofNat 0)))
 ((T.leaf.node (some (V.int IntKind.i64 (Int.ofNat 0))) T.leaf).node
 (some (V.int IntKind.i64 (Int.ofNat 0)))
 (T.leaf.node (some (V.int IntKind.i64 (Int.ofNat 0))) T.leaf))).node
 (some (V.int IntKind.i64 (Int.ofNat 0)))
 (((T.leaf.node (some (V.int IntKind.i64 (Int.ofNat 0))) T.leaf).node
 (some (V.int IntKind.i64 (Int.ofNat 0)))
 (T.leaf.node (some (V.int IntKind.i64 (Int.ofNat 0))) T.leaf)).node
 (some (V.int IntKind.i64 (Int.ofNat 0)))
 ((T.leaf.node (some (V.int IntKind.i64 (Int.ofNat 0))) T.leaf).node
 (some (V.int IntKind.i64 (Int.ofNat 0)))
 (T.leaf.node (some (V.int IntKind.i64 (Int.ofNat 0))) T.leaf)))))))).node
 (some (V.int IntKind.i64 (Int.ofNat 0)))
 (((((((((T.leaf.node (some (V.int IntKind.u32 (Int.ofNat 0))) T.leaf).node
 (some (V.int IntKind.u32 (Int.ofNat 0))) T.leaf).node
 (some (V.int IntKind.u32 (Int.ofNat 0)))
 (T.leaf.node (some (V.int IntKind.u32 (Int.ofNat 0))) T.leaf)).node
 (some (V.int IntKind.u32 (Int.ofNat 0)))
 ((T.leaf.node (some (V.int IntKind.u32 (Int.ofNat 0))) T.leaf).node
 (some (V.int IntKind.u32 (Int.ofNat 0)))
 (T.leaf.node (some (V.int IntKind.u32 (Int.ofNat 0))) T.leaf))).node
 (some (V.int IntKind.u32 (Int.ofNat 0)))
 (((T.leaf.node (some (V.int IntKind.u32 (Int.ofNat 0))) T.leaf).node
 (some (V.int IntKind.u32 (Int.ofNat 0)))
 (T.leaf.node (some (V.int IntKind.u32 (Int.ofNat 0))) T.leaf)).node
 (some (V.int IntKind.u32 (Int.ofNat 0)))
 ((T.leaf.node (some (V.int IntKind.u32 (Int.ofNat 0))) T.leaf).node
 (some (V.int IntKind.u32 (Int.ofNat 0)))
 (T.leaf.node (some (V.int IntKind.u32 (Int.ofNat 0))) T.leaf)))).node
 (some (V.int IntKind.u32 (Int.ofNat 0)))
 ((((T.leaf.node (some (V.int IntKind.u32 (Int.ofNat 0))) T.leaf).node
 (some (V.int IntKind.u32 (Int.ofNat 0)))
 (T.leaf.node (some (V.int IntKind.u32 (Int.ofNat 0))) T.leaf)).node
 (some (V.int IntKind.u32 (Int.ofNat 0)))
 ((T.leaf.node (some (V.int IntKind.u32 (Int.ofNat 0))) T.leaf).node
 (some (V.int IntKind.u32 (Int.ofNat 0)))
 (T.leaf.node (some (V.int IntKind.u32 (Int.ofNat 0))) T.leaf))).node
 (some (V.int IntKind.u32 (Int.ofNat 0)))
 (((T.leaf.node (some (V.int IntKind.u32 (Int.ofNat 0))) T.leaf).node
 (some (V.int IntKind.u32 (Int.ofNat 0)))
 (T.leaf.node (some (V.int IntKind.u32 (Int.ofNat 0))) T.leaf)).node
 (some (V.int IntKind.u32 (Int.ofNat 0)))
 ((T.leaf.node (some (V.int IntKind.u32 (Int.ofNat 0))) T.leaf).node
 (some (V.int IntKind.u32 (Int.ofNat 0)))
 (T.leaf.node (some (V.int IntKind.u32 (Int.ofNat 0))) T.leaf))))).node
 (some (V.int IntKind.u32 (Int.ofNat 0)))
 (((((T.leaf.node (some (V.int IntKind.u32 (Int.ofNat 0))) T.leaf).node
 (some (V.int IntKind.u32 (Int.ofNat 0)))
 (T.leaf.node (some (V.int IntKind.u32 (Int.ofNat 0))) T.leaf)).node
 (some (V.int IntKind.u32 (Int.ofNat 0)))
 ((T.leaf.node (some (V.int IntKind.u32 (Int.ofNat 0))) T.leaf).node
 (some (V.int IntKind.u32 (Int.ofNat 0)))
 (T.leaf.node (some (V.int IntKind.u32 (Int.ofNat 0))) T.leaf))).node
 (some (V.int IntKind.u32 (Int.ofNat 0)))
 (((T.leaf.node (some (V.int IntKind.u32 (Int.ofNat 0))) T.leaf).node
 (some (V.int IntKind.u32 (Int.ofNat 0)))
 (T.leaf.node (some (V.int IntKind.u32 (Int.ofNat 0))) T.leaf)).node
 (some (V.int IntKind.u32 (Int.ofNat 0)))
 ((T.leaf.node (some (V.int IntKind.u32 (Int.ofNat 0))) T.leaf).node
 (some (V.int IntKind.u32 (Int.ofNat 0)))
 (T.leaf.node (some (V.int IntKind.u32 (Int.ofNat 0))) T.leaf)))).node
 (some (V.int IntKind.u32 (Int.ofNat 0)))
 ((((T.leaf.node (some (V.int IntKind.u32 (Int.ofNat 0))) T.leaf).node
 (some (V.int IntKind.u32 (Int.ofNat 0)))
 (T.leaf.node (some (V.int IntKind.u32 (Int.ofNat 0))) T.leaf)).node
 (some (V.int IntKind.u32 (Int.ofNat 0)))
 ((T.leaf.node (some (V.int IntKind.u32 (Int.ofNat 0))) T.leaf).node
 (some (V.int IntKind.u32 (Int.ofNat 0)))
 (T.leaf.node (some (V.int IntKind.u32 (Int.ofNat 0))) T.leaf))).node
 (some (V.int IntKind.u32 (Int.ofNat 0)))
 (((T.leaf.node (some (V.int IntKind.u32 (Int.ofNat 0))) T.leaf).node
 (some (V.int IntKind.u32 (Int.ofNat 0)))
 (T.leaf.node (some (V.int IntKind.u32 (Int.ofNat 0))) T.leaf)).node
 (some (V.int IntKind.u32 (Int.ofNat 0)))
 ((T.leaf.node (some (V.int IntKind.u32 (Int.ofNat 0))) T.leaf).node
 (some (V.int IntKind.u32 (Int.ofNat 0)))
 (T.leaf.node (some (V.int IntKind.u32 (Int.ofNat 0))) T.leaf)))))).node
 (some (V.int IntKind.u32 (Int.ofNat 0)))
 ((((((T.leaf.node (some (V.int IntKind.u32 (Int.ofNat 0))) T.leaf).node
 (some (V.int IntKind.u32 (Int.ofNat 0)))
 (T.leaf.node (some (V.int IntKind.u32 (Int.ofNat 0))) T.leaf)).node
 (some (V.int IntKind.u32 (Int.ofNat 0)))
 ((T.leaf.node (some (V.int IntKind.u32 (Int.ofNat 0))) T.leaf).node
 (some (V.int IntKind.u32 (Int.ofNat 0)))
 (T.leaf.node (some (V.int IntKind.u32 (Int.ofNat 0))) T.leaf))).node
 (some (V.int IntKind.u32 (Int.ofNat 0)))
 (((T.leaf.node (some (V.int IntKind.u32 (Int.ofNat 0))) T.leaf).node
 (some (V.int IntKind.u32 (Int.ofNat 0)))
 (T.leaf.node (some (V.int IntKind.u32 (Int.ofNat 0))) T.leaf)).node
 (some (V.int IntKind.u32 (Int.ofNat 0)))
 ((T.leaf.node (some (V.int IntKind.u32 (Int.ofNat 0))) T.leaf).node
 (some (V.int IntKind.u32 (Int.ofNat 0)))
 (T.leaf.node (some (V.int IntKind.u32 (Int.ofNat 0))) T.leaf)))).node
 (some (V.int IntKind.u32 (Int.ofNat 0)))
 ((((T.leaf.node (some (V.int IntKind.u32 (Int.ofNat 0))) T.leaf).node
 (some (V.int IntKind.u32 (Int.ofNat 0)))
 (T.leaf.node (some (V.int IntKind.u32 (Int.ofNat 0))) T.leaf)).node
 (some (V.int IntKind.u32 (Int.ofNat 0)))
 ((T.leaf.node (some (V.int IntKind.u32 (Int.ofNat 0))) T.leaf).node
 (some (V.int IntKind.u32 (Int.ofNat 0)))
 (T.leaf.node (some (V.int IntKind.u32 (Int.ofNat 0))) T.leaf))).node
 (some (V.int IntKind.u32 (Int.ofNat 0)))
 (((T.leaf.node (some (V.int IntKind.u32 (Int.ofNat 0))) T.leaf).node
 (some (V.int IntKind.u32 (Int.ofNat 0)))
 (T.leaf.node (some (V.int IntKind.u32 (Int.ofNat 0))) T.leaf)).node
 (some (V.int IntKind.u32 (Int.ofNat 0)))
 ((T.leaf.node (some (V.int IntKind.u32 (Int.ofNat 0))) T.leaf).node
 (some (V.int IntKind.u32 (Int.ofNat 0)))
 (T.leaf.node (some (V.int IntKind.u32 (Int.ofNat 0))) T.leaf))))).node
 (some (V.int IntKind.u32 (Int.ofNat 0)))
 (((((T.leaf.node (some (V.int IntKind.u32 (Int.ofNat 0))) T.leaf).node
 (some (V.int IntKind.u32 (Int.ofNat 0)))
 (T.leaf.node (some (V.int IntKind.u32 (Int.ofNat 0))) T.leaf)).node
 (some (V.int IntKind.u32 (Int.ofNat 0)))
 ((T.leaf.node (some (V.int IntKind.u32 (Int.ofNat 0))) T.leaf).node
 (some (V.int IntKind.u32 (Int.ofNat 0)))
 (T.leaf.node (some (V.int IntKind.u32 (Int.ofNat 0))) T.leaf))).node
 (some (V.int IntKind.u32 (Int.ofNat 0)))
 (((T.leaf.node (some (V.int IntKind.u32 (Int.ofNat 0))) T.leaf).node
 (some (V.int IntKind.u32 (Int.ofNat 0)))
 (T.leaf.node (some (V.int IntKind.u32 (Int.ofNat 0))) T.leaf)).node
 (some (V.int IntKind.u32 (Int.ofNat 0)))
 ((T.leaf.node (some (V.int IntKind.u32 (Int.ofNat 0))) T.leaf).node
 (some (V.int IntKind.u32 (Int.ofNat 0)))
 (T.leaf.node (some (V.int IntKind.u32 (Int.ofNat 0))) T.leaf)))).node
 (some (V.int IntKind.u32 (Int.ofNat 0)))
 ((((T.leaf.node (some (V.int IntKind.u32 (Int.ofNat 0))) T.leaf).node
 (some (V.int IntKind.u32 (Int.ofNat 0)))
 (T.leaf.node (some (V.int IntKind.u32 (Int.ofNat 0))) T.leaf)).node
 (some (V.int IntKind.u32 (Int.ofNat 0)))
 ((T.leaf.node (some (V.int IntKind.u32 (Int.ofNat 0))) T.leaf).node
 (some (V.int IntKind.u32 (Int.ofNat 0)))
 (T.leaf.node (some (V.int IntKind.u32 (Int.ofNat 0))) T.leaf))).node
 (some (V.int IntKind.u32 (Int.ofNat 0)))
 (((T.leaf.node (some (V.int IntKind.u32 (Int.ofNat 0))) T.leaf).node
 (some (V.int IntKind.u32 (Int.ofNat 0)))
 (T.leaf.node (some (V.int IntKind.u32 (Int.ofNat 0))) T.leaf)).node
 (some (V.int IntKind.u32 (Int.ofNat 0)))
 ((T.leaf.node (some (V.int IntKind.u32 (Int.ofNat 0))) T.leaf).node
 (some (V.int IntKind.u32 (Int.ofNat 0)))
 (T.leaf.node (some (V.int IntKind.u32 (Int.ofNat 0))) T.leaf))))))).node
 (some (V.int IntKind.u32 (Int.ofNat 0)))
 (((((((T.leaf.node (some (V.int IntKind.u32 (Int.ofNat 0))) T.leaf).node
 (some (V.int IntKind.u32 (Int.ofNat 0)))
 (T.leaf.node (some (V.int IntKind.u32 (Int.ofNat 0))) T.leaf)).node
 (some (V.int IntKind.u32 (Int.ofNat 0)))
 ((T.leaf.node (some (V.int IntKind.u32 (Int.ofNat 0))) T.leaf).node
 (some (V.int IntKind.u32 (Int.ofNat 0)))
 (T.leaf.node (some (V.int IntKind.u32 (Int.ofNat 0))) T.leaf))).node
 (some (V.int IntKind.u32 (Int.ofNat 0)))
 (((T.leaf.node (some (V.int IntKind.u32 (Int.ofNat 0))) T.leaf).node
 (some (V.int IntKind.u32 (Int.ofNat 0)))
 (T.leaf.node (some (V.int IntKind.u32 (Int.ofNat 0))) T.leaf)).node
 (some (V.int IntKind.u32 (Int.ofNat 0)))
 ((T.leaf.node (some (V.int IntKind.u32 (Int.ofNat 0))) T.leaf).node
 (some (V.int IntKind.u32 (Int.ofNat 0)))
 (T.leaf.node (some (V.int IntKind.u32 (Int.ofNat 0))) T.leaf)))).node
 (some (V.int IntKind.u32 (Int.ofNat 0)))
 ((((T.leaf.node (some (V.int IntKind.u32 (Int.ofNat 0))) T.leaf).node
 (some (V.int IntKind.u32 (Int.ofNat 0)))
 (T.leaf.node (some (V.int IntKind.u32 (Int.ofNat 0))) T.leaf)).node
 (some (V.int IntKind.u32 (Int.ofNat 0)))
 ((T.leaf.node (some (V.int IntKind.u32 (Int.ofNat 0))) T.leaf).node
 (some (V.int IntKind.u32 (Int.ofNat 0)))
 (T.leaf.node (some (V.int IntKind.u32 (Int.ofNat 0))) T.leaf))).node
 (some (V.int IntKind.u32 (Int.ofNat 0)))
 (((T.leaf.node (some (V.int IntKind.u32 (Int.ofNat 0))) T.leaf).node
 (some (V.int IntKind.u32 (Int.ofNat 0)))
 (T.leaf.node (some (V.int IntKind.u32 (Int.ofNat 0))) T.leaf)).node
 (some (V.int IntKind.u32 (Int.ofNat 0)))
 ((T.leaf.node (some (V.int IntKind.u32 (Int.ofNat 0))) T.leaf).node
 (some (V.int IntKind.u32 (Int.ofNat 0)))
 (T.leaf.node (some (V.int IntKind.u32 (Int.ofNat 0))) T.leaf))))).node
 (some (V.int IntKind.u32 (Int.ofNat 0)))
 (((((T.leaf.node (some (V.int IntKind.u32 (Int.ofNat 0))) T.leaf).node
 (some (V.int IntKind.u32 (Int.ofNat 0)))
 (T.leaf.node (some (V.int IntKind.u32 (Int.ofNat 0))) T.leaf)).node
 (some (V.int IntKind.u32 (Int.ofNat 0)))
 ((T.leaf.node (some (V.int IntKind.u32 (Int.ofNat 0))) T.leaf).node
 (some (V.int IntKind.u32 (Int.ofNat 0)))
 (T.leaf.node (some (V.int IntKind.u32 (Int.ofNat 0))) T.leaf))).node
 (some (V.int IntKind.u32 (Int.ofNat 0)))
 (((T.leaf.node (some (V.int IntKind.u32 (Int.ofNat 0))) T.leaf).node
 (some (V.int IntKind.u32 (Int.ofNat 0)))
 (T.leaf.node (some (V.int IntKind.u32 (Int.ofNat 0))) T.leaf)).node
 (some (V.int IntKind.u32 (Int.ofNat 0)))
 ((T.leaf.node (some (V.int IntKind.u32 (Int.ofNat 0))) T.leaf).node
 (some (V.int IntKind.u32 (Int.ofNat 0)))
 (T.leaf.node (some (V.int IntKind.u32 (Int.ofNat 0))) T.leaf)))).node
 (some (V.int IntKind.u32 (Int.ofNat 0)))
 ((((T.leaf.node (some (V.int IntKind.u32 (Int.ofNat 0))) T.leaf).node
 (some (V.int IntKind.u32 (Int.ofNat 0)))
 (T.leaf.node (some (V.int IntKind.u32 (Int.ofNat 0))) T.leaf)).node
 (some (V.int IntKind.u32 (Int.ofNat 0)))
 ((T.leaf.node (some (V.int IntKind.u32 (Int.ofNat 0))) T.leaf).node
 (some (V.int IntKind.u32 (Int.ofNat 0)))
 (T.leaf.node (some (V.int IntKind.u32 (Int.ofNat 0))) T.leaf))).node
 (some (V.int IntKind.u32 (Int.ofNat 0)))
 (((T.leaf.node (some (V.int IntKind.u32 (Int.ofNat 0))) T.leaf).node
 (some (V.int IntKind.u32 (Int.ofNat 0)))
 (T.leaf.node (some (V.int IntKind.u32 (Int.ofNat 0))) T.leaf)).node
 (some (V.int IntKind.u32 (Int.ofNat 0)))
 ((T.leaf.node (some (V.int IntKind.u32 (Int.ofNat 0))) T.leaf).node
 (some (V.int IntKind.u32 (Int.ofNat 0)))
 (T.leaf.node (some (V.int IntKind.u32 (Int.ofNat 0))) T.leaf)))))).node
 (some (V.int IntKind.u32 (Int.ofNat 0)))
 ((((((T.leaf.node (some (V.int IntKind.u32 (Int.ofNat 0))) T.leaf).node
 (some (V.int IntKind.u32 (Int.ofNat 0)))
 (T.leaf.node (some (V.int IntKind.u32 (Int.ofNat 0))) T.leaf)).node
 (some (V.int IntKind.u32 (Int.ofNat 0)))
 ((T.leaf.node (some (V.int IntKind.u32 (Int.ofNat 0))) T.leaf).node
 (some (V.int IntKind.u32 (Int.ofNat 0)))
 (T.leaf.node (some (V.int IntKind.u32 (Int.ofNat 0))) T.leaf))).node
 (some (V.int IntKind.u32 (Int.ofNat 0)))
 (((T.leaf.node (some (V.int IntKind.u32 (Int.ofNat 0))) T.leaf).node
 (some (V.int IntKind.u32 (Int.ofNat 0)))
 (T.leaf.node (some (V.int IntKind.u32 (Int.ofNat 0))) T.leaf)).node
 (some (V.int IntKind.u32 (Int.ofNat 0)))
 ((T.leaf.node (some (V.int IntKind.u32 (Int.ofNat 0))) T.leaf).node
 (some (V.int IntKind.u32 (Int.ofNat 0)))
 (T.leaf.node (some (V.int IntKind.u32 (Int.ofNat 0))) T.leaf)))).node
 (some (V.int IntKind.u32 (Int.ofNat 0)))
 ((((T.leaf.node (some (V.int IntKind.u32 (Int.ofNat 0))) T.leaf).node
 (some (V.int IntKind.u32 (Int.ofNat 0)))
 (T.leaf.node (some (V.int IntKind.u32 (Int.ofNat 0))) T.leaf)).node
 (some (V.int IntKind.u32 (Int.ofNat 0)))
 ((T.leaf.node (some (V.int IntKind.u32 (Int.ofNat 0))) T.leaf).node
 (some (V.int IntKind.u32 (Int.ofNat 0)))
 (T.leaf.node (some (V.int IntKind.u32 (Int.ofNat 0))) T.leaf))).node
 (some (V.int IntKind.u32 (Int.ofNat 0)))
 (((T.leaf.node (some (V.int IntKind.u32 (Int.ofNat 0))) T.leaf).node
 (some (V.int IntKind.u32 (Int.ofNat 0)))
 (T.leaf.node (some (V.int IntKind.u32 (Int.ofNat 0))) T.leaf)).node
 (some (V.int IntKind.u32 (Int.ofNat 0)))
 ((T.leaf.node (some (V.int IntKind.u32 (Int.ofNat 0))) T.leaf).node
 (some (V.int IntKind.u32 (Int.ofNat 0)))
 (T.leaf.node (some (V.int IntKind.u32 (Int.ofNat 0))) T.leaf))))).node
 (some (V.int IntKind.u32 (Int.ofNat 0)))
 (((((T.leaf.node (some (V.int IntKind.u32 (Int.ofNat 0))) T.leaf).node
 (some (V.int IntKind.u32 (Int.ofNat 0)))
 (T.leaf.node (some (V.int IntKind.u32 (Int.ofNat 0))) T.leaf)).node
 (some (V.int IntKind.u32 (Int.ofNat 0)))
 ((T.leaf.node (some (V.int IntKind.u32 (Int.ofNat 0))) T.leaf).node
 (some (V.int IntKind.u32 (Int.ofNat 0)))
 (T.leaf.node (some (V.int IntKind.u32 (Int.ofNat 0))) T.leaf))).node
 (some (V.int IntKind.u32 (Int.ofNat 0)))
 (((T.leaf.node (some (V.int IntKind.u32 (Int.ofNat 0))) T.leaf).node
 (some (V.int IntKind.u32 (Int.ofNat 0)))
 (T.leaf.node (some (V.int IntKind.u32 (Int.ofNat 0))) T.leaf)).node
 (some (V.int IntKind.u32 (Int.ofNat 0)))
 ((T.leaf.node (some (V.int IntKind.u32 (Int.ofNat 0))) T.leaf).node
 (some (V.int IntKind.u32 (Int.ofNat 0)))
 (T.leaf.node (some (V.int IntKind.u32 (Int.ofNat 0))) T.leaf)))).node
 (some (V.int IntKind.u32 (Int.ofNat 0)))
 ((((T.leaf.node (some (V.int IntKind.u32 (Int.ofNat 0))) T.leaf).node
 (some (V.int IntKind.u32 (Int.ofNat 0)))
 (T.leaf.node (some (V.int IntKind.u32 (Int.ofNat 0))) T.leaf)).node
 (some (V.int IntKind.u32 (Int.ofNat 0)))
 ((T.leaf.node (some (V.int IntKind.u32 (Int.ofNat 0))) T.leaf).node
 (some (V.int IntKind.u32 (Int.ofNat 0)))
 (T.leaf.node (some (V.int IntKind.u32 (Int.ofNat 0))) T.leaf))).node
 (some (V.int IntKind.u32 (Int.ofNat 0)))
 (((T.leaf.node (some (V.int IntKind.u32 (Int.ofNat 0))) T.leaf).node
 (some (V.int IntKind.u32 (Int.ofNat 0)))
 (T.leaf.node (some (V.int IntKind.u32 (Int.ofNat 0))) T.leaf)).node
 (some (V.int IntKind.u32 (Int.ofNat 0)))
 ((T.leaf.node (some (V.int IntKind.u32 (Int.ofNat 0))) T.leaf).node
 (some (V.int IntKind.u32 (Int.ofNat 0)))
 (T.leaf.node (some (V.int IntKind.u32 (Int.ofNat 0))) T.leaf))))))))).put
 0 (some (V.int IntKind.i64 a)))))))))) := by kernel_rfl
theorem w4 (Z : O → Prop) (a j : Int) : (evW Ga sp 100 r4 none iSlots (S [(0, .int .i64 a), (1, .int .u32 j), (6, .ptr 1000 0)] (hT a)) (K4 Z (inv a j (Int.ofNat 0)))) = (
(((some (V.int IntKind.u32 j)) = (some (V.int IntKind.u32 j))) ∧
 (((some (V.ptr 1000 0)) = (some (V.ptr 1000 0))) ∧
 (((some (V.int IntKind.i64 a)) = (some (V.int IntKind.i64 a))) ∧
 (((some (V.int IntKind.i64 (Int.ofNat 0))) = (some (V.int IntKind.i64 (Int.ofNat 0)))) ∧
 (True))))) ∧
(((35) = (35)) ∧
 (((true) = (true)) ∧
 (((1001) = (1001)) ∧
 ((Z (O.cells none 513 [] (T.leaf.put 0 (some (V.int IntKind.i64 a)))))))))) := by kernel_rfl
theorem w5 (Z : O → Prop) (a j i : Int) : (evW Ga sp 100 bd none iSlots (S (inv a j i) (hT a)) (K5 Z a i (inv a j (wr .i64 (Int.add i (Int.ofNat 1)))) [(6, .ptr 1000 0)])) = (
(((ilt i a) = (true)) → ((ilt i (Int.ofNat 0)) = (false)) ∧
 (((ilt i (Int.ofNat 256)) = (true)) ∧
 (((((Nat.add 1 (i.toNat.mul 2)).add 1).blt 513) = (true)) ∧
 (((ilt i a) = (true)) ∧
 ((((some (V.int IntKind.u32 j)) = (some (V.int IntKind.u32 j))) ∧
 (((some (V.ptr 1000 0)) = (some (V.ptr 1000 0))) ∧
 (((some (V.int IntKind.i64 a)) = (some (V.int IntKind.i64 a))) ∧
 (((some (V.int IntKind.i64 (wr IntKind.i64 (i.add (Int.ofNat 1))))) = (some (V.int IntKind.i64 (wr IntKind.i64 (i.add (Int.ofNat 1)))))) ∧
 (True))))) ∧
 (((35) = (35)) ∧
 (((true) = (true)) ∧
 (((1001) = (1001)) ∧
 ((Z
 (O.cells none 513 []
 ((T.leaf.put 0 (some (V.int IntKind.i64 a))).put ((Nat.add 1 (i.toNat.mul 2)).add 1) (some (V.int IntKind.u32 j)))))))))))))) ∧
(((ilt i a) = (false)) → ((0) = (0)) ∧
 ((((some (V.ptr 1000 0)) = (some (V.ptr 1000 0))) ∧
 (True)) ∧
 (((35) = (35)) ∧
 (((true) = (true)) ∧
 (((1001) = (1001)) ∧
 ((Z (O.cells none 513 [] (T.leaf.put 0 (some (V.int IntKind.i64 a)))))))))))) := by kernel_rfl
theorem w6 (Z : O → Prop) (a : Int) : (evW Ga sp 100 x4 none iSlots (S [(6, .ptr 1000 0)] (hT a)) (fun x st => match x with | .ret => retG Z st | _ => False)) = (
((V.tuple [V.ptr 1000 0, V.int IntKind.i64 (Int.ofNat 0)]) = (V.tuple [V.ptr 1000 0, V.int IntKind.i64 (Int.ofNat 0)])) ∧
((Z (O.cells none 513 [] (T.leaf.put 0 (some (V.int IntKind.i64 a))))))) := by kernel_rfl
/-- what is known of a table's block -/
theorem z_obj {a : Int} {e : Option TypeId} {pat : List V} {tr : T V} (h2 : cell 513 pat tr 0 = some (.int .i64 a)) : Z0 a (.cells e 513 pat tr) := by
  refine ⟨fun _ => rfl, fun ρ L c ho => ?_⟩
  obtain ⟨cs, el, lo, hi, g1, g2, g3, g4, _, g6⟩ := ho
  refine ⟨cs, el, lo, hi, g1, g2, g3, g4, fun _ q => (nomatch q), g6.1, fun i v x hc hx => ?_⟩
  by_cases e : i = 0
  · subst e
    have : v = .int .i64 a := by
      have h3 : cell 513 [] (T.put .leaf 0 (some (.int .i64 a))) 0 = some (.int .i64 a) := rfl
      rw [h3] at hc
      exact (Option.some.inj hc).symm
    rw [this]
    exact g6.2 0 _ x h2 hx
  · exfalso
    have h3 : cell 513 [] (T.put .leaf 0 (some (.int .i64 a))) i = .none := by
      unfold cell
      split
      · rw [T.get_put_ne _ _ e, T.get_leaf]
        cases i <;> rfl
      · rfl
    rw [h3] at hc
    cases hc
theorem z_put {a : Int} {k : Nat} (hk : k ≠ 0) (v : V) : Z0 a (.cells .none 513 [] (T.put (T.put .leaf 0 (some (.int .i64 a))) k (some v))) :=
  z_obj (cell_of_get (by decide) (by rw [T.get_put_ne _ _ (Ne.symm hk), T.get_put_same]))
/-- its cells are numbers: they stand wherever it lies -/
theorem obj_any {a : Int} {ρ ρ' : Ren} {L : Nat × Nat × Nat} {c : Obj} (h : ORel ρ (obj a) L c) : ORel ρ' (obj a) L c := by
  obtain ⟨cs, el, lo, hi, g1, g2, g3, g4, _, g6⟩ := h
  refine ⟨cs, el, lo, hi, g1, g2, g3, g4, fun _ q => (nomatch q), g6.1, fun i v x hc hx => ?_⟩
  have hr := g6.2 i v x hc hx
  by_cases e : i = 0
  · subst e
    have h3 : cell 513 [] (T.put .leaf 0 (some (.int .i64 a))) 0 = some (.int .i64 a) := rfl
    rw [h3] at hc
    cases hc
    cases hr
    exact .int _ _
  · exfalso
    have h3 : cell 513 [] (T.put .leaf 0 (some (.int .i64 a))) i = .none := by
      unfold cell
      split
      · rw [T.get_put_ne _ _ e, T.get_leaf]
        cases i <;> rfl
      · rfl
    rw [h3] at hc
    cases hc
/-- less is known of it -/
theorem to {ρ0 : Ren} {h0 : H} {w0 : World} {l : List (Nat × V)} {st : St} {a : Act} {w : World} (hA : At ρ0 h0 w0 st a w) {x : Int} (hk : has (Z0 x) l st) : At ρ0 h0 w0 (S l (hT x)) a w := by
  obtain ⟨h1, h2, h3, h4, h5⟩ := hk
  refine at_less (at_kept hA (h2 := hT x) (Nat.le_of_eq h4) fun b o hbo => ?_) (hasT_get h1) (Nat.le_of_eq h2.symm) (fun _ _ h => h) rfl (noDefs_eq h3).symm
  simp only [hT, T.get_put] at hbo
  split at hbo
  · rename_i q
    cases hbo
    rw [q]
    unfold blk at h5
    split at h5
    · rename_i o' q'
      exact ⟨o', q', h5.1, h5.2⟩
    · cases h5
  · rw [T.get_leaf] at hbo; cases hbo
theorem to0 {ρ0 : Ren} {h0 : H} {w0 : World} {l : List (Nat × V)} {st : St} {a : Act} {w : World} (hA : At ρ0 h0 w0 st a w) (h1 : hasT st.env l) (h2 : st.env.sz = 35) (h3 : noDefs st.defs = true) (h4 : st.h.next = 1000) : At ρ0 h0 w0 (S l hE) a w :=
  at_less hA (hasT_get h1) (Nat.le_of_eq h2.symm) (fun b o hbo => by simp [hE, T.get_leaf] at hbo) h4.symm (noDefs_eq h3).symm
theorem ret_out {b b' : Bool} {st : St} (h : retIs b st) (hb : b' = b) : ∃ h2 v, takeAll st.defs st.h = some h2 ∧ resultsO G0 h2 st.env fn = some v ∧ madeK b' 2 v := by
  unfold retIs at h
  split at h
  · split at h
    · subst hb; exact ⟨_, _, by assumption, by assumption, h⟩
    · cases h
  · cases h
theorem retG_out {a : Int} {st : St} (h : retG (Z0 a) st) : ∃ h2, takeAll st.defs st.h = some h2 ∧ resultsO G0 h2 st.env fn = some (.tuple [.ptr 1000 0, .int .i64 0]) ∧ ∃ o, h2.tr.get 1000 = some o ∧ Z0 a o := by
  unfold retG at h
  split at h
  · split at h
    · obtain ⟨rfl, h⟩ := h
      unfold blk at h
      split at h
      · exact ⟨_, by assumption, by assumption, _, by assumption, h⟩
      · cases h
    · cases h
  · cases h
theorem slots_call (a j : Int) {cargs : Array Value} {W : World} (ha : Rels rE [.int .i64 a, .int .u32 j] cargs.toList) (k : Nat) :
    CallsIn Fence.wide k Tryz.prog iSlots cargs W (fun en w' => ∃ c, en = .returned c ∧ Below W.heap.size W w' ∧ MadeM (badSlots a j) 2 (obj a) W.heap.size w' c) := by
  have hG : GOk Tryz.prog Ga := (mk_ok _).1
  have hC : Codes Ga := (mk_ok _).2
  have hG0 : GOk Tryz.prog G0 := (mk_ok _).1
  have hX : ExtOK Tryz.prog Ga := Ga_x
  have hK : KxOK Ga sp.kx := kx2_ok rfl
  have out : ∀ {st : St} {a' : Act} {w' : World}, At rE hE W st a' w' → retIs true st → badSlots a j = true → LeavesInM Fence.wide k Tryz.prog fn a'.tmps (fun en w' => ∃ c, en = .returned c ∧ Below W.heap.size W w' ∧ MadeM (badSlots a j) 2 (obj a) W.heap.size w' c) a'.defers .returning w' := by
    intro st a' w' hA hr hb
    obtain ⟨h2, v, e1, e2, e3⟩ := ret_out hr hb
    obtain ⟨ρ', s1, s2, s3, s4⟩ := hA
    exact body_out (n := k) hG0 e1 e2 s2 s1 s3 s4 fun c w2 c1 c2 c3 => ⟨c, rfl, c3.below hE_ro, by
      rcases madeK_res e3 c1 with ⟨_, r⟩ | ⟨r, _⟩
      · exact .inl ⟨hb, r⟩
      · rw [r] at hb; cases hb⟩
  have outG : ∀ {st : St} {a' : Act} {w' : World}, At rE hE W st a' w' → retG (Z0 a) st → badSlots a j = false → LeavesInM Fence.wide k Tryz.prog fn a'.tmps (fun en w' => ∃ c, en = .returned c ∧ Below W.heap.size W w' ∧ MadeM (badSlots a j) 2 (obj a) W.heap.size w' c) a'.defers .returning w' := by
    intro st a' w' hA hr hb
    obtain ⟨h2, e1, e2, o', p1, _, p3⟩ := retG_out hr
    obtain ⟨ρ', s1, s2, s3, s4⟩ := hA
    refine body_out (n := k) hG0 e1 e2 s2 s1 s3 s4 fun c w2 c1 c2 c3 => ⟨c, rfl, c3.below hE_ro, .inr ⟨hb, ?_⟩⟩
    obtain ⟨x, y, rfl, r1, r2⟩ := tuple2 c1
    obtain ⟨L, cb, l1, l2, l3⟩ := c2.live 1000 o' p1
    cases r2
    cases r1 with
    | ptr hp =>
      rename_i B d z
      rw [l1] at hp
      cases hp
      refine ⟨_, cb, rfl, ?_, l2, fun ρ => obj_any (p3 _ _ _ l3)⟩
      rcases Nat.lt_or_ge B W.heap.size with hlt | hge
      · obtain ⟨b0, o0, L0, q1, _⟩ := c3.origin 1000 o' _ p1 l1 hlt
        simp [hE, T.get_leaf] at q1
      · exact hge
  refine callsIn_of_wp_marks isFn body trivial ?_
  rw [q7]
  have h0 := at_enter (sim_E W) ha (n := 35) (show 2 ≤ 35 by decide)
  have A0 : At rE hE W (S [(0, .int .i64 a), (1, .int .u32 j)] hE) _ W := at_less h0 (hasT_get ⟨rfl, rfl, trivial⟩) (Nat.le_refl _) (fun _ _ h => h) rfl rfl
  rw [q0]
  refine wpIn_seq (at_w hG hC hX hK (N := 100) (fn := iSlots) (K := K0 a j) A0 (by rw [Slots.w0]; repeat' (first | exact rfl | exact trivial | apply And.intro)) o0 fun x st' a1 w1 hK1 A1 => ?_)
  cases x with
  | exit _ => cases hK1
  | ret => cases hK1
  | normal =>
  obtain ⟨p1, p2, p3, p4⟩ := hK1
  have A1 := to0 A1 p1 p2 p3 p4
  show Code.wpIn Fence.wide k Tryz.prog x1 _ a1 w1
  rw [q1]
  refine wpIn_seq (at_w hG hC hX hK (N := 100) (fn := iSlots) (K := K1 a j) A1 ?_ o1 fun x st' a2 w2 hK2 A2 => ?_)
  · rw [Slots.w1]
    repeat' (first | exact rfl | exact trivial | apply And.intro | intro)
    all_goals
      (try simp only [ilt_t, ilt_f, ieq_t, ieq_f, not_t, not_f, iofn, Int.cast_ofNat_Int, ne_eq, GensV_z] at *)
      first
        | (rw [badSlots_t]; omega)
        | (rw [badSlots_f]; omega)
  cases x with
  | exit _ => cases hK2
  | ret => exact out A2 hK2.2 hK2.1
  | normal =>
  obtain ⟨g0, p1, p2, p3, p4⟩ := hK2
  have A2 := to0 A2 p1 p2 p3 p4
  show Code.wpIn Fence.wide k Tryz.prog x2 _ a2 w2
  rw [q2]
  have fin : ∀ {p q : Prop}, p → q → p ∧ q := fun a b => ⟨a, b⟩
  refine wpIn_seq (at_w hG hC hX hK (N := 100) (fn := iSlots) (K := K4 (Z0 a) [(0, .int .i64 a), (1, .int .u32 j), (6, .ptr 1000 0)]) A2 (by rw [Slots.w3]; repeat' (first | exact rfl | exact trivial | exact z_obj rfl | apply And.intro)) o3 fun x st' a3 w3 hK3 A3 => ?_)
  cases x with
  | exit _ => cases hK3
  | ret => cases hK3
  | normal =>
  have A3 := to A3 hK3
  show Code.wpIn Fence.wide k Tryz.prog x3 _ a3 w3
  rw [q3]
  refine wpIn_seq ?_
  rw [q4]
  refine wpIn_seq (at_w hG hC hX hK (N := 100) (fn := iSlots) (K := K4 (Z0 a) (inv a j (Int.ofNat 0))) A3 (by rw [Slots.w4]; repeat' (first | exact rfl | exact trivial | exact z_obj rfl | apply And.intro)) o4 fun x st' a4 w4 hK4 A4 => ?_)
  cases x with
  | exit _ => cases hK4
  | ret => cases hK4
  | normal =>
  have A4 := to A4 hK4
  show Code.wpIn Fence.wide k Tryz.prog bl _ a4 w4
  rw [q5]
  refine wpIn_block ?_
  rw [q6]
  have ⟨g1, g2, _⟩ := (badSlots_f a j).1 g0
  refine wpIn_loop_down (fun m a' w' => ∃ i, (m : Int) = a - i ∧ 0 ≤ i ∧ At rE hE W (S (inv a j i) (hT a)) a' w') (fun m a' w' hJ => ?_) (m := a.toNat) ⟨0, by omega, by omega, A4⟩
  obtain ⟨i, j1, j2, A5⟩ := hJ
  refine at_w hG hC hX hK (N := 100) (fn := iSlots) (K := K5 (Z0 a) a i (inv a j (wr .i64 (Int.add i (Int.ofNat 1)))) [(6, .ptr 1000 0)]) A5 ?_ o5 fun x st' a6 w6 hK6 A6 => ?_
  · rw [Slots.w5]
    refine ⟨fun h => ?_, fun h => ?_⟩
    · have h := ilt_t.1 h
      refine ⟨ilt_f.2 (by rw [iofn]; omega), ilt_t.2 (by rw [iofn]; omega), ?_, ilt_t.2 h, ?_⟩
      · obtain ⟨n, rfl⟩ := Int.eq_ofNat_of_zero_le j2
        exact blt_t.2 (by show (0 + 1) + n * 2 + 1 < 513; omega)
      · repeat' (first | exact rfl | exact trivial | exact z_put (Nat.succ_ne_zero _) _ | exact z_obj rfl | apply And.intro)
    · repeat' (first | exact rfl | exact trivial | exact z_obj rfl | apply And.intro)
  cases x with
  | ret => cases hK6
  | normal =>
    obtain ⟨l1, l2⟩ := hK6
    have l1 := ilt_t.1 l1
    have A7 := to A6 l2
    refine ⟨(a - (i + 1)).toNat, by omega, i + 1, by omega, by omega, ?_⟩
    have hw : wr .i64 (Int.add i (Int.ofNat 1)) = i + 1 := by rw [iofn, iadd, wr64 (by omega) (by omega)]; rfl
    rw [hw] at A7
    exact A7
  | exit n =>
    obtain ⟨l1, l2⟩ := hK6
    subst l1
    have A7 := to A6 l2
    simp only [XE, Exit.then, Exit.inBlock, if_true]
    show Code.wpIn Fence.wide k Tryz.prog x4 _ a6 w6
    refine at_w hG hC hX hK (N := 100) (fn := iSlots) (K := fun x st => match x with | .ret => retG (Z0 a) st | _ => False) A7 (by rw [Slots.w6]; repeat' (first | exact rfl | exact trivial | exact z_obj rfl | apply And.intro)) o6 fun x st' a8 w8 hK8 A8 => ?_
    cases x with
    | normal => cases hK8
    | exit _ => cases hK8
    | ret => exact outG A8 hK8 g0
end Slots
noncomputable def SlotsM : List V → Option (Bool × Int × O)
  | [.int .i64 a, .int .u32 j] => some (badSlots a j, 2, Slots.obj a)
  | _ => none
noncomputable def mSlots : KnownM := (iSlots, knownM SlotsM)
theorem SlotsM_ok : KnownMOk Tryz.prog mSlots := by
  intro args b e o hv ρ cargs w ha n
  simp only [mSlots, knownM] at hv
  split at hv
  · rename_i l hl
    unfold SlotsM at hv
    split at hv
    · cases hv
      exact Slots.slots_call _ _ (canonL_rel (ρ' := rE) hl ha) n
    · cases hv
  · cases hv
def SlotsF : List V → Option (Bool × Int)
  | [.int .i64 a, .int .u32 j] => some (badSlots a j, 2)
  | _ => none
noncomputable def kSlots : KnownP := (iSlots, knownP SlotsF)
theorem Slots_ok : KnownPOk Tryz.prog kSlots := by
  intro args b e hv ρ cargs w ha n
  simp only [kSlots, knownP] at hv
  split at hv
  · rename_i l hl
    unfold SlotsF at hv
    split at hv
    · cases hv
      refine (Slots.slots_call _ _ (canonL_rel (ρ' := rE) hl ha) n).mono fun en w' ⟨c, e1, e2, e3⟩ => ⟨c, e1, e2, ?_⟩
      rcases e3 with r | ⟨r, L, _, rfl, _⟩
      · exact .inl r
      · exact .inr ⟨r, _, _, rfl⟩
    · cases hv
  · cases hv
end Go.Proofs.YtemanejjmkjfnaaGreatDoor

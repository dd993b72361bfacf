/- play.Random: its parts. -/
import Derived.Test.YtjbpagfjpdinjaaGreatDoorOp3
namespace Go.Proofs.YtjbpagfjpdinjaaGreatDoor
set_option maxRecDepth 100000
set_option maxHeartbeats 2000000
open Go.Ev Go.RowKit
namespace RN
noncomputable def GN : Γ := mkG Tryz.prog eqs rows (extL [kMach])
noncomputable def fn : Func := match Tryz.prog.funcs[iRandom]? with
  | some f => f
  | .none => default
noncomputable def code : Code := match fn.body with
  | some c => c
  | .none => .skip
noncomputable def r0 : Code := cFst code
noncomputable def x1 : Code := cSnd code
noncomputable def r1 : Code := cFst x1
noncomputable def x2 : Code := cSnd x1
noncomputable def b0 : Code := cFst x2
noncomputable def x3 : Code := cSnd x2
noncomputable def r8 : Code := cFst x3
noncomputable def x4 : Code := cSnd x3
noncomputable def r9 : Code := cFst x4
noncomputable def x5 : Code := cSnd x4
noncomputable def z : Code := cFst x5
noncomputable def x6 : Code := cSnd x5
noncomputable def r10 : Code := cFst z
noncomputable def bl : Code := cSnd z
noncomputable def lp : Code := cFst bl
noncomputable def bd : Code := cFst lp
noncomputable def y0 : Code := cFst bd
noncomputable def y1 : Code := cSnd bd
noncomputable def yi : Code := cFst y1
noncomputable def y2 : Code := cSnd y1
noncomputable def yb : Code := cFst y2
noncomputable def y3 : Code := cSnd y2
noncomputable def r12 : Code := match yb with
  | .block _ c => c
  | _ => .skip
noncomputable def r11 : Code := cFst y0
noncomputable def r14 : Code := cFst x6
theorem isFn : Tryz.prog.funcs[iRandom]? = some fn := by kernel_rfl
theorem body : fn.body = some code := by kernel_rfl
theorem tmps : fn.ntmps = 42 := by kernel_rfl
theorem cut : code = nest [r0, r1, b0, r8, r9] x5 := by kernel_rfl
theorem q5 : x5 = .seq z x6 := by kernel_rfl
theorem q6 : z = .seq r10 bl := by kernel_rfl
theorem q7 : bl = .block 1 lp := by kernel_rfl
theorem q8 : lp = .loop bd := by kernel_rfl
theorem q9 : bd = nest [y0, yi] y2 := by kernel_rfl
theorem q10 : y2 = .seq yb y3 := by kernel_rfl
theorem q11 : yb = .block 2 r12 := by kernel_rfl
theorem q12 : r12 = .region 12 (cOps r12) false := by kernel_rfl
theorem q12n : (cOps r12).size = 7 := by kernel_rfl
theorem ok0 : [r0, r1, b0, r8, r9].all okC = true := by kernel_rfl
theorem ok10 : okC r10 = true := by kernel_rfl
theorem ok11 : [y0, yi].all okC = true := by kernel_rfl
theorem ok13 : okC y3 = true := by kernel_rfl
theorem ok14 : okC x6 = true := by kernel_rfl
noncomputable def opAt (c : Code) (i : Nat) : Oper := match (cOps c)[i]? with
  | some o => o
  | .none => default
theorem p3 : (cOps r12)[3]? = some (opAt r12 3) := by kernel_rfl
theorem g3 : (opAt r12 3).guard = .none := by kernel_rfl
theorem d3 : (opAt r12 3).dst = some 37 := by kernel_rfl
theorem p5 : opsPart (cOps r12) 5 1 = [opAt r12 5] := by kernel_rfl
theorem g5 : (opAt r12 5).guard = .none := by kernel_rfl
theorem d5 : (opAt r12 5).dst = some 39 := by kernel_rfl
theorem hop (env : Env) : act G0 env.get (opAt r12 5).op = .ef (fun h => fAppend G0 (G0.ty tOps) (G0.ty tOps) h (env.get (.tmp 34)) (env.get (.tmp 38))) := by kernel_rfl
noncomputable def tyS : TY := match G0.ty tOps with
  | some t => t
  | none => ⟨.slice 0, 0, false, none, #[]⟩
noncomputable def tyE : TY := match G0.ty tOp with
  | some t => t
  | none => ⟨.slice 0, 0, false, none, #[]⟩
theorem t1 : G0.ty tOps = some tyS := by kernel_rfl
theorem t2 : tyS.desc = .slice tOp := by kernel_rfl
theorem t3 : G0.ty tOp = some tyE := by kernel_rfl
theorem t5 : isInt tyS.desc = some false := by kernel_rfl
theorem t6 : tyE.size = 6 := by kernel_rfl
noncomputable def sp : SpF where
  at' := fun f t => match Nat.beq f iRandom, t with
    | true, 16 => .is false | true, 20 => .is false | true, 23 => .is false | true, 33 => .both | _, _ => .keep
noncomputable def S (l : List (Nat × V)) (h : H) : St := ⟨envL 42 l, h, []⟩
noncomputable def hasS (l : List (Nat × V)) (st : St) : Prop := hasT st.env l ∧ st.env.sz = 42 ∧ noDefs st.defs = true
abbrev dP : V := .ptr 1016 0
abbrev rS : V := .slice 1045 0 15 (.known 15)
abbrev opL (a b c d e : Int) (s : List UInt8) : List V := [.int .i64 a, .int .i64 b, .int .i64 c, .int .i64 d, .int .i64 e, .str s]
noncomputable def rowO (L : List V) : O := .cells (some tOp) L.length L .leaf
noncomputable def hF (x m : Int) (nx : Nat) : H := OD.hD x m nx
noncomputable def hW (x m : Int) (L : List V) (nx : Nat) : H := ⟨T.put (OD.tD x m) 1046 (some (rowO L)), nx⟩
noncomputable def hN (h : H) (b : Nat) (L : List V) : H := ⟨T.put h.tr b (some (.cells (some tOp) 6 L .leaf)), Nat.succ b⟩
noncomputable def inv (r : V) (n : Int) (i : Int) : List (Nat × V) := [(11, r), (9, dP), (10, rS), (31, .int .i64 n), (32, .int .i64 i)]
noncomputable def K0 (l : List (Nat × V)) (Q : Option (V × V) → Bool → Nat → Prop) (x : X) (st : St) : Prop := match x with
  | .normal => hasS l st ∧ Q (OD.diceX (st.h.tr.get 1016)) (Go.Ev.has st.h OD.kept) st.h.next
  | _ => False
noncomputable def KN (l : List (Nat × V)) (h : H) (x : X) (st : St) : Prop := match x with
  | .normal => hasS l st ∧ st.h = h
  | _ => False
noncomputable def KX (l : List (Nat × V)) (h : H) (E : Prop) (x : X) (st : St) : Prop := match x with
  | .normal => E ∧ hasS l st ∧ st.h = h
  | .exit k => (E → False) ∧ Nat.beq k 1 = true ∧ hasS l st ∧ st.h = h
  | _ => False
noncomputable def KH (l : List (Nat × V)) (h : H) (env : Env) (h' : H) : Prop := hasT env l ∧ env.sz = 42 ∧ h' = h
noncomputable def rowX (o : Option O) : Option (List V) := match o with
  | some (.cells (some e) n pat tr) => match Nat.beq e tOp, Nat.beq n 6, cell 6 pat tr 0, cell 6 pat tr 1, cell 6 pat tr 2, cell 6 pat tr 3, cell 6 pat tr 4, cell 6 pat tr 5 with
    | true, true, some a, some b, some c, some d, some e, some f => some [a, b, c, d, e, f]
    | _, _, _, _, _, _, _, _ => .none
  | _ => .none
noncomputable def KE (l : List (Nat × V)) (x m : Int) (r : Option O) (L : List V) (env : Env) (h' : H) : Prop := hasT env l ∧ env.sz = 42 ∧ h'.next = 1201 ∧ rowX (h'.tr.get 1200) = some L ∧ OD.diceX (h'.tr.get 1016) = some (.int .u32 x, .int .i64 m) ∧ Go.Ev.has h' OD.kept = true ∧ (match r with
  | some o => h'.tr.get 1046 = some o
  | .none => True)
noncomputable def retIs (Q : V → Prop) (h : H) (st : St) : Prop := match takeAll st.defs st.h with
  | some h2 => match resultsO G0 h2 st.env fn with
    | some v => Q v ∧ h2 = h
    | .none => False
  | .none => False
theorem act3 (r : V) (n i : Int) : act GN (envL 42 ([(34, r), (35, dP), (36, rS)] ++ inv r n i)).get (opAt r12 3).op = .call (some (.fn iOp OD.args)) := by kernel_rfl
abbrev cT : CallK := callTW GN sp.kx sp.must (evW GN sp 60)
theorem wA (a b c d e f g h i j s n : Int) (Q : Option (V × V) → Bool → Nat → Prop) : (evL GN sp 60 iRandom [r0, r1, b0, r8, r9] (K0 [(11, .nils), (9, dP), (10, rS), (2, .int .i64 n)] Q) (S [(0, cfgV a b c d e f g h i j), (1, .int .u64 s), (2, .int .i64 n)] ⟨.leaf, 1010⟩)) = (
((!ieq (MachV a b c d e f g h i j) (Int.ofNat 0)) = (false)) ∧
(((ilt n (Int.ofNat 0)) = (false)) ∧
 (((ilt (Int.ofNat 2000) n) = (false)) ∧
  (((((b) = (b)) ∧
     ((b) = (b))) ∧
    (True)) ∧
   (((((some V.nils) = (some V.nils)) ∧
      (((some (V.ptr 1016 0)) = (some (V.ptr 1016 0))) ∧
       (((some (V.slice 1045 0 15 (Cap.known 15))) = (some (V.slice 1045 0 15 (Cap.known 15)))) ∧
        (((some (V.int IntKind.i64 n)) = (some (V.int IntKind.i64 n))) ∧
         (True))))) ∧
     (((42) = (42)) ∧
      ((true) = (true)))) ∧
    ((Q (some (V.int IntKind.u32 (wr IntKind.u32 s), V.int IntKind.i64 b)) true 1046))))))) := by kernel_rfl
theorem w10 (n : Int) (h : H) : (evW GN sp 60 r10 none iRandom (S [(11, .nils), (9, dP), (10, rS), (2, .int .i64 n)] h) (KN (inv .nils n (Int.ofNat 0)) h)) = (
((((some V.nils) = (some V.nils)) ∧
  (((some (V.ptr 1016 0)) = (some (V.ptr 1016 0))) ∧
   (((some (V.slice 1045 0 15 (Cap.known 15))) = (some (V.slice 1045 0 15 (Cap.known 15)))) ∧
    (((some (V.int IntKind.i64 n)) = (some (V.int IntKind.i64 n))) ∧
     (((some (V.int IntKind.i64 (Int.ofNat 0))) = (some (V.int IntKind.i64 (Int.ofNat 0)))) ∧
      (True)))))) ∧
 (((42) = (42)) ∧
  ((true) = (true)))) ∧
((h) = (h))) := by kernel_rfl
theorem w11 (r : V) (n i : Int) (h : H) (E : Prop) : (evL GN sp 60 iRandom [y0, yi] (KX (inv r n i) h E) (S (inv r n i) h)) = (
(((ilt i n) = (true)) → ((E)) ∧
 (((((some r) = (some r)) ∧
    (((some (V.ptr 1016 0)) = (some (V.ptr 1016 0))) ∧
     (((some (V.slice 1045 0 15 (Cap.known 15))) = (some (V.slice 1045 0 15 (Cap.known 15)))) ∧
      (((some (V.int IntKind.i64 n)) = (some (V.int IntKind.i64 n))) ∧
       (((some (V.int IntKind.i64 i)) = (some (V.int IntKind.i64 i))) ∧
        (True)))))) ∧
   (((42) = (42)) ∧
    ((true) = (true)))) ∧
  ((h) = (h)))) ∧
(((ilt i n) = (false)) → (((E)) → False) ∧
 (((true) = (true)) ∧
  (((((some r) = (some r)) ∧
     (((some (V.ptr 1016 0)) = (some (V.ptr 1016 0))) ∧
      (((some (V.slice 1045 0 15 (Cap.known 15))) = (some (V.slice 1045 0 15 (Cap.known 15)))) ∧
       (((some (V.int IntKind.i64 n)) = (some (V.int IntKind.i64 n))) ∧
        (((some (V.int IntKind.i64 i)) = (some (V.int IntKind.i64 i))) ∧
         (True)))))) ∧
    (((42) = (42)) ∧
     ((true) = (true)))) ∧
   ((h) = (h)))))) := by kernel_rfl
theorem w12a (r : V) (n i : Int) (h : H) : (regW GN sp cT iRandom (cOps r12) (opsPart (cOps r12) 0 3) (envL 42 (inv r n i)) h (KH ([(34, r), (35, dP), (36, rS)] ++ inv r n i) h)) = (
(((some r) = (some r)) ∧
 (((some (V.ptr 1016 0)) = (some (V.ptr 1016 0))) ∧
  (((some (V.slice 1045 0 15 (Cap.known 15))) = (some (V.slice 1045 0 15 (Cap.known 15)))) ∧
   (((some r) = (some r)) ∧
    (((some (V.ptr 1016 0)) = (some (V.ptr 1016 0))) ∧
     (((some (V.slice 1045 0 15 (Cap.known 15))) = (some (V.slice 1045 0 15 (Cap.known 15)))) ∧
      (((some (V.int IntKind.i64 n)) = (some (V.int IntKind.i64 n))) ∧
       (((some (V.int IntKind.i64 i)) = (some (V.int IntKind.i64 i))) ∧
        (True))))))))) ∧
(((42) = (42)) ∧
 ((h) = (h)))) := by kernel_rfl
theorem w12bF (x m : Int) (n i : Int) (a b c d e : Int) (s : List UInt8) : (regW GN sp cT iRandom (cOps r12) (opsPart (cOps r12) 4 1) (envL 42 ([(37, .agg 6 (opL a b c d e s) .leaf), (34, .nils)] ++ inv .nils n i)) (hF x m 1200) (KE ([(34, .nils), (38, .slice 1200 0 1 (.known 1))] ++ inv .nils n i) x m none (opL a b c d e s))) = (
(((some V.nils) = (some V.nils)) ∧
 (((some (V.slice 1200 0 1 (Cap.known 1))) = (some (V.slice 1200 0 1 (Cap.known 1)))) ∧
  (((some V.nils) = (some V.nils)) ∧
   (((some (V.ptr 1016 0)) = (some (V.ptr 1016 0))) ∧
    (((some (V.slice 1045 0 15 (Cap.known 15))) = (some (V.slice 1045 0 15 (Cap.known 15)))) ∧
     (((some (V.int IntKind.i64 n)) = (some (V.int IntKind.i64 n))) ∧
      (((some (V.int IntKind.i64 i)) = (some (V.int IntKind.i64 i))) ∧
       (True)))))))) ∧
(((42) = (42)) ∧
 (((1201) = (1201)) ∧
  (((some [V.int IntKind.i64 a, V.int IntKind.i64 b, V.int IntKind.i64 c, V.int IntKind.i64 d, V.int IntKind.i64 e, V.str s]) = (some [V.int IntKind.i64 a, V.int IntKind.i64 b, V.int IntKind.i64 c, V.int IntKind.i64 d, V.int IntKind.i64 e, V.str s])) ∧
   (((some (V.int IntKind.u32 x, V.int IntKind.i64 m)) = (some (V.int IntKind.u32 x, V.int IntKind.i64 m))) ∧
    (((true) = (true)) ∧
     (True))))))) := by kernel_rfl
theorem w12bW (x m : Int) (L : List V) (r : V) (n i : Int) (a b c d e : Int) (s : List UInt8) : (regW GN sp cT iRandom (cOps r12) (opsPart (cOps r12) 4 1) (envL 42 ([(37, .agg 6 (opL a b c d e s) .leaf), (34, r)] ++ inv r n i)) (hW x m L 1200) (KE ([(34, r), (38, .slice 1200 0 1 (.known 1))] ++ inv r n i) x m (some (rowO L)) (opL a b c d e s))) = (
(((some r) = (some r)) ∧
 (((some (V.slice 1200 0 1 (Cap.known 1))) = (some (V.slice 1200 0 1 (Cap.known 1)))) ∧
  (((some r) = (some r)) ∧
   (((some (V.ptr 1016 0)) = (some (V.ptr 1016 0))) ∧
    (((some (V.slice 1045 0 15 (Cap.known 15))) = (some (V.slice 1045 0 15 (Cap.known 15)))) ∧
     (((some (V.int IntKind.i64 n)) = (some (V.int IntKind.i64 n))) ∧
      (((some (V.int IntKind.i64 i)) = (some (V.int IntKind.i64 i))) ∧
       (True)))))))) ∧
(((42) = (42)) ∧
 (((1201) = (1201)) ∧
  (((some [V.int IntKind.i64 a, V.int IntKind.i64 b, V.int IntKind.i64 c, V.int IntKind.i64 d, V.int IntKind.i64 e, V.str s]) = (some [V.int IntKind.i64 a, V.int IntKind.i64 b, V.int IntKind.i64 c, V.int IntKind.i64 d, V.int IntKind.i64 e, V.str s])) ∧
   (((some (V.int IntKind.u32 x, V.int IntKind.i64 m)) = (some (V.int IntKind.u32 x, V.int IntKind.i64 m))) ∧
    (((true) = (true)) ∧
     ((some (O.cells (some 34) L.length L T.leaf)) = (some (O.cells (some 34) L.length L T.leaf))))))))) := by kernel_rfl
theorem w12c (r q : V) (n i : Int) (h : H) : (regW GN sp cT iRandom (cOps r12) (opsPart (cOps r12) 6 1) (envL 42 ((39, r) :: inv q n i)) h (KH (inv r n i) h)) = (
(((some r) = (some r)) ∧
 (((some (V.ptr 1016 0)) = (some (V.ptr 1016 0))) ∧
  (((some (V.slice 1045 0 15 (Cap.known 15))) = (some (V.slice 1045 0 15 (Cap.known 15)))) ∧
   (((some (V.int IntKind.i64 n)) = (some (V.int IntKind.i64 n))) ∧
    (((some (V.int IntKind.i64 i)) = (some (V.int IntKind.i64 i))) ∧
     (True)))))) ∧
(((42) = (42)) ∧
 ((h) = (h)))) := by kernel_rfl
theorem w13 (r : V) (n i : Int) (h : H) : (evW GN sp 60 y3 none iRandom (S (inv r n i) h) (KN (inv r n (wr .i64 (Int.add i (Int.ofNat 1)))) h)) = (
((((some r) = (some r)) ∧
  (((some (V.ptr 1016 0)) = (some (V.ptr 1016 0))) ∧
   (((some (V.slice 1045 0 15 (Cap.known 15))) = (some (V.slice 1045 0 15 (Cap.known 15)))) ∧
    (((some (V.int IntKind.i64 n)) = (some (V.int IntKind.i64 n))) ∧
     (((some (V.int IntKind.i64 (wr IntKind.i64 (i.add (Int.ofNat 1))))) = (some (V.int IntKind.i64 (wr IntKind.i64 (i.add (Int.ofNat 1)))))) ∧
      (True)))))) ∧
 (((42) = (42)) ∧
  ((true) = (true)))) ∧
((h) = (h))) := by kernel_rfl
theorem w14 (r : V) (h : H) : (evW GN sp 60 x6 none iRandom (S [(11, r)] h) (fun x st => match x with | .ret => retIs (fun v => v = .tuple [r, .int .i64 (Int.ofNat 0)]) h st | _ => False)) = (
((V.tuple [r, V.int IntKind.i64 (Int.ofNat 0)]) = (V.tuple [r, V.int IntKind.i64 (Int.ofNat 0)])) ∧
((h) = (h))) := by kernel_rfl
end RN
end Go.Proofs.YtjbpagfjpdinjaaGreatDoor

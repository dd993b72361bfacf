/- PlayTexts: its code, part by part. -/
import Derived.Test.YtfmcmolhkmjemaaGreatDoorIt
namespace Go.Proofs.YtfmcmolhkmjemaaGreatDoor
set_option maxRecDepth 100000
open Go.Ev Go.RowKit
/-- the package-level variables that 'works' reads -/
def gDe32 : Nat := 1
def gDe64 : Nat := 2
def gLet : Nat := 3
def letters : List Nat := [0, 111, 108, 102]
def de32 : List Nat := [0, 1, 28, 2, 29, 14, 24, 3, 30, 22, 20, 15, 25, 17, 4, 8, 31, 27, 13, 23, 21, 19, 16, 7, 26, 12, 18, 6, 11, 5, 10, 9]
def de64 : List Nat := [0, 1, 56, 2, 57, 49, 28, 3, 61, 58, 42, 50, 38, 29, 17, 4, 62, 47, 59, 36, 45, 43, 51, 22, 53, 39, 33, 30, 24, 18, 12, 5, 63, 55, 48, 27, 60, 41, 37, 16, 46, 35, 44, 21, 52, 32, 23, 11, 54, 26, 40, 15, 34, 20, 31, 10, 25, 14, 19, 9, 13, 8, 7, 6]
noncomputable def gs : List (Nat × List V) := [(gPow, pow10), (gDe32, bytesV de32), (gDe64, bytesV de64), (gLet, bytesV letters)]
theorem gs_lt : ∀ p, p ∈ gs → p.1 < 1000 := fun p hp => by
  simp only [gs, List.mem_cons, List.not_mem_nil, or_false] at hp
  rcases hp with rfl | rfl | rfl | rfl
  · show gPow < 1000; decide
  · show gDe32 < 1000; decide
  · show gDe64 < 1000; decide
  · show gLet < 1000; decide
theorem bytesV_pure (l : List Nat) : ∀ v, v ∈ bytesV l → pureS v = true := fun v hv => by
  simp only [bytesV, List.mem_map] at hv
  obtain ⟨n, _, rfl⟩ := hv
  rfl
theorem gs_pure : ∀ p, p ∈ gs → ∀ v, v ∈ p.2 → pureS v = true := fun p hp v hv => by
  simp only [gs, List.mem_cons, List.not_mem_nil, or_false] at hp
  rcases hp with rfl | rfl | rfl | rfl
  · exact gsP_pure (gPow, pow10) (by simp [gsP]) v hv
  · exact bytesV_pure _ v hv
  · exact bytesV_pure _ v hv
  · exact bytesV_pure _ v hv
theorem gsP_in {b : Nat} {x : O} (h : (varsT gsP).get b = some x) : (varsT gs).get b = some x := by
  obtain ⟨l, hm, rfl⟩ := varsT_get h
  simp only [gsP, List.mem_cons, Prod.mk.injEq, List.not_mem_nil, or_false] at hm
  obtain ⟨rfl, rfl⟩ := hm
  kernel_rfl
/-- 'works', as it is known -/
noncomputable def kWorks : Known := (iWorks, fun args h => match args, Go.Ev.has h (roL gs) with
  | [], true => some (.bool true)
  | _, _ => .none)
noncomputable def GL : Γ := mkG Tryz.prog eqs rows (extL [kWorks])
namespace LT
noncomputable def fn : Func := match Tryz.prog.funcs[iTexts]? with
  | some f => f
  | .none => default
noncomputable def code : Code := match fn.body with
  | some c => c
  | .none => .skip
noncomputable def r0 : Code := cFst code
noncomputable def x1 : Code := cSnd code
noncomputable def y1 : Code := cFst x1
noncomputable def x2 : Code := cSnd x1
noncomputable def r3 : Code := cFst x2
noncomputable def x3 : Code := cSnd x2
noncomputable def r4 : Code := cFst x3
noncomputable def x4 : Code := cSnd x3
noncomputable def r5 : Code := cFst x4
theorem isFn : Tryz.prog.funcs[iTexts]? = some fn := by kernel_rfl
theorem body : fn.body = some code := by kernel_rfl
theorem tmps : fn.ntmps = 42 := by kernel_rfl
theorem cut : code = nest [r0, y1] x2 := by kernel_rfl
theorem q3 : x2 = .seq r3 x3 := by kernel_rfl
theorem q4 : x3 = .seq r4 x4 := by kernel_rfl
theorem q5 : x4 = .seq r5 .ret := by kernel_rfl
theorem q3r : r3 = .region 3 (cOps r3) false := by kernel_rfl
theorem q4r : r4 = .region 4 (cOps r4) false := by kernel_rfl
theorem q3n : (cOps r3).size = 7 := by kernel_rfl
theorem q4n : (cOps r4).size = 7 := by kernel_rfl
theorem ok1 : [r0, y1].all okC = true := by kernel_rfl
theorem ok5 : okC r5 = true := by kernel_rfl
noncomputable def op3 : Oper := match (cOps r3)[1]? with
  | some o => o
  | .none => default
noncomputable def op4 : Oper := match (cOps r4)[1]? with
  | some o => o
  | .none => default
theorem p3 : (cOps r3)[1]? = some op3 := by kernel_rfl
theorem p4 : (cOps r4)[1]? = some op4 := by kernel_rfl
theorem g3' : op3.guard = .none := by kernel_rfl
theorem g4' : op4.guard = .none := by kernel_rfl
theorem d3 : op3.dst = some 23 := by kernel_rfl
theorem d4 : op4.dst = some 28 := by kernel_rfl
noncomputable def fnT : Func := match Tryz.prog.funcs[iText]? with
  | some f => f
  | .none => default
noncomputable def fnR : Func := match Tryz.prog.funcs[iRText]? with
  | some f => f
  | .none => default
theorem isT : Tryz.prog.funcs[iText]? = some fnT := by kernel_rfl
theorem isR : Tryz.prog.funcs[iRText]? = some fnR := by kernel_rfl
theorem nameT : fnT.name ≠ "runtime.NumGoroutine" := fun h => absurd (show (fnT.name == "runtime.NumGoroutine") = false by kernel_rfl) (by rw [h]; decide)
theorem nameR : fnR.name ≠ "runtime.NumGoroutine" := fun h => absurd (show (fnR.name == "runtime.NumGoroutine") = false by kernel_rfl) (by rw [h]; decide)
theorem bodyT : ∃ c, fnT.body = some c := Option.isSome_iff_exists.1 (show fnT.body.isSome = true by kernel_rfl)
theorem bodyR : ∃ c, fnR.body = some c := Option.isSome_iff_exists.1 (show fnR.body.isSome = true by kernel_rfl)
noncomputable def sp : SpF where
  at' := fun f t => match Nat.beq f iTexts, t with
    | true, 9 => .both | true, 13 => .both | true, 18 => .both | true, 33 => .is true | true, 37 => .is true | _, _ => .keep
noncomputable def S (l : List (Nat × V)) (h : H) : St := ⟨envL 42 l, h, []⟩
/-- memory: the variables, the numbers -/
noncomputable def hA (o : Option O) : H := ⟨T.put (varsT gs) 1000 o, 1001⟩
noncomputable def hasS (l : List (Nat × V)) (st : St) : Prop := hasT st.env l ∧ st.env.sz = 42 ∧ noDefs st.defs = true
noncomputable def retIs (Q : V → Prop) (st : St) : Prop := match takeAll st.defs st.h with
  | some h2 => match resultsO G0 h2 st.env fn with
    | some v => Q v
    | .none => False
  | .none => False
noncomputable def K1 (l : List (Nat × V)) (h : H) (E : Prop) (x : X) (st : St) : Prop := match x with
  | .normal => E ∧ hasS l st ∧ eqH st.h h
  | .ret => retIs (fun v => v = .bool true) st
  | _ => False
noncomputable def KD (l : List (Nat × V)) (h : H) (x : X) (st : St) : Prop := match x with
  | .normal => hasS l st ∧ eqH st.h h
  | _ => False
noncomputable def KH (l : List (Nat × V)) (h : H) (env : Env) (h' : H) : Prop := hasT env l ∧ env.sz = 42 ∧ h' = h
abbrev cT : CallK := callTW GL sp.kx sp.must (evW GL sp 40)
theorem act3 (o : V) : act GL (envL 42 [(0, o), (22, o)]).get op3.op = .call (some (.fn iText [o])) := by kernel_rfl
theorem act4 (o : V) (s : List UInt8) (e : Int) : act GL (envL 42 [(0, o), (3, .str s), (4, .int .i64 e), (27, o)]).get op4.op = .call (some (.fn iRText [o])) := by kernel_rfl
theorem w0 (o : Option O) (E : Prop) : (evL GL sp 40 iTexts [r0, y1] (K1 [(0, .nils)] (hA o) E) (S [(0, .nils)] (hA o))) = (
(((false) = (true)) → (((true) = (true)) → (V.bool true) = (V.bool true)) ∧
 (((true) = (false)) → (((false) = (true)) → (V.bool true) = (V.bool true)) ∧
  (((false) = (false)) → ((E)) ∧
   (((((some V.nils) = (some V.nils)) ∧
      (True)) ∧
     (((42) = (42)) ∧
      ((true) = (true)))) ∧
    (((((T.leaf.node
          (some
            (O.ro (some 0) 4
              [V.int IntKind.u8 (Int.ofNat 0), V.int IntKind.u8 (Int.ofNat 111), V.int IntKind.u8 (Int.ofNat 108),
                V.int IntKind.u8 (Int.ofNat 102)]
              T.leaf))
          T.leaf).node
      (some
        (O.ro (some 0) 32
          [V.int IntKind.u8 (Int.ofNat 0), V.int IntKind.u8 (Int.ofNat 1), V.int IntKind.u8 (Int.ofNat 28),
            V.int IntKind.u8 (Int.ofNat 2), V.int IntKind.u8 (Int.ofNat 29), V.int IntKind.u8 (Int.ofNat 14),
            V.int IntKind.u8 (Int.ofNat 24), V.int IntKind.u8 (Int.ofNat 3), V.int IntKind.u8 (Int.ofNat 30),
            V.int IntKind.u8 (Int.ofNat 22), V.int IntKind.u8 (Int.ofNat 20), V.int IntKind.u8 (Int.ofNat 15),
            V.int IntKind.u8 (Int.ofNat 25), V.int IntKind.u8 (Int.ofNat 17), V.int IntKind.u8 (Int.ofNat 4),
            V.int IntKind.u8 (Int.ofNat 8), V.int IntKind.u8 (Int.ofNat 31), V.int IntKind.u8 (Int.ofNat 27),
            V.int IntKind.u8 (Int.ofNat 13), V.int IntKind.u8 (Int.ofNat 23), V.int IntKind.u8 (Int.ofNat 21),
            V.int IntKind.u8 (Int.ofNat 19), V.int IntKind.u8 (Int.ofNat 16), V.int IntKind.u8 (Int.ofNat 7),
            V.int IntKind.u8 (Int.ofNat 26), V.int IntKind.u8 (Int.ofNat 12), V.int IntKind.u8 (Int.ofNat 18),
            V.int IntKind.u8 (Int.ofNat 6), V.int IntKind.u8 (Int.ofNat 11), V.int IntKind.u8 (Int.ofNat 5),
            V.int IntKind.u8 (Int.ofNat 10), V.int IntKind.u8 (Int.ofNat 9)]
          T.leaf))
      T.leaf).node
  (some
    (O.ro (some 0) 20
      [V.int IntKind.u64 (Int.ofNat 1), V.int IntKind.u64 (Int.ofNat 10), V.int IntKind.u64 (Int.ofNat 100),
        V.int IntKind.u64 (Int.ofNat 1000), V.int IntKind.u64 (Int.ofNat 10000), V.int IntKind.u64 (Int.ofNat 100000),
        V.int IntKind.u64 (Int.ofNat 1000000), V.int IntKind.u64 (Int.ofNat 10000000),
        V.int IntKind.u64 (Int.ofNat 100000000), V.int IntKind.u64 (Int.ofNat 1000000000),
        V.int IntKind.u64 (Int.ofNat 10000000000), V.int IntKind.u64 (Int.ofNat 100000000000),
        V.int IntKind.u64 (Int.ofNat 1000000000000), V.int IntKind.u64 (Int.ofNat 10000000000000),
        V.int IntKind.u64 (Int.ofNat 100000000000000), V.int IntKind.u64 (Int.ofNat 1000000000000000),
        V.int IntKind.u64 (Int.ofNat 10000000000000000), V.int IntKind.u64 (Int.ofNat 100000000000000000),
        V.int IntKind.u64 (Int.ofNat 1000000000000000000), V.int IntKind.u64 (Int.ofNat 10000000000000000000)]
      T.leaf))
  (((T.leaf.node none
            ((T.leaf.node none (T.leaf.node none (T.leaf.node none (T.leaf.node none (T.leaf.node o T.leaf))))).node
              none T.leaf)).node
        none T.leaf).node
    (some
      (O.ro (some 0) 64
        [V.int IntKind.u8 (Int.ofNat 0), V.int IntKind.u8 (Int.ofNat 1), V.int IntKind.u8 (Int.ofNat 56),
          V.int IntKind.u8 (Int.ofNat 2), V.int IntKind.u8 (Int.ofNat 57), V.int IntKind.u8 (Int.ofNat 49),
          V.int IntKind.u8 (Int.ofNat 28), V.int IntKind.u8 (Int.ofNat 3), V.int IntKind.u8 (Int.ofNat 61),
          V.int IntKind.u8 (Int.ofNat 58), V.int IntKind.u8 (Int.ofNat 42), V.int IntKind.u8 (Int.ofNat 50),
          V.int IntKind.u8 (Int.ofNat 38), V.int IntKind.u8 (Int.ofNat 29), V.int IntKind.u8 (Int.ofNat 17),
          V.int IntKind.u8 (Int.ofNat 4), V.int IntKind.u8 (Int.ofNat 62), V.int IntKind.u8 (Int.ofNat 47),
          V.int IntKind.u8 (Int.ofNat 59), V.int IntKind.u8 (Int.ofNat 36), V.int IntKind.u8 (Int.ofNat 45),
          V.int IntKind.u8 (Int.ofNat 43), V.int IntKind.u8 (Int.ofNat 51), V.int IntKind.u8 (Int.ofNat 22),
          V.int IntKind.u8 (Int.ofNat 53), V.int IntKind.u8 (Int.ofNat 39), V.int IntKind.u8 (Int.ofNat 33),
          V.int IntKind.u8 (Int.ofNat 30), V.int IntKind.u8 (Int.ofNat 24), V.int IntKind.u8 (Int.ofNat 18),
          V.int IntKind.u8 (Int.ofNat 12), V.int IntKind.u8 (Int.ofNat 5), V.int IntKind.u8 (Int.ofNat 63),
          V.int IntKind.u8 (Int.ofNat 55), V.int IntKind.u8 (Int.ofNat 48), V.int IntKind.u8 (Int.ofNat 27),
          V.int IntKind.u8 (Int.ofNat 60), V.int IntKind.u8 (Int.ofNat 41), V.int IntKind.u8 (Int.ofNat 37),
          V.int IntKind.u8 (Int.ofNat 16), V.int IntKind.u8 (Int.ofNat 46), V.int IntKind.u8 (Int.ofNat 35),
          V.int IntKind.u8 (Int.ofNat 44), V.int IntKind.u8 (Int.ofNat 21), V.int IntKind.u8 (Int.ofNat 52),
          V.int IntKind.u8 (Int.ofNat 32), V.int IntKind.u8 (Int.ofNat 23), V.int IntKind.u8 (Int.ofNat 11),
          V.int IntKind.u8 (Int.ofNat 54), V.int IntKind.u8 (Int.ofNat 26), V.int IntKind.u8 (Int.ofNat 40),
          V.int IntKind.u8 (Int.ofNat 15), V.int IntKind.u8 (Int.ofNat 34), V.int IntKind.u8 (Int.ofNat 20),
          V.int IntKind.u8 (Int.ofNat 31), V.int IntKind.u8 (Int.ofNat 10), V.int IntKind.u8 (Int.ofNat 25),
          V.int IntKind.u8 (Int.ofNat 14), V.int IntKind.u8 (Int.ofNat 19), V.int IntKind.u8 (Int.ofNat 9),
          V.int IntKind.u8 (Int.ofNat 13), V.int IntKind.u8 (Int.ofNat 8), V.int IntKind.u8 (Int.ofNat 7),
          V.int IntKind.u8 (Int.ofNat 6)]
        T.leaf))
    T.leaf)) = (((T.leaf.node
          (some
            (O.ro (some 0) 4
              [V.int IntKind.u8 (Int.ofNat 0), V.int IntKind.u8 (Int.ofNat 111), V.int IntKind.u8 (Int.ofNat 108),
                V.int IntKind.u8 (Int.ofNat 102)]
              T.leaf))
          T.leaf).node
      (some
        (O.ro (some 0) 32
          [V.int IntKind.u8 (Int.ofNat 0), V.int IntKind.u8 (Int.ofNat 1), V.int IntKind.u8 (Int.ofNat 28),
            V.int IntKind.u8 (Int.ofNat 2), V.int IntKind.u8 (Int.ofNat 29), V.int IntKind.u8 (Int.ofNat 14),
            V.int IntKind.u8 (Int.ofNat 24), V.int IntKind.u8 (Int.ofNat 3), V.int IntKind.u8 (Int.ofNat 30),
            V.int IntKind.u8 (Int.ofNat 22), V.int IntKind.u8 (Int.ofNat 20), V.int IntKind.u8 (Int.ofNat 15),
            V.int IntKind.u8 (Int.ofNat 25), V.int IntKind.u8 (Int.ofNat 17), V.int IntKind.u8 (Int.ofNat 4),
            V.int IntKind.u8 (Int.ofNat 8), V.int IntKind.u8 (Int.ofNat 31), V.int IntKind.u8 (Int.ofNat 27),
            V.int IntKind.u8 (Int.ofNat 13), V.int IntKind.u8 (Int.ofNat 23), V.int IntKind.u8 (Int.ofNat 21),
            V.int IntKind.u8 (Int.ofNat 19), V.int IntKind.u8 (Int.ofNat 16), V.int IntKind.u8 (Int.ofNat 7),
            V.int IntKind.u8 (Int.ofNat 26), V.int IntKind.u8 (Int.ofNat 12), V.int IntKind.u8 (Int.ofNat 18),
            V.int IntKind.u8 (Int.ofNat 6), V.int IntKind.u8 (Int.ofNat 11), V.int IntKind.u8 (Int.ofNat 5),
            V.int IntKind.u8 (Int.ofNat 10), V.int IntKind.u8 (Int.ofNat 9)]
          T.leaf))
      T.leaf).node
  (some
    (O.ro (some 0) 20
      [V.int IntKind.u64 (Int.ofNat 1), V.int IntKind.u64 (Int.ofNat 10), V.int IntKind.u64 (Int.ofNat 100),
        V.int IntKind.u64 (Int.ofNat 1000), V.int IntKind.u64 (Int.ofNat 10000), V.int IntKind.u64 (Int.ofNat 100000),
        V.int IntKind.u64 (Int.ofNat 1000000), V.int IntKind.u64 (Int.ofNat 10000000),
        V.int IntKind.u64 (Int.ofNat 100000000), V.int IntKind.u64 (Int.ofNat 1000000000),
        V.int IntKind.u64 (Int.ofNat 10000000000), V.int IntKind.u64 (Int.ofNat 100000000000),
        V.int IntKind.u64 (Int.ofNat 1000000000000), V.int IntKind.u64 (Int.ofNat 10000000000000),
        V.int IntKind.u64 (Int.ofNat 100000000000000), V.int IntKind.u64 (Int.ofNat 1000000000000000),
        V.int IntKind.u64 (Int.ofNat 10000000000000000), V.int IntKind.u64 (Int.ofNat 100000000000000000),
        V.int IntKind.u64 (Int.ofNat 1000000000000000000), V.int IntKind.u64 (Int.ofNat 10000000000000000000)]
      T.leaf))
  (((T.leaf.node none
            ((T.leaf.node none (T.leaf.node none (T.leaf.node none (T.leaf.node none (T.leaf.node o T.leaf))))).node
              none T.leaf)).node
        none T.leaf).node
    (some
      (O.ro (some 0) 64
        [V.int IntKind.u8 (Int.ofNat 0), V.int IntKind.u8 (Int.ofNat 1), V.int IntKind.u8 (Int.ofNat 56),
          V.int IntKind.u8 (Int.ofNat 2), V.int IntKind.u8 (Int.ofNat 57), V.int IntKind.u8 (Int.ofNat 49),
          V.int IntKind.u8 (Int.ofNat 28), V.int IntKind.u8 (Int.ofNat 3), V.int IntKind.u8 (Int.ofNat 61),
          V.int IntKind.u8 (Int.ofNat 58), V.int IntKind.u8 (Int.ofNat 42), V.int IntKind.u8 (Int.ofNat 50),
          V.int IntKind.u8 (Int.ofNat 38), V.int IntKind.u8 (Int.ofNat 29), V.int IntKind.u8 (Int.ofNat 17),
          V.int IntKind.u8 (Int.ofNat 4), V.int IntKind.u8 (Int.ofNat 62), V.int IntKind.u8 (Int.ofNat 47),
          V.int IntKind.u8 (Int.ofNat 59), V.int IntKind.u8 (Int.ofNat 36), V.int IntKind.u8 (Int.ofNat 45),
          V.int IntKind.u8 (Int.ofNat 43), V.int IntKind.u8 (Int.ofNat 51), V.int IntKind.u8 (Int.ofNat 22),
          V.int IntKind.u8 (Int.ofNat 53), V.int IntKind.u8 (Int.ofNat 39), V.int IntKind.u8 (Int.ofNat 33),
          V.int IntKind.u8 (Int.ofNat 30), V.int IntKind.u8 (Int.ofNat 24), V.int IntKind.u8 (Int.ofNat 18),
          V.int IntKind.u8 (Int.ofNat 12), V.int IntKind.u8 (Int.ofNat 5), V.int IntKind.u8 (Int.ofNat 63),
          V.int IntKind.u8 (Int.ofNat 55), V.int IntKind.u8 (Int.ofNat 48), V.int IntKind.u8 (Int.ofNat 27),
          V.int IntKind.u8 (Int.ofNat 60), V.int IntKind.u8 (Int.ofNat 41), V.int IntKind.u8 (Int.ofNat 37),
          V.int IntKind.u8 (Int.ofNat 16), V.int IntKind.u8 (Int.ofNat 46), V.int IntKind.u8 (Int.ofNat 35),
          V.int IntKind.u8 (Int.ofNat 44), V.int IntKind.u8 (Int.ofNat 21), V.int IntKind.u8 (Int.ofNat 52),
          V.int IntKind.u8 (Int.ofNat 32), V.int IntKind.u8 (Int.ofNat 23), V.int IntKind.u8 (Int.ofNat 11),
          V.int IntKind.u8 (Int.ofNat 54), V.int IntKind.u8 (Int.ofNat 26), V.int IntKind.u8 (Int.ofNat 40),
          V.int IntKind.u8 (Int.ofNat 15), V.int IntKind.u8 (Int.ofNat 34), V.int IntKind.u8 (Int.ofNat 20),
          V.int IntKind.u8 (Int.ofNat 31), V.int IntKind.u8 (Int.ofNat 10), V.int IntKind.u8 (Int.ofNat 25),
          V.int IntKind.u8 (Int.ofNat 14), V.int IntKind.u8 (Int.ofNat 19), V.int IntKind.u8 (Int.ofNat 9),
          V.int IntKind.u8 (Int.ofNat 13), V.int IntKind.u8 (Int.ofNat 8), V.int IntKind.u8 (Int.ofNat 7),
          V.int IntKind.u8 (Int.ofNat 6)]
        T.leaf))
    T.leaf))) ∧
     ((1001) = (1001))))))) ∧
(((false) = (false)) → (((false) = (true)) → (V.bool true) = (V.bool true)) ∧
 (((false) = (false)) → ((E)) ∧
  (((((some V.nils) = (some V.nils)) ∧
     (True)) ∧
    (((42) = (42)) ∧
     ((true) = (true)))) ∧
   (((((T.leaf.node
          (some
            (O.ro (some 0) 4
              [V.int IntKind.u8 (Int.ofNat 0), V.int IntKind.u8 (Int.ofNat 111), V.int IntKind.u8 (Int.ofNat 108),
                V.int IntKind.u8 (Int.ofNat 102)]
              T.leaf))
          T.leaf).node
      (some
        (O.ro (some 0) 32
          [V.int IntKind.u8 (Int.ofNat 0), V.int IntKind.u8 (Int.ofNat 1), V.int IntKind.u8 (Int.ofNat 28),
            V.int IntKind.u8 (Int.ofNat 2), V.int IntKind.u8 (Int.ofNat 29), V.int IntKind.u8 (Int.ofNat 14),
            V.int IntKind.u8 (Int.ofNat 24), V.int IntKind.u8 (Int.ofNat 3), V.int IntKind.u8 (Int.ofNat 30),
            V.int IntKind.u8 (Int.ofNat 22), V.int IntKind.u8 (Int.ofNat 20), V.int IntKind.u8 (Int.ofNat 15),
            V.int IntKind.u8 (Int.ofNat 25), V.int IntKind.u8 (Int.ofNat 17), V.int IntKind.u8 (Int.ofNat 4),
            V.int IntKind.u8 (Int.ofNat 8), V.int IntKind.u8 (Int.ofNat 31), V.int IntKind.u8 (Int.ofNat 27),
            V.int IntKind.u8 (Int.ofNat 13), V.int IntKind.u8 (Int.ofNat 23), V.int IntKind.u8 (Int.ofNat 21),
            V.int IntKind.u8 (Int.ofNat 19), V.int IntKind.u8 (Int.ofNat 16), V.int IntKind.u8 (Int.ofNat 7),
            V.int IntKind.u8 (Int.ofNat 26), V.int IntKind.u8 (Int.ofNat 12), V.int IntKind.u8 (Int.ofNat 18),
            V.int IntKind.u8 (Int.ofNat 6), V.int IntKind.u8 (Int.ofNat 11), V.int IntKind.u8 (Int.ofNat 5),
            V.int IntKind.u8 (Int.ofNat 10), V.int IntKind.u8 (Int.ofNat 9)]
          T.leaf))
      T.leaf).node
  (some
    (O.ro (some 0) 20
      [V.int IntKind.u64 (Int.ofNat 1), V.int IntKind.u64 (Int.ofNat 10), V.int IntKind.u64 (Int.ofNat 100),
        V.int IntKind.u64 (Int.ofNat 1000), V.int IntKind.u64 (Int.ofNat 10000), V.int IntKind.u64 (Int.ofNat 100000),
        V.int IntKind.u64 (Int.ofNat 1000000), V.int IntKind.u64 (Int.ofNat 10000000),
        V.int IntKind.u64 (Int.ofNat 100000000), V.int IntKind.u64 (Int.ofNat 1000000000),
        V.int IntKind.u64 (Int.ofNat 10000000000), V.int IntKind.u64 (Int.ofNat 100000000000),
        V.int IntKind.u64 (Int.ofNat 1000000000000), V.int IntKind.u64 (Int.ofNat 10000000000000),
        V.int IntKind.u64 (Int.ofNat 100000000000000), V.int IntKind.u64 (Int.ofNat 1000000000000000),
        V.int IntKind.u64 (Int.ofNat 10000000000000000), V.int IntKind.u64 (Int.ofNat 100000000000000000),
        V.int IntKind.u64 (Int.ofNat 1000000000000000000), V.int IntKind.u64 (Int.ofNat 10000000000000000000)]
      T.leaf))
  (((T.leaf.node none
            ((T.leaf.node none (T.leaf.node none (T.leaf.node none (T.leaf.node none (T.leaf.node o T.leaf))))).node
              none T.leaf)).node
        none T.leaf).node
    (some
      (O.ro (some 0) 64
        [V.int IntKind.u8 (Int.ofNat 0), V.int IntKind.u8 (Int.ofNat 1), V.int IntKind.u8 (Int.ofNat 56),
          V.int IntKind.u8 (Int.ofNat 2), V.int IntKind.u8 (Int.ofNat 57), V.int IntKind.u8 (Int.ofNat 49),
          V.int IntKind.u8 (Int.ofNat 28), V.int IntKind.u8 (Int.ofNat 3), V.int IntKind.u8 (Int.ofNat 61),
          V.int IntKind.u8 (Int.ofNat 58), V.int IntKind.u8 (Int.ofNat 42), V.int IntKind.u8 (Int.ofNat 50),
          V.int IntKind.u8 (Int.ofNat 38), V.int IntKind.u8 (Int.ofNat 29), V.int IntKind.u8 (Int.ofNat 17),
          V.int IntKind.u8 (Int.ofNat 4), V.int IntKind.u8 (Int.ofNat 62), V.int IntKind.u8 (Int.ofNat 47),
          V.int IntKind.u8 (Int.ofNat 59), V.int IntKind.u8 (Int.ofNat 36), V.int IntKind.u8 (Int.ofNat 45),
          V.int IntKind.u8 (Int.ofNat 43), V.int IntKind.u8 (Int.ofNat 51), V.int IntKind.u8 (Int.ofNat 22),
          V.int IntKind.u8 (Int.ofNat 53), V.int IntKind.u8 (Int.ofNat 39), V.int IntKind.u8 (Int.ofNat 33),
          V.int IntKind.u8 (Int.ofNat 30), V.int IntKind.u8 (Int.ofNat 24), V.int IntKind.u8 (Int.ofNat 18),
          V.int IntKind.u8 (Int.ofNat 12), V.int IntKind.u8 (Int.ofNat 5), V.int IntKind.u8 (Int.ofNat 63),
          V.int IntKind.u8 (Int.ofNat 55), V.int IntKind.u8 (Int.ofNat 48), V.int IntKind.u8 (Int.ofNat 27),
          V.int IntKind.u8 (Int.ofNat 60), V.int IntKind.u8 (Int.ofNat 41), V.int IntKind.u8 (Int.ofNat 37),
          V.int IntKind.u8 (Int.ofNat 16), V.int IntKind.u8 (Int.ofNat 46), V.int IntKind.u8 (Int.ofNat 35),
          V.int IntKind.u8 (Int.ofNat 44), V.int IntKind.u8 (Int.ofNat 21), V.int IntKind.u8 (Int.ofNat 52),
          V.int IntKind.u8 (Int.ofNat 32), V.int IntKind.u8 (Int.ofNat 23), V.int IntKind.u8 (Int.ofNat 11),
          V.int IntKind.u8 (Int.ofNat 54), V.int IntKind.u8 (Int.ofNat 26), V.int IntKind.u8 (Int.ofNat 40),
          V.int IntKind.u8 (Int.ofNat 15), V.int IntKind.u8 (Int.ofNat 34), V.int IntKind.u8 (Int.ofNat 20),
          V.int IntKind.u8 (Int.ofNat 31), V.int IntKind.u8 (Int.ofNat 10), V.int IntKind.u8 (Int.ofNat 25),
          V.int IntKind.u8 (Int.ofNat 14), V.int IntKind.u8 (Int.ofNat 19), V.int IntKind.u8 (Int.ofNat 9),
          V.int IntKind.u8 (Int.ofNat 13), V.int IntKind.u8 (Int.ofNat 8), V.int IntKind.u8 (Int.ofNat 7),
          V.int IntKind.u8 (Int.ofNat 6)]
        T.leaf))
    T.leaf)) = (((T.leaf.node
          (some
            (O.ro (some 0) 4
              [V.int IntKind.u8 (Int.ofNat 0), V.int IntKind.u8 (Int.ofNat 111), V.int IntKind.u8 (Int.ofNat 108),
                V.int IntKind.u8 (Int.ofNat 102)]
              T.leaf))
          T.leaf).node
      (some
        (O.ro (some 0) 32
          [V.int IntKind.u8 (Int.ofNat 0), V.int IntKind.u8 (Int.ofNat 1), V.int IntKind.u8 (Int.ofNat 28),
            V.int IntKind.u8 (Int.ofNat 2), V.int IntKind.u8 (Int.ofNat 29), V.int IntKind.u8 (Int.ofNat 14),
            V.int IntKind.u8 (Int.ofNat 24), V.int IntKind.u8 (Int.ofNat 3), V.int IntKind.u8 (Int.ofNat 30),
            V.int IntKind.u8 (Int.ofNat 22), V.int IntKind.u8 (Int.ofNat 20), V.int IntKind.u8 (Int.ofNat 15),
            V.int IntKind.u8 (Int.ofNat 25), V.int IntKind.u8 (Int.ofNat 17), V.int IntKind.u8 (Int.ofNat 4),
            V.int IntKind.u8 (Int.ofNat 8), V.int IntKind.u8 (Int.ofNat 31), V.int IntKind.u8 (Int.ofNat 27),
            V.int IntKind.u8 (Int.ofNat 13), V.int IntKind.u8 (Int.ofNat 23), V.int IntKind.u8 (Int.ofNat 21),
            V.int IntKind.u8 (Int.ofNat 19), V.int IntKind.u8 (Int.ofNat 16), V.int IntKind.u8 (Int.ofNat 7),
            V.int IntKind.u8 (Int.ofNat 26), V.int IntKind.u8 (Int.ofNat 12), V.int IntKind.u8 (Int.ofNat 18),
            V.int IntKind.u8 (Int.ofNat 6), V.int IntKind.u8 (Int.ofNat 11), V.int IntKind.u8 (Int.ofNat 5),
            V.int IntKind.u8 (Int.ofNat 10), V.int IntKind.u8 (Int.ofNat 9)]
          T.leaf))
      T.leaf).node
  (some
    (O.ro (some 0) 20
      [V.int IntKind.u64 (Int.ofNat 1), V.int IntKind.u64 (Int.ofNat 10), V.int IntKind.u64 (Int.ofNat 100),
        V.int IntKind.u64 (Int.ofNat 1000), V.int IntKind.u64 (Int.ofNat 10000), V.int IntKind.u64 (Int.ofNat 100000),
        V.int IntKind.u64 (Int.ofNat 1000000), V.int IntKind.u64 (Int.ofNat 10000000),
        V.int IntKind.u64 (Int.ofNat 100000000), V.int IntKind.u64 (Int.ofNat 1000000000),
        V.int IntKind.u64 (Int.ofNat 10000000000), V.int IntKind.u64 (Int.ofNat 100000000000),
        V.int IntKind.u64 (Int.ofNat 1000000000000), V.int IntKind.u64 (Int.ofNat 10000000000000),
        V.int IntKind.u64 (Int.ofNat 100000000000000), V.int IntKind.u64 (Int.ofNat 1000000000000000),
        V.int IntKind.u64 (Int.ofNat 10000000000000000), V.int IntKind.u64 (Int.ofNat 100000000000000000),
        V.int IntKind.u64 (Int.ofNat 1000000000000000000), V.int IntKind.u64 (Int.ofNat 10000000000000000000)]
      T.leaf))
  (((T.leaf.node none
            ((T.leaf.node none (T.leaf.node none (T.leaf.node none (T.leaf.node none (T.leaf.node o T.leaf))))).node
              none T.leaf)).node
        none T.leaf).node
    (some
      (O.ro (some 0) 64
        [V.int IntKind.u8 (Int.ofNat 0), V.int IntKind.u8 (Int.ofNat 1), V.int IntKind.u8 (Int.ofNat 56),
          V.int IntKind.u8 (Int.ofNat 2), V.int IntKind.u8 (Int.ofNat 57), V.int IntKind.u8 (Int.ofNat 49),
          V.int IntKind.u8 (Int.ofNat 28), V.int IntKind.u8 (Int.ofNat 3), V.int IntKind.u8 (Int.ofNat 61),
          V.int IntKind.u8 (Int.ofNat 58), V.int IntKind.u8 (Int.ofNat 42), V.int IntKind.u8 (Int.ofNat 50),
          V.int IntKind.u8 (Int.ofNat 38), V.int IntKind.u8 (Int.ofNat 29), V.int IntKind.u8 (Int.ofNat 17),
          V.int IntKind.u8 (Int.ofNat 4), V.int IntKind.u8 (Int.ofNat 62), V.int IntKind.u8 (Int.ofNat 47),
          V.int IntKind.u8 (Int.ofNat 59), V.int IntKind.u8 (Int.ofNat 36), V.int IntKind.u8 (Int.ofNat 45),
          V.int IntKind.u8 (Int.ofNat 43), V.int IntKind.u8 (Int.ofNat 51), V.int IntKind.u8 (Int.ofNat 22),
          V.int IntKind.u8 (Int.ofNat 53), V.int IntKind.u8 (Int.ofNat 39), V.int IntKind.u8 (Int.ofNat 33),
          V.int IntKind.u8 (Int.ofNat 30), V.int IntKind.u8 (Int.ofNat 24), V.int IntKind.u8 (Int.ofNat 18),
          V.int IntKind.u8 (Int.ofNat 12), V.int IntKind.u8 (Int.ofNat 5), V.int IntKind.u8 (Int.ofNat 63),
          V.int IntKind.u8 (Int.ofNat 55), V.int IntKind.u8 (Int.ofNat 48), V.int IntKind.u8 (Int.ofNat 27),
          V.int IntKind.u8 (Int.ofNat 60), V.int IntKind.u8 (Int.ofNat 41), V.int IntKind.u8 (Int.ofNat 37),
          V.int IntKind.u8 (Int.ofNat 16), V.int IntKind.u8 (Int.ofNat 46), V.int IntKind.u8 (Int.ofNat 35),
          V.int IntKind.u8 (Int.ofNat 44), V.int IntKind.u8 (Int.ofNat 21), V.int IntKind.u8 (Int.ofNat 52),
          V.int IntKind.u8 (Int.ofNat 32), V.int IntKind.u8 (Int.ofNat 23), V.int IntKind.u8 (Int.ofNat 11),
          V.int IntKind.u8 (Int.ofNat 54), V.int IntKind.u8 (Int.ofNat 26), V.int IntKind.u8 (Int.ofNat 40),
          V.int IntKind.u8 (Int.ofNat 15), V.int IntKind.u8 (Int.ofNat 34), V.int IntKind.u8 (Int.ofNat 20),
          V.int IntKind.u8 (Int.ofNat 31), V.int IntKind.u8 (Int.ofNat 10), V.int IntKind.u8 (Int.ofNat 25),
          V.int IntKind.u8 (Int.ofNat 14), V.int IntKind.u8 (Int.ofNat 19), V.int IntKind.u8 (Int.ofNat 9),
          V.int IntKind.u8 (Int.ofNat 13), V.int IntKind.u8 (Int.ofNat 8), V.int IntKind.u8 (Int.ofNat 7),
          V.int IntKind.u8 (Int.ofNat 6)]
        T.leaf))
    T.leaf))) ∧
    ((1001) = (1001))))))) := by kernel_rfl
theorem w1 (n : Nat) (c : Cap) (o : Option O) (E : Prop) : (evL GL sp 40 iTexts [r0, y1] (K1 [(0, .slice 1000 0 n c)] (hA o) E) (S [(0, .slice 1000 0 n c)] (hA o))) = (
(((ilt (Int.ofNat 300) (Int.ofNat n)) = (true)) → (((!ilt (Int.ofNat 2000) (Int.ofNat n)) = (true)) → (V.bool true) = (V.bool true)) ∧
 (((!ilt (Int.ofNat 2000) (Int.ofNat n)) = (false)) → (((ilt (Int.ofNat 2005) (Int.ofNat n)) = (true)) → (V.bool true) = (V.bool true)) ∧
  (((ilt (Int.ofNat 2005) (Int.ofNat n)) = (false)) → ((E)) ∧
   (((((some (V.slice 1000 0 n c)) = (some (V.slice 1000 0 n c))) ∧
      (True)) ∧
     (((42) = (42)) ∧
      ((true) = (true)))) ∧
    (((((T.leaf.node
          (some
            (O.ro (some 0) 4
              [V.int IntKind.u8 (Int.ofNat 0), V.int IntKind.u8 (Int.ofNat 111), V.int IntKind.u8 (Int.ofNat 108),
                V.int IntKind.u8 (Int.ofNat 102)]
              T.leaf))
          T.leaf).node
      (some
        (O.ro (some 0) 32
          [V.int IntKind.u8 (Int.ofNat 0), V.int IntKind.u8 (Int.ofNat 1), V.int IntKind.u8 (Int.ofNat 28),
            V.int IntKind.u8 (Int.ofNat 2), V.int IntKind.u8 (Int.ofNat 29), V.int IntKind.u8 (Int.ofNat 14),
            V.int IntKind.u8 (Int.ofNat 24), V.int IntKind.u8 (Int.ofNat 3), V.int IntKind.u8 (Int.ofNat 30),
            V.int IntKind.u8 (Int.ofNat 22), V.int IntKind.u8 (Int.ofNat 20), V.int IntKind.u8 (Int.ofNat 15),
            V.int IntKind.u8 (Int.ofNat 25), V.int IntKind.u8 (Int.ofNat 17), V.int IntKind.u8 (Int.ofNat 4),
            V.int IntKind.u8 (Int.ofNat 8), V.int IntKind.u8 (Int.ofNat 31), V.int IntKind.u8 (Int.ofNat 27),
            V.int IntKind.u8 (Int.ofNat 13), V.int IntKind.u8 (Int.ofNat 23), V.int IntKind.u8 (Int.ofNat 21),
            V.int IntKind.u8 (Int.ofNat 19), V.int IntKind.u8 (Int.ofNat 16), V.int IntKind.u8 (Int.ofNat 7),
            V.int IntKind.u8 (Int.ofNat 26), V.int IntKind.u8 (Int.ofNat 12), V.int IntKind.u8 (Int.ofNat 18),
            V.int IntKind.u8 (Int.ofNat 6), V.int IntKind.u8 (Int.ofNat 11), V.int IntKind.u8 (Int.ofNat 5),
            V.int IntKind.u8 (Int.ofNat 10), V.int IntKind.u8 (Int.ofNat 9)]
          T.leaf))
      T.leaf).node
  (some
    (O.ro (some 0) 20
      [V.int IntKind.u64 (Int.ofNat 1), V.int IntKind.u64 (Int.ofNat 10), V.int IntKind.u64 (Int.ofNat 100),
        V.int IntKind.u64 (Int.ofNat 1000), V.int IntKind.u64 (Int.ofNat 10000), V.int IntKind.u64 (Int.ofNat 100000),
        V.int IntKind.u64 (Int.ofNat 1000000), V.int IntKind.u64 (Int.ofNat 10000000),
        V.int IntKind.u64 (Int.ofNat 100000000), V.int IntKind.u64 (Int.ofNat 1000000000),
        V.int IntKind.u64 (Int.ofNat 10000000000), V.int IntKind.u64 (Int.ofNat 100000000000),
        V.int IntKind.u64 (Int.ofNat 1000000000000), V.int IntKind.u64 (Int.ofNat 10000000000000),
        V.int IntKind.u64 (Int.ofNat 100000000000000), V.int IntKind.u64 (Int.ofNat 1000000000000000),
        V.int IntKind.u64 (Int.ofNat 10000000000000000), V.int IntKind.u64 (Int.ofNat 100000000000000000),
        V.int IntKind.u64 (Int.ofNat 1000000000000000000), V.int IntKind.u64 (Int.ofNat 10000000000000000000)]
      T.leaf))
  (((T.leaf.node none
            ((T.leaf.node none (T.leaf.node none (T.leaf.node none (T.leaf.node none (T.leaf.node o T.leaf))))).node
              none T.leaf)).node
        none T.leaf).node
    (some
      (O.ro (some 0) 64
        [V.int IntKind.u8 (Int.ofNat 0), V.int IntKind.u8 (Int.ofNat 1), V.int IntKind.u8 (Int.ofNat 56),
          V.int IntKind.u8 (Int.ofNat 2), V.int IntKind.u8 (Int.ofNat 57), V.int IntKind.u8 (Int.ofNat 49),
          V.int IntKind.u8 (Int.ofNat 28), V.int IntKind.u8 (Int.ofNat 3), V.int IntKind.u8 (Int.ofNat 61),
          V.int IntKind.u8 (Int.ofNat 58), V.int IntKind.u8 (Int.ofNat 42), V.int IntKind.u8 (Int.ofNat 50),
          V.int IntKind.u8 (Int.ofNat 38), V.int IntKind.u8 (Int.ofNat 29), V.int IntKind.u8 (Int.ofNat 17),
          V.int IntKind.u8 (Int.ofNat 4), V.int IntKind.u8 (Int.ofNat 62), V.int IntKind.u8 (Int.ofNat 47),
          V.int IntKind.u8 (Int.ofNat 59), V.int IntKind.u8 (Int.ofNat 36), V.int IntKind.u8 (Int.ofNat 45),
          V.int IntKind.u8 (Int.ofNat 43), V.int IntKind.u8 (Int.ofNat 51), V.int IntKind.u8 (Int.ofNat 22),
          V.int IntKind.u8 (Int.ofNat 53), V.int IntKind.u8 (Int.ofNat 39), V.int IntKind.u8 (Int.ofNat 33),
          V.int IntKind.u8 (Int.ofNat 30), V.int IntKind.u8 (Int.ofNat 24), V.int IntKind.u8 (Int.ofNat 18),
          V.int IntKind.u8 (Int.ofNat 12), V.int IntKind.u8 (Int.ofNat 5), V.int IntKind.u8 (Int.ofNat 63),
          V.int IntKind.u8 (Int.ofNat 55), V.int IntKind.u8 (Int.ofNat 48), V.int IntKind.u8 (Int.ofNat 27),
          V.int IntKind.u8 (Int.ofNat 60), V.int IntKind.u8 (Int.ofNat 41), V.int IntKind.u8 (Int.ofNat 37),
          V.int IntKind.u8 (Int.ofNat 16), V.int IntKind.u8 (Int.ofNat 46), V.int IntKind.u8 (Int.ofNat 35),
          V.int IntKind.u8 (Int.ofNat 44), V.int IntKind.u8 (Int.ofNat 21), V.int IntKind.u8 (Int.ofNat 52),
          V.int IntKind.u8 (Int.ofNat 32), V.int IntKind.u8 (Int.ofNat 23), V.int IntKind.u8 (Int.ofNat 11),
          V.int IntKind.u8 (Int.ofNat 54), V.int IntKind.u8 (Int.ofNat 26), V.int IntKind.u8 (Int.ofNat 40),
          V.int IntKind.u8 (Int.ofNat 15), V.int IntKind.u8 (Int.ofNat 34), V.int IntKind.u8 (Int.ofNat 20),
          V.int IntKind.u8 (Int.ofNat 31), V.int IntKind.u8 (Int.ofNat 10), V.int IntKind.u8 (Int.ofNat 25),
          V.int IntKind.u8 (Int.ofNat 14), V.int IntKind.u8 (Int.ofNat 19), V.int IntKind.u8 (Int.ofNat 9),
          V.int IntKind.u8 (Int.ofNat 13), V.int IntKind.u8 (Int.ofNat 8), V.int IntKind.u8 (Int.ofNat 7),
          V.int IntKind.u8 (Int.ofNat 6)]
        T.leaf))
    T.leaf)) = (((T.leaf.node
          (some
            (O.ro (some 0) 4
              [V.int IntKind.u8 (Int.ofNat 0), V.int IntKind.u8 (Int.ofNat 111), V.int IntKind.u8 (Int.ofNat 108),
                V.int IntKind.u8 (Int.ofNat 102)]
              T.leaf))
          T.leaf).node
      (some
        (O.ro (some 0) 32
          [V.int IntKind.u8 (Int.ofNat 0), V.int IntKind.u8 (Int.ofNat 1), V.int IntKind.u8 (Int.ofNat 28),
            V.int IntKind.u8 (Int.ofNat 2), V.int IntKind.u8 (Int.ofNat 29), V.int IntKind.u8 (Int.ofNat 14),
            V.int IntKind.u8 (Int.ofNat 24), V.int IntKind.u8 (Int.ofNat 3), V.int IntKind.u8 (Int.ofNat 30),
            V.int IntKind.u8 (Int.ofNat 22), V.int IntKind.u8 (Int.ofNat 20), V.int IntKind.u8 (Int.ofNat 15),
            V.int IntKind.u8 (Int.ofNat 25), V.int IntKind.u8 (Int.ofNat 17), V.int IntKind.u8 (Int.ofNat 4),
            V.int IntKind.u8 (Int.ofNat 8), V.int IntKind.u8 (Int.ofNat 31), V.int IntKind.u8 (Int.ofNat 27),
            V.int IntKind.u8 (Int.ofNat 13), V.int IntKind.u8 (Int.ofNat 23), V.int IntKind.u8 (Int.ofNat 21),
            V.int IntKind.u8 (Int.ofNat 19), V.int IntKind.u8 (Int.ofNat 16), V.int IntKind.u8 (Int.ofNat 7),
            V.int IntKind.u8 (Int.ofNat 26), V.int IntKind.u8 (Int.ofNat 12), V.int IntKind.u8 (Int.ofNat 18),
            V.int IntKind.u8 (Int.ofNat 6), V.int IntKind.u8 (Int.ofNat 11), V.int IntKind.u8 (Int.ofNat 5),
            V.int IntKind.u8 (Int.ofNat 10), V.int IntKind.u8 (Int.ofNat 9)]
          T.leaf))
      T.leaf).node
  (some
    (O.ro (some 0) 20
      [V.int IntKind.u64 (Int.ofNat 1), V.int IntKind.u64 (Int.ofNat 10), V.int IntKind.u64 (Int.ofNat 100),
        V.int IntKind.u64 (Int.ofNat 1000), V.int IntKind.u64 (Int.ofNat 10000), V.int IntKind.u64 (Int.ofNat 100000),
        V.int IntKind.u64 (Int.ofNat 1000000), V.int IntKind.u64 (Int.ofNat 10000000),
        V.int IntKind.u64 (Int.ofNat 100000000), V.int IntKind.u64 (Int.ofNat 1000000000),
        V.int IntKind.u64 (Int.ofNat 10000000000), V.int IntKind.u64 (Int.ofNat 100000000000),
        V.int IntKind.u64 (Int.ofNat 1000000000000), V.int IntKind.u64 (Int.ofNat 10000000000000),
        V.int IntKind.u64 (Int.ofNat 100000000000000), V.int IntKind.u64 (Int.ofNat 1000000000000000),
        V.int IntKind.u64 (Int.ofNat 10000000000000000), V.int IntKind.u64 (Int.ofNat 100000000000000000),
        V.int IntKind.u64 (Int.ofNat 1000000000000000000), V.int IntKind.u64 (Int.ofNat 10000000000000000000)]
      T.leaf))
  (((T.leaf.node none
            ((T.leaf.node none (T.leaf.node none (T.leaf.node none (T.leaf.node none (T.leaf.node o T.leaf))))).node
              none T.leaf)).node
        none T.leaf).node
    (some
      (O.ro (some 0) 64
        [V.int IntKind.u8 (Int.ofNat 0), V.int IntKind.u8 (Int.ofNat 1), V.int IntKind.u8 (Int.ofNat 56),
          V.int IntKind.u8 (Int.ofNat 2), V.int IntKind.u8 (Int.ofNat 57), V.int IntKind.u8 (Int.ofNat 49),
          V.int IntKind.u8 (Int.ofNat 28), V.int IntKind.u8 (Int.ofNat 3), V.int IntKind.u8 (Int.ofNat 61),
          V.int IntKind.u8 (Int.ofNat 58), V.int IntKind.u8 (Int.ofNat 42), V.int IntKind.u8 (Int.ofNat 50),
          V.int IntKind.u8 (Int.ofNat 38), V.int IntKind.u8 (Int.ofNat 29), V.int IntKind.u8 (Int.ofNat 17),
          V.int IntKind.u8 (Int.ofNat 4), V.int IntKind.u8 (Int.ofNat 62), V.int IntKind.u8 (Int.ofNat 47),
          V.int IntKind.u8 (Int.ofNat 59), V.int IntKind.u8 (Int.ofNat 36), V.int IntKind.u8 (Int.ofNat 45),
          V.int IntKind.u8 (Int.ofNat 43), V.int IntKind.u8 (Int.ofNat 51), V.int IntKind.u8 (Int.ofNat 22),
          V.int IntKind.u8 (Int.ofNat 53), V.int IntKind.u8 (Int.ofNat 39), V.int IntKind.u8 (Int.ofNat 33),
          V.int IntKind.u8 (Int.ofNat 30), V.int IntKind.u8 (Int.ofNat 24), V.int IntKind.u8 (Int.ofNat 18),
          V.int IntKind.u8 (Int.ofNat 12), V.int IntKind.u8 (Int.ofNat 5), V.int IntKind.u8 (Int.ofNat 63),
          V.int IntKind.u8 (Int.ofNat 55), V.int IntKind.u8 (Int.ofNat 48), V.int IntKind.u8 (Int.ofNat 27),
          V.int IntKind.u8 (Int.ofNat 60), V.int IntKind.u8 (Int.ofNat 41), V.int IntKind.u8 (Int.ofNat 37),
          V.int IntKind.u8 (Int.ofNat 16), V.int IntKind.u8 (Int.ofNat 46), V.int IntKind.u8 (Int.ofNat 35),
          V.int IntKind.u8 (Int.ofNat 44), V.int IntKind.u8 (Int.ofNat 21), V.int IntKind.u8 (Int.ofNat 52),
          V.int IntKind.u8 (Int.ofNat 32), V.int IntKind.u8 (Int.ofNat 23), V.int IntKind.u8 (Int.ofNat 11),
          V.int IntKind.u8 (Int.ofNat 54), V.int IntKind.u8 (Int.ofNat 26), V.int IntKind.u8 (Int.ofNat 40),
          V.int IntKind.u8 (Int.ofNat 15), V.int IntKind.u8 (Int.ofNat 34), V.int IntKind.u8 (Int.ofNat 20),
          V.int IntKind.u8 (Int.ofNat 31), V.int IntKind.u8 (Int.ofNat 10), V.int IntKind.u8 (Int.ofNat 25),
          V.int IntKind.u8 (Int.ofNat 14), V.int IntKind.u8 (Int.ofNat 19), V.int IntKind.u8 (Int.ofNat 9),
          V.int IntKind.u8 (Int.ofNat 13), V.int IntKind.u8 (Int.ofNat 8), V.int IntKind.u8 (Int.ofNat 7),
          V.int IntKind.u8 (Int.ofNat 6)]
        T.leaf))
    T.leaf))) ∧
     ((1001) = (1001))))))) ∧
(((ilt (Int.ofNat 300) (Int.ofNat n)) = (false)) → (((ilt (Int.ofNat 2005) (Int.ofNat n)) = (true)) → (V.bool true) = (V.bool true)) ∧
 (((ilt (Int.ofNat 2005) (Int.ofNat n)) = (false)) → ((E)) ∧
  (((((some (V.slice 1000 0 n c)) = (some (V.slice 1000 0 n c))) ∧
     (True)) ∧
    (((42) = (42)) ∧
     ((true) = (true)))) ∧
   (((((T.leaf.node
          (some
            (O.ro (some 0) 4
              [V.int IntKind.u8 (Int.ofNat 0), V.int IntKind.u8 (Int.ofNat 111), V.int IntKind.u8 (Int.ofNat 108),
                V.int IntKind.u8 (Int.ofNat 102)]
              T.leaf))
          T.leaf).node
      (some
        (O.ro (some 0) 32
          [V.int IntKind.u8 (Int.ofNat 0), V.int IntKind.u8 (Int.ofNat 1), V.int IntKind.u8 (Int.ofNat 28),
            V.int IntKind.u8 (Int.ofNat 2), V.int IntKind.u8 (Int.ofNat 29), V.int IntKind.u8 (Int.ofNat 14),
            V.int IntKind.u8 (Int.ofNat 24), V.int IntKind.u8 (Int.ofNat 3), V.int IntKind.u8 (Int.ofNat 30),
            V.int IntKind.u8 (Int.ofNat 22), V.int IntKind.u8 (Int.ofNat 20), V.int IntKind.u8 (Int.ofNat 15),
            V.int IntKind.u8 (Int.ofNat 25), V.int IntKind.u8 (Int.ofNat 17), V.int IntKind.u8 (Int.ofNat 4),
            V.int IntKind.u8 (Int.ofNat 8), V.int IntKind.u8 (Int.ofNat 31), V.int IntKind.u8 (Int.ofNat 27),
            V.int IntKind.u8 (Int.ofNat 13), V.int IntKind.u8 (Int.ofNat 23), V.int IntKind.u8 (Int.ofNat 21),
            V.int IntKind.u8 (Int.ofNat 19), V.int IntKind.u8 (Int.ofNat 16), V.int IntKind.u8 (Int.ofNat 7),
            V.int IntKind.u8 (Int.ofNat 26), V.int IntKind.u8 (Int.ofNat 12), V.int IntKind.u8 (Int.ofNat 18),
            V.int IntKind.u8 (Int.ofNat 6), V.int IntKind.u8 (Int.ofNat 11), V.int IntKind.u8 (Int.ofNat 5),
            V.int IntKind.u8 (Int.ofNat 10), V.int IntKind.u8 (Int.ofNat 9)]
          T.leaf))
      T.leaf).node
  (some
    (O.ro (some 0) 20
      [V.int IntKind.u64 (Int.ofNat 1), V.int IntKind.u64 (Int.ofNat 10), V.int IntKind.u64 (Int.ofNat 100),
        V.int IntKind.u64 (Int.ofNat 1000), V.int IntKind.u64 (Int.ofNat 10000), V.int IntKind.u64 (Int.ofNat 100000),
        V.int IntKind.u64 (Int.ofNat 1000000), V.int IntKind.u64 (Int.ofNat 10000000),
        V.int IntKind.u64 (Int.ofNat 100000000), V.int IntKind.u64 (Int.ofNat 1000000000),
        V.int IntKind.u64 (Int.ofNat 10000000000), V.int IntKind.u64 (Int.ofNat 100000000000),
        V.int IntKind.u64 (Int.ofNat 1000000000000), V.int IntKind.u64 (Int.ofNat 10000000000000),
        V.int IntKind.u64 (Int.ofNat 100000000000000), V.int IntKind.u64 (Int.ofNat 1000000000000000),
        V.int IntKind.u64 (Int.ofNat 10000000000000000), V.int IntKind.u64 (Int.ofNat 100000000000000000),
        V.int IntKind.u64 (Int.ofNat 1000000000000000000), V.int IntKind.u64 (Int.ofNat 10000000000000000000)]
      T.leaf))
  (((T.leaf.node none
            ((T.leaf.node none (T.leaf.node none (T.leaf.node none (T.leaf.node none (T.leaf.node o T.leaf))))).node
              none T.leaf)).node
        none T.leaf).node
    (some
      (O.ro (some 0) 64
        [V.int IntKind.u8 (Int.ofNat 0), V.int IntKind.u8 (Int.ofNat 1), V.int IntKind.u8 (Int.ofNat 56),
          V.int IntKind.u8 (Int.ofNat 2), V.int IntKind.u8 (Int.ofNat 57), V.int IntKind.u8 (Int.ofNat 49),
          V.int IntKind.u8 (Int.ofNat 28), V.int IntKind.u8 (Int.ofNat 3), V.int IntKind.u8 (Int.ofNat 61),
          V.int IntKind.u8 (Int.ofNat 58), V.int IntKind.u8 (Int.ofNat 42), V.int IntKind.u8 (Int.ofNat 50),
          V.int IntKind.u8 (Int.ofNat 38), V.int IntKind.u8 (Int.ofNat 29), V.int IntKind.u8 (Int.ofNat 17),
          V.int IntKind.u8 (Int.ofNat 4), V.int IntKind.u8 (Int.ofNat 62), V.int IntKind.u8 (Int.ofNat 47),
          V.int IntKind.u8 (Int.ofNat 59), V.int IntKind.u8 (Int.ofNat 36), V.int IntKind.u8 (Int.ofNat 45),
          V.int IntKind.u8 (Int.ofNat 43), V.int IntKind.u8 (Int.ofNat 51), V.int IntKind.u8 (Int.ofNat 22),
          V.int IntKind.u8 (Int.ofNat 53), V.int IntKind.u8 (Int.ofNat 39), V.int IntKind.u8 (Int.ofNat 33),
          V.int IntKind.u8 (Int.ofNat 30), V.int IntKind.u8 (Int.ofNat 24), V.int IntKind.u8 (Int.ofNat 18),
          V.int IntKind.u8 (Int.ofNat 12), V.int IntKind.u8 (Int.ofNat 5), V.int IntKind.u8 (Int.ofNat 63),
          V.int IntKind.u8 (Int.ofNat 55), V.int IntKind.u8 (Int.ofNat 48), V.int IntKind.u8 (Int.ofNat 27),
          V.int IntKind.u8 (Int.ofNat 60), V.int IntKind.u8 (Int.ofNat 41), V.int IntKind.u8 (Int.ofNat 37),
          V.int IntKind.u8 (Int.ofNat 16), V.int IntKind.u8 (Int.ofNat 46), V.int IntKind.u8 (Int.ofNat 35),
          V.int IntKind.u8 (Int.ofNat 44), V.int IntKind.u8 (Int.ofNat 21), V.int IntKind.u8 (Int.ofNat 52),
          V.int IntKind.u8 (Int.ofNat 32), V.int IntKind.u8 (Int.ofNat 23), V.int IntKind.u8 (Int.ofNat 11),
          V.int IntKind.u8 (Int.ofNat 54), V.int IntKind.u8 (Int.ofNat 26), V.int IntKind.u8 (Int.ofNat 40),
          V.int IntKind.u8 (Int.ofNat 15), V.int IntKind.u8 (Int.ofNat 34), V.int IntKind.u8 (Int.ofNat 20),
          V.int IntKind.u8 (Int.ofNat 31), V.int IntKind.u8 (Int.ofNat 10), V.int IntKind.u8 (Int.ofNat 25),
          V.int IntKind.u8 (Int.ofNat 14), V.int IntKind.u8 (Int.ofNat 19), V.int IntKind.u8 (Int.ofNat 9),
          V.int IntKind.u8 (Int.ofNat 13), V.int IntKind.u8 (Int.ofNat 8), V.int IntKind.u8 (Int.ofNat 7),
          V.int IntKind.u8 (Int.ofNat 6)]
        T.leaf))
    T.leaf)) = (((T.leaf.node
          (some
            (O.ro (some 0) 4
              [V.int IntKind.u8 (Int.ofNat 0), V.int IntKind.u8 (Int.ofNat 111), V.int IntKind.u8 (Int.ofNat 108),
                V.int IntKind.u8 (Int.ofNat 102)]
              T.leaf))
          T.leaf).node
      (some
        (O.ro (some 0) 32
          [V.int IntKind.u8 (Int.ofNat 0), V.int IntKind.u8 (Int.ofNat 1), V.int IntKind.u8 (Int.ofNat 28),
            V.int IntKind.u8 (Int.ofNat 2), V.int IntKind.u8 (Int.ofNat 29), V.int IntKind.u8 (Int.ofNat 14),
            V.int IntKind.u8 (Int.ofNat 24), V.int IntKind.u8 (Int.ofNat 3), V.int IntKind.u8 (Int.ofNat 30),
            V.int IntKind.u8 (Int.ofNat 22), V.int IntKind.u8 (Int.ofNat 20), V.int IntKind.u8 (Int.ofNat 15),
            V.int IntKind.u8 (Int.ofNat 25), V.int IntKind.u8 (Int.ofNat 17), V.int IntKind.u8 (Int.ofNat 4),
            V.int IntKind.u8 (Int.ofNat 8), V.int IntKind.u8 (Int.ofNat 31), V.int IntKind.u8 (Int.ofNat 27),
            V.int IntKind.u8 (Int.ofNat 13), V.int IntKind.u8 (Int.ofNat 23), V.int IntKind.u8 (Int.ofNat 21),
            V.int IntKind.u8 (Int.ofNat 19), V.int IntKind.u8 (Int.ofNat 16), V.int IntKind.u8 (Int.ofNat 7),
            V.int IntKind.u8 (Int.ofNat 26), V.int IntKind.u8 (Int.ofNat 12), V.int IntKind.u8 (Int.ofNat 18),
            V.int IntKind.u8 (Int.ofNat 6), V.int IntKind.u8 (Int.ofNat 11), V.int IntKind.u8 (Int.ofNat 5),
            V.int IntKind.u8 (Int.ofNat 10), V.int IntKind.u8 (Int.ofNat 9)]
          T.leaf))
      T.leaf).node
  (some
    (O.ro (some 0) 20
      [V.int IntKind.u64 (Int.ofNat 1), V.int IntKind.u64 (Int.ofNat 10), V.int IntKind.u64 (Int.ofNat 100),
        V.int IntKind.u64 (Int.ofNat 1000), V.int IntKind.u64 (Int.ofNat 10000), V.int IntKind.u64 (Int.ofNat 100000),
        V.int IntKind.u64 (Int.ofNat 1000000), V.int IntKind.u64 (Int.ofNat 10000000),
        V.int IntKind.u64 (Int.ofNat 100000000), V.int IntKind.u64 (Int.ofNat 1000000000),
        V.int IntKind.u64 (Int.ofNat 10000000000), V.int IntKind.u64 (Int.ofNat 100000000000),
        V.int IntKind.u64 (Int.ofNat 1000000000000), V.int IntKind.u64 (Int.ofNat 10000000000000),
        V.int IntKind.u64 (Int.ofNat 100000000000000), V.int IntKind.u64 (Int.ofNat 1000000000000000),
        V.int IntKind.u64 (Int.ofNat 10000000000000000), V.int IntKind.u64 (Int.ofNat 100000000000000000),
        V.int IntKind.u64 (Int.ofNat 1000000000000000000), V.int IntKind.u64 (Int.ofNat 10000000000000000000)]
      T.leaf))
  (((T.leaf.node none
            ((T.leaf.node none (T.leaf.node none (T.leaf.node none (T.leaf.node none (T.leaf.node o T.leaf))))).node
              none T.leaf)).node
        none T.leaf).node
    (some
      (O.ro (some 0) 64
        [V.int IntKind.u8 (Int.ofNat 0), V.int IntKind.u8 (Int.ofNat 1), V.int IntKind.u8 (Int.ofNat 56),
          V.int IntKind.u8 (Int.ofNat 2), V.int IntKind.u8 (Int.ofNat 57), V.int IntKind.u8 (Int.ofNat 49),
          V.int IntKind.u8 (Int.ofNat 28), V.int IntKind.u8 (Int.ofNat 3), V.int IntKind.u8 (Int.ofNat 61),
          V.int IntKind.u8 (Int.ofNat 58), V.int IntKind.u8 (Int.ofNat 42), V.int IntKind.u8 (Int.ofNat 50),
          V.int IntKind.u8 (Int.ofNat 38), V.int IntKind.u8 (Int.ofNat 29), V.int IntKind.u8 (Int.ofNat 17),
          V.int IntKind.u8 (Int.ofNat 4), V.int IntKind.u8 (Int.ofNat 62), V.int IntKind.u8 (Int.ofNat 47),
          V.int IntKind.u8 (Int.ofNat 59), V.int IntKind.u8 (Int.ofNat 36), V.int IntKind.u8 (Int.ofNat 45),
          V.int IntKind.u8 (Int.ofNat 43), V.int IntKind.u8 (Int.ofNat 51), V.int IntKind.u8 (Int.ofNat 22),
          V.int IntKind.u8 (Int.ofNat 53), V.int IntKind.u8 (Int.ofNat 39), V.int IntKind.u8 (Int.ofNat 33),
          V.int IntKind.u8 (Int.ofNat 30), V.int IntKind.u8 (Int.ofNat 24), V.int IntKind.u8 (Int.ofNat 18),
          V.int IntKind.u8 (Int.ofNat 12), V.int IntKind.u8 (Int.ofNat 5), V.int IntKind.u8 (Int.ofNat 63),
          V.int IntKind.u8 (Int.ofNat 55), V.int IntKind.u8 (Int.ofNat 48), V.int IntKind.u8 (Int.ofNat 27),
          V.int IntKind.u8 (Int.ofNat 60), V.int IntKind.u8 (Int.ofNat 41), V.int IntKind.u8 (Int.ofNat 37),
          V.int IntKind.u8 (Int.ofNat 16), V.int IntKind.u8 (Int.ofNat 46), V.int IntKind.u8 (Int.ofNat 35),
          V.int IntKind.u8 (Int.ofNat 44), V.int IntKind.u8 (Int.ofNat 21), V.int IntKind.u8 (Int.ofNat 52),
          V.int IntKind.u8 (Int.ofNat 32), V.int IntKind.u8 (Int.ofNat 23), V.int IntKind.u8 (Int.ofNat 11),
          V.int IntKind.u8 (Int.ofNat 54), V.int IntKind.u8 (Int.ofNat 26), V.int IntKind.u8 (Int.ofNat 40),
          V.int IntKind.u8 (Int.ofNat 15), V.int IntKind.u8 (Int.ofNat 34), V.int IntKind.u8 (Int.ofNat 20),
          V.int IntKind.u8 (Int.ofNat 31), V.int IntKind.u8 (Int.ofNat 10), V.int IntKind.u8 (Int.ofNat 25),
          V.int IntKind.u8 (Int.ofNat 14), V.int IntKind.u8 (Int.ofNat 19), V.int IntKind.u8 (Int.ofNat 9),
          V.int IntKind.u8 (Int.ofNat 13), V.int IntKind.u8 (Int.ofNat 8), V.int IntKind.u8 (Int.ofNat 7),
          V.int IntKind.u8 (Int.ofNat 6)]
        T.leaf))
    T.leaf))) ∧
    ((1001) = (1001))))))) := by kernel_rfl
theorem w3a (a : V) (h : H) : (regW GL sp cT iTexts (cOps r3) (opsPart (cOps r3) 0 1) (envL 42 [(0, a)]) h (KH [(0, a), (22, a)] h)) = (
(((some a) = (some a)) ∧
 (((some a) = (some a)) ∧
  (True))) ∧
(((42) = (42)) ∧
 ((h) = (h)))) := by kernel_rfl
theorem w3b (a : V) (s : List UInt8) (e : Int) (h : H) : (regW GL sp cT iTexts (cOps r3) (opsPart (cOps r3) 2 5) (envL 42 [(0, a), (23, .tuple [.str s, .int .i64 e])]) h (KH [(0, a), (3, .str s), (4, .int .i64 e)] h)) = (
(((some a) = (some a)) ∧
 (((some (V.str s)) = (some (V.str s))) ∧
  (((some (V.int IntKind.i64 e)) = (some (V.int IntKind.i64 e))) ∧
   (True)))) ∧
(((42) = (42)) ∧
 ((h) = (h)))) := by kernel_rfl
theorem w4a (a : V) (s : List UInt8) (e : Int) (h : H) : (regW GL sp cT iTexts (cOps r4) (opsPart (cOps r4) 0 1) (envL 42 [(0, a), (3, .str s), (4, .int .i64 e)]) h (KH [(0, a), (3, .str s), (4, .int .i64 e), (27, a)] h)) = (
(((some a) = (some a)) ∧
 (((some (V.str s)) = (some (V.str s))) ∧
  (((some (V.int IntKind.i64 e)) = (some (V.int IntKind.i64 e))) ∧
   (((some a) = (some a)) ∧
    (True))))) ∧
(((42) = (42)) ∧
 ((h) = (h)))) := by kernel_rfl
theorem w4b (s t : List UInt8) (e f : Int) (h : H) : (regW GL sp cT iTexts (cOps r4) (opsPart (cOps r4) 2 5) (envL 42 [(3, .str s), (4, .int .i64 e), (28, .tuple [.str t, .int .i64 f])]) h (KH [(3, .str s), (4, .int .i64 e), (5, .str t), (6, .int .i64 f)] h)) = (
(((some (V.str s)) = (some (V.str s))) ∧
 (((some (V.int IntKind.i64 e)) = (some (V.int IntKind.i64 e))) ∧
  (((some (V.str t)) = (some (V.str t))) ∧
   (((some (V.int IntKind.i64 f)) = (some (V.int IntKind.i64 f))) ∧
    (True))))) ∧
(((42) = (42)) ∧
 ((h) = (h)))) := by kernel_rfl
theorem w5 (s : List UInt8) (e : Int) (o : Option O) : (evW GL sp 40 r5 none iTexts (S [(3, .str s), (4, .int .i64 e), (5, .str s), (6, .int .i64 e)] (hA o)) (KD [(2, .bool true)] (hA o))) = (
((s == s) = (true)) ∧
(((ieq e e) = (true)) ∧
 (((((some (V.bool true)) = (some (V.bool true))) ∧
    (True)) ∧
   (((42) = (42)) ∧
    ((true) = (true)))) ∧
  (((((T.leaf.node
          (some
            (O.ro (some 0) 4
              [V.int IntKind.u8 (Int.ofNat 0), V.int IntKind.u8 (Int.ofNat 111), V.int IntKind.u8 (Int.ofNat 108),
                V.int IntKind.u8 (Int.ofNat 102)]
              T.leaf))
          T.leaf).node
      (some
        (O.ro (some 0) 32
          [V.int IntKind.u8 (Int.ofNat 0), V.int IntKind.u8 (Int.ofNat 1), V.int IntKind.u8 (Int.ofNat 28),
            V.int IntKind.u8 (Int.ofNat 2), V.int IntKind.u8 (Int.ofNat 29), V.int IntKind.u8 (Int.ofNat 14),
            V.int IntKind.u8 (Int.ofNat 24), V.int IntKind.u8 (Int.ofNat 3), V.int IntKind.u8 (Int.ofNat 30),
            V.int IntKind.u8 (Int.ofNat 22), V.int IntKind.u8 (Int.ofNat 20), V.int IntKind.u8 (Int.ofNat 15),
            V.int IntKind.u8 (Int.ofNat 25), V.int IntKind.u8 (Int.ofNat 17), V.int IntKind.u8 (Int.ofNat 4),
            V.int IntKind.u8 (Int.ofNat 8), V.int IntKind.u8 (Int.ofNat 31), V.int IntKind.u8 (Int.ofNat 27),
            V.int IntKind.u8 (Int.ofNat 13), V.int IntKind.u8 (Int.ofNat 23), V.int IntKind.u8 (Int.ofNat 21),
            V.int IntKind.u8 (Int.ofNat 19), V.int IntKind.u8 (Int.ofNat 16), V.int IntKind.u8 (Int.ofNat 7),
            V.int IntKind.u8 (Int.ofNat 26), V.int IntKind.u8 (Int.ofNat 12), V.int IntKind.u8 (Int.ofNat 18),
            V.int IntKind.u8 (Int.ofNat 6), V.int IntKind.u8 (Int.ofNat 11), V.int IntKind.u8 (Int.ofNat 5),
            V.int IntKind.u8 (Int.ofNat 10), V.int IntKind.u8 (Int.ofNat 9)]
          T.leaf))
      T.leaf).node
  (some
    (O.ro (some 0) 20
      [V.int IntKind.u64 (Int.ofNat 1), V.int IntKind.u64 (Int.ofNat 10), V.int IntKind.u64 (Int.ofNat 100),
        V.int IntKind.u64 (Int.ofNat 1000), V.int IntKind.u64 (Int.ofNat 10000), V.int IntKind.u64 (Int.ofNat 100000),
        V.int IntKind.u64 (Int.ofNat 1000000), V.int IntKind.u64 (Int.ofNat 10000000),
        V.int IntKind.u64 (Int.ofNat 100000000), V.int IntKind.u64 (Int.ofNat 1000000000),
        V.int IntKind.u64 (Int.ofNat 10000000000), V.int IntKind.u64 (Int.ofNat 100000000000),
        V.int IntKind.u64 (Int.ofNat 1000000000000), V.int IntKind.u64 (Int.ofNat 10000000000000),
        V.int IntKind.u64 (Int.ofNat 100000000000000), V.int IntKind.u64 (Int.ofNat 1000000000000000),
        V.int IntKind.u64 (Int.ofNat 10000000000000000), V.int IntKind.u64 (Int.ofNat 100000000000000000),
        V.int IntKind.u64 (Int.ofNat 1000000000000000000), V.int IntKind.u64 (Int.ofNat 10000000000000000000)]
      T.leaf))
  (((T.leaf.node none
            ((T.leaf.node none (T.leaf.node none (T.leaf.node none (T.leaf.node none (T.leaf.node o T.leaf))))).node
              none T.leaf)).node
        none T.leaf).node
    (some
      (O.ro (some 0) 64
        [V.int IntKind.u8 (Int.ofNat 0), V.int IntKind.u8 (Int.ofNat 1), V.int IntKind.u8 (Int.ofNat 56),
          V.int IntKind.u8 (Int.ofNat 2), V.int IntKind.u8 (Int.ofNat 57), V.int IntKind.u8 (Int.ofNat 49),
          V.int IntKind.u8 (Int.ofNat 28), V.int IntKind.u8 (Int.ofNat 3), V.int IntKind.u8 (Int.ofNat 61),
          V.int IntKind.u8 (Int.ofNat 58), V.int IntKind.u8 (Int.ofNat 42), V.int IntKind.u8 (Int.ofNat 50),
          V.int IntKind.u8 (Int.ofNat 38), V.int IntKind.u8 (Int.ofNat 29), V.int IntKind.u8 (Int.ofNat 17),
          V.int IntKind.u8 (Int.ofNat 4), V.int IntKind.u8 (Int.ofNat 62), V.int IntKind.u8 (Int.ofNat 47),
          V.int IntKind.u8 (Int.ofNat 59), V.int IntKind.u8 (Int.ofNat 36), V.int IntKind.u8 (Int.ofNat 45),
          V.int IntKind.u8 (Int.ofNat 43), V.int IntKind.u8 (Int.ofNat 51), V.int IntKind.u8 (Int.ofNat 22),
          V.int IntKind.u8 (Int.ofNat 53), V.int IntKind.u8 (Int.ofNat 39), V.int IntKind.u8 (Int.ofNat 33),
          V.int IntKind.u8 (Int.ofNat 30), V.int IntKind.u8 (Int.ofNat 24), V.int IntKind.u8 (Int.ofNat 18),
          V.int IntKind.u8 (Int.ofNat 12), V.int IntKind.u8 (Int.ofNat 5), V.int IntKind.u8 (Int.ofNat 63),
          V.int IntKind.u8 (Int.ofNat 55), V.int IntKind.u8 (Int.ofNat 48), V.int IntKind.u8 (Int.ofNat 27),
          V.int IntKind.u8 (Int.ofNat 60), V.int IntKind.u8 (Int.ofNat 41), V.int IntKind.u8 (Int.ofNat 37),
          V.int IntKind.u8 (Int.ofNat 16), V.int IntKind.u8 (Int.ofNat 46), V.int IntKind.u8 (Int.ofNat 35),
          V.int IntKind.u8 (Int.ofNat 44), V.int IntKind.u8 (Int.ofNat 21), V.int IntKind.u8 (Int.ofNat 52),
          V.int IntKind.u8 (Int.ofNat 32), V.int IntKind.u8 (Int.ofNat 23), V.int IntKind.u8 (Int.ofNat 11),
          V.int IntKind.u8 (Int.ofNat 54), V.int IntKind.u8 (Int.ofNat 26), V.int IntKind.u8 (Int.ofNat 40),
          V.int IntKind.u8 (Int.ofNat 15), V.int IntKind.u8 (Int.ofNat 34), V.int IntKind.u8 (Int.ofNat 20),
          V.int IntKind.u8 (Int.ofNat 31), V.int IntKind.u8 (Int.ofNat 10), V.int IntKind.u8 (Int.ofNat 25),
          V.int IntKind.u8 (Int.ofNat 14), V.int IntKind.u8 (Int.ofNat 19), V.int IntKind.u8 (Int.ofNat 9),
          V.int IntKind.u8 (Int.ofNat 13), V.int IntKind.u8 (Int.ofNat 8), V.int IntKind.u8 (Int.ofNat 7),
          V.int IntKind.u8 (Int.ofNat 6)]
        T.leaf))
    T.leaf)) = (((T.leaf.node
          (some
            (O.ro (some 0) 4
              [V.int IntKind.u8 (Int.ofNat 0), V.int IntKind.u8 (Int.ofNat 111), V.int IntKind.u8 (Int.ofNat 108),
                V.int IntKind.u8 (Int.ofNat 102)]
              T.leaf))
          T.leaf).node
      (some
        (O.ro (some 0) 32
          [V.int IntKind.u8 (Int.ofNat 0), V.int IntKind.u8 (Int.ofNat 1), V.int IntKind.u8 (Int.ofNat 28),
            V.int IntKind.u8 (Int.ofNat 2), V.int IntKind.u8 (Int.ofNat 29), V.int IntKind.u8 (Int.ofNat 14),
            V.int IntKind.u8 (Int.ofNat 24), V.int IntKind.u8 (Int.ofNat 3), V.int IntKind.u8 (Int.ofNat 30),
            V.int IntKind.u8 (Int.ofNat 22), V.int IntKind.u8 (Int.ofNat 20), V.int IntKind.u8 (Int.ofNat 15),
            V.int IntKind.u8 (Int.ofNat 25), V.int IntKind.u8 (Int.ofNat 17), V.int IntKind.u8 (Int.ofNat 4),
            V.int IntKind.u8 (Int.ofNat 8), V.int IntKind.u8 (Int.ofNat 31), V.int IntKind.u8 (Int.ofNat 27),
            V.int IntKind.u8 (Int.ofNat 13), V.int IntKind.u8 (Int.ofNat 23), V.int IntKind.u8 (Int.ofNat 21),
            V.int IntKind.u8 (Int.ofNat 19), V.int IntKind.u8 (Int.ofNat 16), V.int IntKind.u8 (Int.ofNat 7),
            V.int IntKind.u8 (Int.ofNat 26), V.int IntKind.u8 (Int.ofNat 12), V.int IntKind.u8 (Int.ofNat 18),
            V.int IntKind.u8 (Int.ofNat 6), V.int IntKind.u8 (Int.ofNat 11), V.int IntKind.u8 (Int.ofNat 5),
            V.int IntKind.u8 (Int.ofNat 10), V.int IntKind.u8 (Int.ofNat 9)]
          T.leaf))
      T.leaf).node
  (some
    (O.ro (some 0) 20
      [V.int IntKind.u64 (Int.ofNat 1), V.int IntKind.u64 (Int.ofNat 10), V.int IntKind.u64 (Int.ofNat 100),
        V.int IntKind.u64 (Int.ofNat 1000), V.int IntKind.u64 (Int.ofNat 10000), V.int IntKind.u64 (Int.ofNat 100000),
        V.int IntKind.u64 (Int.ofNat 1000000), V.int IntKind.u64 (Int.ofNat 10000000),
        V.int IntKind.u64 (Int.ofNat 100000000), V.int IntKind.u64 (Int.ofNat 1000000000),
        V.int IntKind.u64 (Int.ofNat 10000000000), V.int IntKind.u64 (Int.ofNat 100000000000),
        V.int IntKind.u64 (Int.ofNat 1000000000000), V.int IntKind.u64 (Int.ofNat 10000000000000),
        V.int IntKind.u64 (Int.ofNat 100000000000000), V.int IntKind.u64 (Int.ofNat 1000000000000000),
        V.int IntKind.u64 (Int.ofNat 10000000000000000), V.int IntKind.u64 (Int.ofNat 100000000000000000),
        V.int IntKind.u64 (Int.ofNat 1000000000000000000), V.int IntKind.u64 (Int.ofNat 10000000000000000000)]
      T.leaf))
  (((T.leaf.node none
            ((T.leaf.node none (T.leaf.node none (T.leaf.node none (T.leaf.node none (T.leaf.node o T.leaf))))).node
              none T.leaf)).node
        none T.leaf).node
    (some
      (O.ro (some 0) 64
        [V.int IntKind.u8 (Int.ofNat 0), V.int IntKind.u8 (Int.ofNat 1), V.int IntKind.u8 (Int.ofNat 56),
          V.int IntKind.u8 (Int.ofNat 2), V.int IntKind.u8 (Int.ofNat 57), V.int IntKind.u8 (Int.ofNat 49),
          V.int IntKind.u8 (Int.ofNat 28), V.int IntKind.u8 (Int.ofNat 3), V.int IntKind.u8 (Int.ofNat 61),
          V.int IntKind.u8 (Int.ofNat 58), V.int IntKind.u8 (Int.ofNat 42), V.int IntKind.u8 (Int.ofNat 50),
          V.int IntKind.u8 (Int.ofNat 38), V.int IntKind.u8 (Int.ofNat 29), V.int IntKind.u8 (Int.ofNat 17),
          V.int IntKind.u8 (Int.ofNat 4), V.int IntKind.u8 (Int.ofNat 62), V.int IntKind.u8 (Int.ofNat 47),
          V.int IntKind.u8 (Int.ofNat 59), V.int IntKind.u8 (Int.ofNat 36), V.int IntKind.u8 (Int.ofNat 45),
          V.int IntKind.u8 (Int.ofNat 43), V.int IntKind.u8 (Int.ofNat 51), V.int IntKind.u8 (Int.ofNat 22),
          V.int IntKind.u8 (Int.ofNat 53), V.int IntKind.u8 (Int.ofNat 39), V.int IntKind.u8 (Int.ofNat 33),
          V.int IntKind.u8 (Int.ofNat 30), V.int IntKind.u8 (Int.ofNat 24), V.int IntKind.u8 (Int.ofNat 18),
          V.int IntKind.u8 (Int.ofNat 12), V.int IntKind.u8 (Int.ofNat 5), V.int IntKind.u8 (Int.ofNat 63),
          V.int IntKind.u8 (Int.ofNat 55), V.int IntKind.u8 (Int.ofNat 48), V.int IntKind.u8 (Int.ofNat 27),
          V.int IntKind.u8 (Int.ofNat 60), V.int IntKind.u8 (Int.ofNat 41), V.int IntKind.u8 (Int.ofNat 37),
          V.int IntKind.u8 (Int.ofNat 16), V.int IntKind.u8 (Int.ofNat 46), V.int IntKind.u8 (Int.ofNat 35),
          V.int IntKind.u8 (Int.ofNat 44), V.int IntKind.u8 (Int.ofNat 21), V.int IntKind.u8 (Int.ofNat 52),
          V.int IntKind.u8 (Int.ofNat 32), V.int IntKind.u8 (Int.ofNat 23), V.int IntKind.u8 (Int.ofNat 11),
          V.int IntKind.u8 (Int.ofNat 54), V.int IntKind.u8 (Int.ofNat 26), V.int IntKind.u8 (Int.ofNat 40),
          V.int IntKind.u8 (Int.ofNat 15), V.int IntKind.u8 (Int.ofNat 34), V.int IntKind.u8 (Int.ofNat 20),
          V.int IntKind.u8 (Int.ofNat 31), V.int IntKind.u8 (Int.ofNat 10), V.int IntKind.u8 (Int.ofNat 25),
          V.int IntKind.u8 (Int.ofNat 14), V.int IntKind.u8 (Int.ofNat 19), V.int IntKind.u8 (Int.ofNat 9),
          V.int IntKind.u8 (Int.ofNat 13), V.int IntKind.u8 (Int.ofNat 8), V.int IntKind.u8 (Int.ofNat 7),
          V.int IntKind.u8 (Int.ofNat 6)]
        T.leaf))
    T.leaf))) ∧
   ((1001) = (1001)))))) := by kernel_rfl
theorem w6 (h : H) : (evW GL sp 40 .ret none iTexts (S [(2, .bool true)] h) (fun x st => match x with | .ret => retIs (fun v => v = .bool true) st | _ => False)) = (
(V.bool true) = (V.bool true)) := by kernel_rfl
end LT
end Go.Proofs.YtfmcmolhkmjemaaGreatDoor

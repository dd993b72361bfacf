/- PlayScripts: its code, part by part. -/
import Derived.Test.YtjbpagfjpdinjaaGreatDoorKn
import Derived.Lib.ItoaMem
namespace Go.Proofs.YtjbpagfjpdinjaaGreatDoor
set_option maxRecDepth 100000
set_option maxHeartbeats 4000000
open Go.Ev Go.RowKit
/-- the package-level variables that 'works' reads -/
def gPow : Nat := iPow
def gDe32 : Nat := iDe32
def gDe64 : Nat := iDe64
noncomputable def pow10 : List V := Lib.pow10Tab.map (.int .u64)
def de32 : List Nat := [0, 1, 28, 2, 29, 14, 24, 3, 30, 22, 20, 15, 25, 17, 4, 8, 31, 27, 13, 23, 21, 19, 16, 7, 26, 12, 18, 6, 11, 5, 10, 9]
def de64 : List Nat := [0, 1, 56, 2, 57, 49, 28, 3, 61, 58, 42, 50, 38, 29, 17, 4, 62, 47, 59, 36, 45, 43, 51, 22, 53, 39, 33, 30, 24, 18, 12, 5, 63, 55, 48, 27, 60, 41, 37, 16, 46, 35, 44, 21, 52, 32, 23, 11, 54, 26, 40, 15, 34, 20, 31, 10, 25, 14, 19, 9, 13, 8, 7, 6]
noncomputable def gs : List (Nat × List V) := [(gPow, pow10), (gDe32, bytesV de32), (gDe64, bytesV de64), (gLet, bytesV letters)]
theorem gs_lt : ∀ p, p ∈ gs → p.1 < 1000 := fun p hp => by
  simp only [gs, List.mem_cons, List.not_mem_nil, or_false] at hp
  rcases hp with rfl | rfl | rfl | rfl
  · show gPow < 1000; decide
  · show gDe32 < 1000; decide
  · show gDe64 < 1000; decide
  · show gLet < 1000; decide
theorem gs_pure : ∀ p, p ∈ gs → ∀ v, v ∈ p.2 → pureS v = true := fun p hp v hv => by
  simp only [gs, List.mem_cons, List.not_mem_nil, or_false] at hp
  rcases hp with rfl | rfl | rfl | rfl
  · simp only [pow10, List.mem_map] at hv
    obtain ⟨n, _, rfl⟩ := hv
    rfl
  · exact bytesV_pure _ v hv
  · exact bytesV_pure _ v hv
  · exact bytesV_pure _ v hv
/-- 'works', as it is known -/
noncomputable def kWorks : Known := (iWorks, fun args h => match args, Go.Ev.has h (roL gs) with
  | [], true => some (.bool true)
  | _, _ => .none)
noncomputable def GL : Γ := mkG Tryz.prog eqs rows (extU KB.kB (extL [kConf, kWorks]))
namespace LT
noncomputable def fn : Func := match Tryz.prog.funcs[iScripts]? with
  | some f => f
  | .none => default
noncomputable def code : Code := match fn.body with
  | some c => c
  | .none => .skip
noncomputable def r0 : Code := cFst code
noncomputable def x1 : Code := cSnd code
noncomputable def r1 : Code := cFst x1
noncomputable def x2 : Code := cSnd x1
noncomputable def r2 : Code := cFst x2
noncomputable def x3 : Code := cSnd x2
noncomputable def r3 : Code := cFst x3
noncomputable def x4 : Code := cSnd x3
noncomputable def y4 : Code := cFst x4
noncomputable def x5 : Code := cSnd x4
noncomputable def z : Code := cFst x5
noncomputable def x6 : Code := cSnd x5
noncomputable def r6 : Code := cFst z
noncomputable def bl : Code := cSnd z
noncomputable def lp : Code := cFst bl
noncomputable def bd : Code := cFst lp
theorem isFn : Tryz.prog.funcs[iScripts]? = some fn := by kernel_rfl
theorem body : fn.body = some code := by kernel_rfl
theorem tmps : fn.ntmps = 93 := by kernel_rfl
theorem cut : code = nest [r0, r1] x2 := by kernel_rfl
theorem q2 : x2 = .seq r2 x3 := by kernel_rfl
theorem q3 : x3 = .seq r3 x4 := by kernel_rfl
theorem q4 : x4 = nest [y4] x5 := by kernel_rfl
theorem q5 : x5 = .seq z x6 := by kernel_rfl
theorem q6 : z = .seq r6 bl := by kernel_rfl
theorem q7 : bl = .block 0 lp := by kernel_rfl
theorem q8 : lp = .loop bd := by kernel_rfl
theorem q2r : r2 = .region 2 (cOps r2) false := by kernel_rfl
theorem q3r : r3 = .region 3 (cOps r3) false := by kernel_rfl
theorem q2n : (cOps r2).size = 10 := by kernel_rfl
theorem q3n : (cOps r3).size = 14 := by kernel_rfl
noncomputable def opAt (c : Code) (i : Nat) : Oper := match (cOps c)[i]? with
  | some o => o
  | .none => default
theorem p2 : (cOps r2)[4]? = some (opAt r2 4) := by kernel_rfl
theorem p3 : (cOps r3)[8]? = some (opAt r3 8) := by kernel_rfl
theorem g2 : (opAt r2 4).guard = .none := by kernel_rfl
theorem g3 : (opAt r3 8).guard = .none := by kernel_rfl
theorem d2 : (opAt r2 4).dst = some 23 := by kernel_rfl
theorem d3 : (opAt r3 8).dst = some 35 := by kernel_rfl
theorem ok0 : [r0, r1].all okC = true := by kernel_rfl
theorem ok4 : [y4].all okC = true := by kernel_rfl
theorem ok6 : okC r6 = true := by kernel_rfl
theorem ok7 : okC bd = true := by kernel_rfl
theorem ok8 : okC x6 = true := by kernel_rfl
noncomputable def sp : SpF where
  at' := fun f t => match Nat.beq f iScripts, t with
    | true, 49 => .is false | true, 59 => .is false | true, 73 => .both | true, 74 => .idx | true, 75 => .ldA EQ.opK | true, 82 => .both | true, 88 => .is false | _, _ => .keep
  kx := kxU KB.kB
/-- the same, where the one row's beginning is taken -/
noncomputable def spS (p n : Nat) : SpF where
  at' := fun f t => match Nat.beq f iScripts, t with
    | true, 49 => .is false | true, 59 => .is false | true, 66 => .isV (.slice 1003 0 p (.atl n 6)) | _, _ => .keep
  kx := kxU KB.kB
noncomputable def S (l : List (Nat × V)) (h : H) : St := ⟨envL 93 l, h, []⟩
noncomputable def hA : H := ⟨varsT gs, 1000⟩
abbrev boxO (l : List V) : O := .cells (some tCfg) 10 l .leaf
abbrev cfgL (a b c d e f g h i j : Int) : List V := [.int .i64 a, .int .i64 b, .int .i64 c, .int .i64 d, .int .i64 e, .int .i64 f, .int .i64 g, .int .i64 h, .int .i64 i, .int .u32 j]
/-- the variables, and the configuration's box -/
noncomputable def tB (l : List V) : T O := T.put (varsT gs) 1001 (some (boxO l))
noncomputable def tL (l A : List V) : T O := T.put (tB l) 1002 (some (RN.rowO A))
noncomputable def tM (l B : List V) : T O := T.put (tB l) 1003 (some (RN.rowO B))
noncomputable def tLM (l A B : List V) : T O := T.put (tL l A) 1003 (some (RN.rowO B))
noncomputable def hasS (l : List (Nat × V)) (st : St) : Prop := hasT st.env l ∧ st.env.sz = 93 ∧ noDefs st.defs = true
noncomputable def retIs (Q : V → Prop) (st : St) : Prop := match takeAll st.defs st.h with
  | some h2 => match resultsO G0 h2 st.env fn with
    | some v => Q v
    | .none => False
  | .none => False
abbrev bP : V := .ptr 1001 0
abbrev u (p : Nat) : V := .int .u8 (Int.ofNat p)
abbrev z0 : V := .int .i64 (Int.ofNat 0)
noncomputable def KA (l : List (Nat × V)) (L : List V) (x : X) (st : St) : Prop := match x with
  | .normal => hasS l st ∧ st.h.next = 1002 ∧ st.h.tr.get 1001 = some (boxO L) ∧ Go.Ev.has st.h (roL gs) = true
  | _ => False
noncomputable def KH (l : List (Nat × V)) (h : H) (env : Env) (h' : H) : Prop := hasT env l ∧ env.sz = 93 ∧ h' = h
noncomputable def KE (l : List (Nat × V)) (h : H) (env : Env) (h' : H) : Prop := hasT env l ∧ env.sz = 93 ∧ eqH h' h
noncomputable def KR (l : List (Nat × V)) (h : H) (R : Int → Prop) (env : Env) (h' : H) : Prop := hasT env l ∧ env.sz = 93 ∧ eqH h' h ∧ (match env.tr.get 29 with
  | some (.int .u64 s') => R s'
  | _ => False)
noncomputable def KN (l : List (Nat × V)) (h : H) (x : X) (st : St) : Prop := match x with
  | .normal => hasS l st ∧ eqH st.h h
  | _ => False
noncomputable def KV (l : List (Nat × V)) (h : H) (x : X) (st : St) : Prop := match x with
  | .normal => hasS l st ∧ st.h = h
  | _ => False
noncomputable def inv (n : Nat) (c : Cap) (i : Int) : List (Nat × V) := [(9, bP), (70, .slice 1003 0 n c), (71, .int .i64 (Int.ofNat n)), (72, .int .i64 i)]
noncomputable def K7 (n : Nat) (c : Cap) (i : Int) (l B : List V) (E : Prop) (x : X) (st : St) : Prop := match x with
  | .normal => E ∧ hasS (inv n c (wr .i64 (Int.add i (Int.ofNat 1)))) st ∧ st.h.tr.get 1001 = some (boxO l) ∧ st.h.tr.get 1003 = some (RN.rowO B) ∧ Go.Ev.has st.h (roL gs) = true
  | .exit k => (E → False) ∧ Nat.beq k 0 = true ∧ hasS [(9, bP)] st ∧ Go.Ev.has st.h (roL gs) = true ∧ st.h.next = 1010
  | _ => False
abbrev cT : CallK := callTW GL sp.kx sp.must (evW GL sp 60)
noncomputable def hd (s : Int) (p q : Nat) : List (Nat × V) := [(1, .int .u64 s), (2, u p), (3, u q), (9, bP)]
noncomputable def ldL (k : Nat) (l B : List V) : Option V := rLoad (GL.ty tOp) ⟨tM l B, 1010⟩ (some (.ptr 1003 (Nat.add 0 (Nat.mul k 6))))
abbrev xr (s : Int) : Int := wr .u64 (Int.ofNat (BitVec.ofInt IntKind.u64.bits s ^^^ BitVec.ofInt IntKind.u64.bits 1099511627776).toNat)
abbrev sm (p q : Nat) : Int := wr .i64 (Int.add (wr .i64 (Int.ofNat p)) (wr .i64 (Int.ofNat q)))
noncomputable def e4 (p q : Nat) (a b : V) : List (Nat × V) := [(10, a), (11, z0), (12, b), (13, z0), (2, u p), (3, u q), (9, bP)]
theorem act2 (c : V) (s n : Int) : act GL (envL 93 [(19, c), (20, .int .u64 s), (22, .int .i64 n)]).get (opAt r2 4).op = .call (some (.fn iRandom [c, .int .u64 s, .int .i64 n])) := by kernel_rfl
theorem act3 (c : V) (s n : Int) : act GL (envL 93 [(27, c), (29, .int .u64 s), (34, .int .i64 n)]).get (opAt r3 8).op = .call (some (.fn iRandom [c, .int .u64 s, .int .i64 n])) := by kernel_rfl
theorem wA (a b c d e f g i : Int) (s : Int) (p q : Nat) : (evL GL sp 60 iScripts [r0, r1] (KA (hd s p q) (cfgL (up a 12) (up b 2) (up c 4) (up d 4) (up e 4) (up f 6) (up (wr .u8 (Int.tdiv f (Int.ofNat 6))) 3) (up g 5) (capF g i) (firstF i))) (S [(0, n8 a b c d e f g i), (1, .int .u64 s), (2, u p), (3, u q)] hA)) = (
((((some (V.int IntKind.u64 s)) = (some (V.int IntKind.u64 s))) ∧
  (((some (V.int IntKind.u8 (Int.ofNat p))) = (some (V.int IntKind.u8 (Int.ofNat p)))) ∧
   (((some (V.int IntKind.u8 (Int.ofNat q))) = (some (V.int IntKind.u8 (Int.ofNat q)))) ∧
    (((some (V.ptr 1001 0)) = (some (V.ptr 1001 0))) ∧
     (True))))) ∧
 (((93) = (93)) ∧
  ((true) = (true)))) ∧
(((1002) = (1002)) ∧
 (((some
  (O.cells (some 26) 10
    [V.int IntKind.i64 (up a 12), V.int IntKind.i64 (up b 2), V.int IntKind.i64 (up c 4), V.int IntKind.i64 (up d 4),
      V.int IntKind.i64 (up e 4), V.int IntKind.i64 (up f 6),
      V.int IntKind.i64 (up (wr IntKind.u8 (f.tdiv (Int.ofNat 6))) 3), V.int IntKind.i64 (up g 5),
      V.int IntKind.i64 (capF g i), V.int IntKind.u32 (firstF i)]
    T.leaf)) = (some
  (O.cells (some 26) 10
    [V.int IntKind.i64 (up a 12), V.int IntKind.i64 (up b 2), V.int IntKind.i64 (up c 4), V.int IntKind.i64 (up d 4),
      V.int IntKind.i64 (up e 4), V.int IntKind.i64 (up f 6),
      V.int IntKind.i64 (up (wr IntKind.u8 (f.tdiv (Int.ofNat 6))) 3), V.int IntKind.i64 (up g 5),
      V.int IntKind.i64 (capF g i), V.int IntKind.u32 (firstF i)]
    T.leaf))) ∧
  ((true) = (true))))) := by kernel_rfl
theorem w2a (a b c d e f g h i j : Int) (s : Int) (p q : Nat) : (regW GL sp cT iScripts (cOps r2) (opsPart (cOps r2) 0 4) (envL 93 (hd s p q)) ⟨tB (cfgL a b c d e f g h i j), 1010⟩ (KE ([(19, cfgV a b c d e f g h i j), (20, .int .u64 s), (22, .int .i64 (wr .i64 (Int.ofNat p)))] ++ hd s p q) ⟨tB (cfgL a b c d e f g h i j), 1010⟩)) = (
(((some
  (V.agg 10
    [V.int IntKind.i64 a, V.int IntKind.i64 b, V.int IntKind.i64 c, V.int IntKind.i64 d, V.int IntKind.i64 e,
      V.int IntKind.i64 f, V.int IntKind.i64 g, V.int IntKind.i64 h, V.int IntKind.i64 i, V.int IntKind.u32 j]
    T.leaf)) = (some
  (V.agg 10
    [V.int IntKind.i64 a, V.int IntKind.i64 b, V.int IntKind.i64 c, V.int IntKind.i64 d, V.int IntKind.i64 e,
      V.int IntKind.i64 f, V.int IntKind.i64 g, V.int IntKind.i64 h, V.int IntKind.i64 i, V.int IntKind.u32 j]
    T.leaf))) ∧
 (((some (V.int IntKind.u64 s)) = (some (V.int IntKind.u64 s))) ∧
  (((some (V.int IntKind.i64 (wr IntKind.i64 (Int.ofNat p)))) = (some (V.int IntKind.i64 (wr IntKind.i64 (Int.ofNat p))))) ∧
   (((some (V.int IntKind.u64 s)) = (some (V.int IntKind.u64 s))) ∧
    (((some (V.int IntKind.u8 (Int.ofNat p))) = (some (V.int IntKind.u8 (Int.ofNat p)))) ∧
     (((some (V.int IntKind.u8 (Int.ofNat q))) = (some (V.int IntKind.u8 (Int.ofNat q)))) ∧
      (((some (V.ptr 1001 0)) = (some (V.ptr 1001 0))) ∧
       (True)))))))) ∧
(((93) = (93)) ∧
 (((((T.leaf.node
          (some
            (O.ro (some 0) 64
              [V.int IntKind.u8 (Int.ofNat 0), V.int IntKind.u8 (Int.ofNat 1), V.int IntKind.u8 (Int.ofNat 56),
                V.int IntKind.u8 (Int.ofNat 2), V.int IntKind.u8 (Int.ofNat 57), V.int IntKind.u8 (Int.ofNat 49),
                V.int IntKind.u8 (Int.ofNat 28), V.int IntKind.u8 (Int.ofNat 3), V.int IntKind.u8 (Int.ofNat 61),
                V.int IntKind.u8 (Int.ofNat 58), V.int IntKind.u8 (Int.ofNat 42), V.int IntKind.u8 (Int.ofNat 50),
                V.int IntKind.u8 (Int.ofNat 38), V.int IntKind.u8 (Int.ofNat 29), V.int IntKind.u8 (Int.ofNat 17),
                V.int IntKind.u8 (Int.ofNat 4), V.int IntKind.u8 (Int.ofNat 62), V.int IntKind.u8 (Int.ofNat 47),
                V.int IntKind.u8 (Int.ofNat 59), V.int IntKind.u8 (Int.ofNat 36), V.int IntKind.u8 (Int.ofNat 45),
                V.int IntKind.u8 (Int.ofNat 43), V.int IntKind.u8 (Int.ofNat 51), V.int IntKind.u8 (Int.ofNat 22),
                V.int IntKind.u8 (Int.ofNat 53), V.int IntKind.u8 (Int.ofNat 39), V.int IntKind.u8 (Int.ofNat 33),
                V.int IntKind.u8 (Int.ofNat 30), V.int IntKind.u8 (Int.ofNat 24), V.int IntKind.u8 (Int.ofNat 18),
                V.int IntKind.u8 (Int.ofNat 12), V.int IntKind.u8 (Int.ofNat 5), V.int IntKind.u8 (Int.ofNat 63),
                V.int IntKind.u8 (Int.ofNat 55), V.int IntKind.u8 (Int.ofNat 48), V.int IntKind.u8 (Int.ofNat 27),
                V.int IntKind.u8 (Int.ofNat 60), V.int IntKind.u8 (Int.ofNat 41), V.int IntKind.u8 (Int.ofNat 37),
                V.int IntKind.u8 (Int.ofNat 16), V.int IntKind.u8 (Int.ofNat 46), V.int IntKind.u8 (Int.ofNat 35),
                V.int IntKind.u8 (Int.ofNat 44), V.int IntKind.u8 (Int.ofNat 21), V.int IntKind.u8 (Int.ofNat 52),
                V.int IntKind.u8 (Int.ofNat 32), V.int IntKind.u8 (Int.ofNat 23), V.int IntKind.u8 (Int.ofNat 11),
                V.int IntKind.u8 (Int.ofNat 54), V.int IntKind.u8 (Int.ofNat 26), V.int IntKind.u8 (Int.ofNat 40),
                V.int IntKind.u8 (Int.ofNat 15), V.int IntKind.u8 (Int.ofNat 34), V.int IntKind.u8 (Int.ofNat 20),
                V.int IntKind.u8 (Int.ofNat 31), V.int IntKind.u8 (Int.ofNat 10), V.int IntKind.u8 (Int.ofNat 25),
                V.int IntKind.u8 (Int.ofNat 14), V.int IntKind.u8 (Int.ofNat 19), V.int IntKind.u8 (Int.ofNat 9),
                V.int IntKind.u8 (Int.ofNat 13), V.int IntKind.u8 (Int.ofNat 8), V.int IntKind.u8 (Int.ofNat 7),
                V.int IntKind.u8 (Int.ofNat 6)]
              T.leaf))
          T.leaf).node
      (some
        (O.ro (some 0) 20
          [V.int IntKind.u64 (Int.ofNat 1), V.int IntKind.u64 (Int.ofNat 10), V.int IntKind.u64 (Int.ofNat 100),
            V.int IntKind.u64 (Int.ofNat 1000), V.int IntKind.u64 (Int.ofNat 10000),
            V.int IntKind.u64 (Int.ofNat 100000), V.int IntKind.u64 (Int.ofNat 1000000),
            V.int IntKind.u64 (Int.ofNat 10000000), V.int IntKind.u64 (Int.ofNat 100000000),
            V.int IntKind.u64 (Int.ofNat 1000000000), V.int IntKind.u64 (Int.ofNat 10000000000),
            V.int IntKind.u64 (Int.ofNat 100000000000), V.int IntKind.u64 (Int.ofNat 1000000000000),
            V.int IntKind.u64 (Int.ofNat 10000000000000), V.int IntKind.u64 (Int.ofNat 100000000000000),
            V.int IntKind.u64 (Int.ofNat 1000000000000000), V.int IntKind.u64 (Int.ofNat 10000000000000000),
            V.int IntKind.u64 (Int.ofNat 100000000000000000), V.int IntKind.u64 (Int.ofNat 1000000000000000000),
            V.int IntKind.u64 (Int.ofNat 10000000000000000000)]
          T.leaf))
      ((T.leaf.node none
            ((T.leaf.node none
                  (T.leaf.node none
                    (T.leaf.node none
                      (T.leaf.node none
                        (T.leaf.node
                          (some
                            (O.cells (some 26) 10
                              [V.int IntKind.i64 a, V.int IntKind.i64 b, V.int IntKind.i64 c, V.int IntKind.i64 d,
                                V.int IntKind.i64 e, V.int IntKind.i64 f, V.int IntKind.i64 g, V.int IntKind.i64 h,
                                V.int IntKind.i64 i, V.int IntKind.u32 j]
                              T.leaf))
                          T.leaf))))).node
              none T.leaf)).node
        none T.leaf)).node
  (some
    (O.ro (some 0) 4
      [V.int IntKind.u8 (Int.ofNat 0), V.int IntKind.u8 (Int.ofNat 111), V.int IntKind.u8 (Int.ofNat 108),
        V.int IntKind.u8 (Int.ofNat 102)]
      T.leaf))
  (T.leaf.node
    (some
      (O.ro (some 0) 32
        [V.int IntKind.u8 (Int.ofNat 0), V.int IntKind.u8 (Int.ofNat 1), V.int IntKind.u8 (Int.ofNat 28),
          V.int IntKind.u8 (Int.ofNat 2), V.int IntKind.u8 (Int.ofNat 29), V.int IntKind.u8 (Int.ofNat 14),
          V.int IntKind.u8 (Int.ofNat 24), V.int IntKind.u8 (Int.ofNat 3), V.int IntKind.u8 (Int.ofNat 30),
          V.int IntKind.u8 (Int.ofNat 22), V.int IntKind.u8 (Int.ofNat 20), V.int IntKind.u8 (Int.ofNat 15),
          V.int IntKind.u8 (Int.ofNat 25), V.int IntKind.u8 (Int.ofNat 17), V.int IntKind.u8 (Int.ofNat 4),
          V.int IntKind.u8 (Int.ofNat 8), V.int IntKind.u8 (Int.ofNat 31), V.int IntKind.u8 (Int.ofNat 27),
          V.int IntKind.u8 (Int.ofNat 13), V.int IntKind.u8 (Int.ofNat 23), V.int IntKind.u8 (Int.ofNat 21),
          V.int IntKind.u8 (Int.ofNat 19), V.int IntKind.u8 (Int.ofNat 16), V.int IntKind.u8 (Int.ofNat 7),
          V.int IntKind.u8 (Int.ofNat 26), V.int IntKind.u8 (Int.ofNat 12), V.int IntKind.u8 (Int.ofNat 18),
          V.int IntKind.u8 (Int.ofNat 6), V.int IntKind.u8 (Int.ofNat 11), V.int IntKind.u8 (Int.ofNat 5),
          V.int IntKind.u8 (Int.ofNat 10), V.int IntKind.u8 (Int.ofNat 9)]
        T.leaf))
    T.leaf)) = (((T.leaf.node
          (some
            (O.ro (some 0) 64
              [V.int IntKind.u8 (Int.ofNat 0), V.int IntKind.u8 (Int.ofNat 1), V.int IntKind.u8 (Int.ofNat 56),
                V.int IntKind.u8 (Int.ofNat 2), V.int IntKind.u8 (Int.ofNat 57), V.int IntKind.u8 (Int.ofNat 49),
                V.int IntKind.u8 (Int.ofNat 28), V.int IntKind.u8 (Int.ofNat 3), V.int IntKind.u8 (Int.ofNat 61),
                V.int IntKind.u8 (Int.ofNat 58), V.int IntKind.u8 (Int.ofNat 42), V.int IntKind.u8 (Int.ofNat 50),
                V.int IntKind.u8 (Int.ofNat 38), V.int IntKind.u8 (Int.ofNat 29), V.int IntKind.u8 (Int.ofNat 17),
                V.int IntKind.u8 (Int.ofNat 4), V.int IntKind.u8 (Int.ofNat 62), V.int IntKind.u8 (Int.ofNat 47),
                V.int IntKind.u8 (Int.ofNat 59), V.int IntKind.u8 (Int.ofNat 36), V.int IntKind.u8 (Int.ofNat 45),
                V.int IntKind.u8 (Int.ofNat 43), V.int IntKind.u8 (Int.ofNat 51), V.int IntKind.u8 (Int.ofNat 22),
                V.int IntKind.u8 (Int.ofNat 53), V.int IntKind.u8 (Int.ofNat 39), V.int IntKind.u8 (Int.ofNat 33),
                V.int IntKind.u8 (Int.ofNat 30), V.int IntKind.u8 (Int.ofNat 24), V.int IntKind.u8 (Int.ofNat 18),
                V.int IntKind.u8 (Int.ofNat 12), V.int IntKind.u8 (Int.ofNat 5), V.int IntKind.u8 (Int.ofNat 63),
                V.int IntKind.u8 (Int.ofNat 55), V.int IntKind.u8 (Int.ofNat 48), V.int IntKind.u8 (Int.ofNat 27),
                V.int IntKind.u8 (Int.ofNat 60), V.int IntKind.u8 (Int.ofNat 41), V.int IntKind.u8 (Int.ofNat 37),
                V.int IntKind.u8 (Int.ofNat 16), V.int IntKind.u8 (Int.ofNat 46), V.int IntKind.u8 (Int.ofNat 35),
                V.int IntKind.u8 (Int.ofNat 44), V.int IntKind.u8 (Int.ofNat 21), V.int IntKind.u8 (Int.ofNat 52),
                V.int IntKind.u8 (Int.ofNat 32), V.int IntKind.u8 (Int.ofNat 23), V.int IntKind.u8 (Int.ofNat 11),
                V.int IntKind.u8 (Int.ofNat 54), V.int IntKind.u8 (Int.ofNat 26), V.int IntKind.u8 (Int.ofNat 40),
                V.int IntKind.u8 (Int.ofNat 15), V.int IntKind.u8 (Int.ofNat 34), V.int IntKind.u8 (Int.ofNat 20),
                V.int IntKind.u8 (Int.ofNat 31), V.int IntKind.u8 (Int.ofNat 10), V.int IntKind.u8 (Int.ofNat 25),
                V.int IntKind.u8 (Int.ofNat 14), V.int IntKind.u8 (Int.ofNat 19), V.int IntKind.u8 (Int.ofNat 9),
                V.int IntKind.u8 (Int.ofNat 13), V.int IntKind.u8 (Int.ofNat 8), V.int IntKind.u8 (Int.ofNat 7),
                V.int IntKind.u8 (Int.ofNat 6)]
              T.leaf))
          T.leaf).node
      (some
        (O.ro (some 0) 20
          [V.int IntKind.u64 (Int.ofNat 1), V.int IntKind.u64 (Int.ofNat 10), V.int IntKind.u64 (Int.ofNat 100),
            V.int IntKind.u64 (Int.ofNat 1000), V.int IntKind.u64 (Int.ofNat 10000),
            V.int IntKind.u64 (Int.ofNat 100000), V.int IntKind.u64 (Int.ofNat 1000000),
            V.int IntKind.u64 (Int.ofNat 10000000), V.int IntKind.u64 (Int.ofNat 100000000),
            V.int IntKind.u64 (Int.ofNat 1000000000), V.int IntKind.u64 (Int.ofNat 10000000000),
            V.int IntKind.u64 (Int.ofNat 100000000000), V.int IntKind.u64 (Int.ofNat 1000000000000),
            V.int IntKind.u64 (Int.ofNat 10000000000000), V.int IntKind.u64 (Int.ofNat 100000000000000),
            V.int IntKind.u64 (Int.ofNat 1000000000000000), V.int IntKind.u64 (Int.ofNat 10000000000000000),
            V.int IntKind.u64 (Int.ofNat 100000000000000000), V.int IntKind.u64 (Int.ofNat 1000000000000000000),
            V.int IntKind.u64 (Int.ofNat 10000000000000000000)]
          T.leaf))
      ((T.leaf.node none
            ((T.leaf.node none
                  (T.leaf.node none
                    (T.leaf.node none
                      (T.leaf.node none
                        (T.leaf.node
                          (some
                            (O.cells (some 26) 10
                              [V.int IntKind.i64 a, V.int IntKind.i64 b, V.int IntKind.i64 c, V.int IntKind.i64 d,
                                V.int IntKind.i64 e, V.int IntKind.i64 f, V.int IntKind.i64 g, V.int IntKind.i64 h,
                                V.int IntKind.i64 i, V.int IntKind.u32 j]
                              T.leaf))
                          T.leaf))))).node
              none T.leaf)).node
        none T.leaf)).node
  (some
    (O.ro (some 0) 4
      [V.int IntKind.u8 (Int.ofNat 0), V.int IntKind.u8 (Int.ofNat 111), V.int IntKind.u8 (Int.ofNat 108),
        V.int IntKind.u8 (Int.ofNat 102)]
      T.leaf))
  (T.leaf.node
    (some
      (O.ro (some 0) 32
        [V.int IntKind.u8 (Int.ofNat 0), V.int IntKind.u8 (Int.ofNat 1), V.int IntKind.u8 (Int.ofNat 28),
          V.int IntKind.u8 (Int.ofNat 2), V.int IntKind.u8 (Int.ofNat 29), V.int IntKind.u8 (Int.ofNat 14),
          V.int IntKind.u8 (Int.ofNat 24), V.int IntKind.u8 (Int.ofNat 3), V.int IntKind.u8 (Int.ofNat 30),
          V.int IntKind.u8 (Int.ofNat 22), V.int IntKind.u8 (Int.ofNat 20), V.int IntKind.u8 (Int.ofNat 15),
          V.int IntKind.u8 (Int.ofNat 25), V.int IntKind.u8 (Int.ofNat 17), V.int IntKind.u8 (Int.ofNat 4),
          V.int IntKind.u8 (Int.ofNat 8), V.int IntKind.u8 (Int.ofNat 31), V.int IntKind.u8 (Int.ofNat 27),
          V.int IntKind.u8 (Int.ofNat 13), V.int IntKind.u8 (Int.ofNat 23), V.int IntKind.u8 (Int.ofNat 21),
          V.int IntKind.u8 (Int.ofNat 19), V.int IntKind.u8 (Int.ofNat 16), V.int IntKind.u8 (Int.ofNat 7),
          V.int IntKind.u8 (Int.ofNat 26), V.int IntKind.u8 (Int.ofNat 12), V.int IntKind.u8 (Int.ofNat 18),
          V.int IntKind.u8 (Int.ofNat 6), V.int IntKind.u8 (Int.ofNat 11), V.int IntKind.u8 (Int.ofNat 5),
          V.int IntKind.u8 (Int.ofNat 10), V.int IntKind.u8 (Int.ofNat 9)]
        T.leaf))
    T.leaf))) ∧
  ((1010) = (1010))))) := by kernel_rfl
theorem w2b (r : V) (s : Int) (p q : Nat) (h : H) : (regW GL sp cT iScripts (cOps r2) (opsPart (cOps r2) 5 5) (envL 93 ((23, .tuple [r, z0]) :: hd s p q)) h (KH ([(10, r), (11, z0)] ++ hd s p q) h)) = (
(((some r) = (some r)) ∧
 (((some (V.int IntKind.i64 (Int.ofNat 0))) = (some (V.int IntKind.i64 (Int.ofNat 0)))) ∧
  (((some (V.int IntKind.u64 s)) = (some (V.int IntKind.u64 s))) ∧
   (((some (V.int IntKind.u8 (Int.ofNat p))) = (some (V.int IntKind.u8 (Int.ofNat p)))) ∧
    (((some (V.int IntKind.u8 (Int.ofNat q))) = (some (V.int IntKind.u8 (Int.ofNat q)))) ∧
     (((some (V.ptr 1001 0)) = (some (V.ptr 1001 0))) ∧
      (True))))))) ∧
(((93) = (93)) ∧
 ((h) = (h)))) := by kernel_rfl
theorem w3aF (R : Int → Prop) (a b c d e f g h i j : Int) (r : V) (s : Int) (p q : Nat) : (regW GL sp cT iScripts (cOps r3) (opsPart (cOps r3) 0 8) (envL 93 ([(10, r), (11, z0)] ++ hd s p q)) ⟨tB (cfgL a b c d e f g h i j), 1010⟩ (KR ([(27, cfgV a b c d e f g h i j), (34, .int .i64 (sm p q)), (10, r), (11, z0)] ++ hd s p q) ⟨tB (cfgL a b c d e f g h i j), 1010⟩ R)) = (
(((some
  (V.agg 10
    [V.int IntKind.i64 a, V.int IntKind.i64 b, V.int IntKind.i64 c, V.int IntKind.i64 d, V.int IntKind.i64 e,
      V.int IntKind.i64 f, V.int IntKind.i64 g, V.int IntKind.i64 h, V.int IntKind.i64 i, V.int IntKind.u32 j]
    T.leaf)) = (some
  (V.agg 10
    [V.int IntKind.i64 a, V.int IntKind.i64 b, V.int IntKind.i64 c, V.int IntKind.i64 d, V.int IntKind.i64 e,
      V.int IntKind.i64 f, V.int IntKind.i64 g, V.int IntKind.i64 h, V.int IntKind.i64 i, V.int IntKind.u32 j]
    T.leaf))) ∧
 (((some (V.int IntKind.i64 (wr IntKind.i64 ((wr IntKind.i64 (Int.ofNat p)).add (wr IntKind.i64 (Int.ofNat q)))))) = (some (V.int IntKind.i64 (wr IntKind.i64 ((wr IntKind.i64 (Int.ofNat p)).add (wr IntKind.i64 (Int.ofNat q))))))) ∧
  (((some r) = (some r)) ∧
   (((some (V.int IntKind.i64 (Int.ofNat 0))) = (some (V.int IntKind.i64 (Int.ofNat 0)))) ∧
    (((some (V.int IntKind.u64 s)) = (some (V.int IntKind.u64 s))) ∧
     (((some (V.int IntKind.u8 (Int.ofNat p))) = (some (V.int IntKind.u8 (Int.ofNat p)))) ∧
      (((some (V.int IntKind.u8 (Int.ofNat q))) = (some (V.int IntKind.u8 (Int.ofNat q)))) ∧
       (((some (V.ptr 1001 0)) = (some (V.ptr 1001 0))) ∧
        (True))))))))) ∧
(((93) = (93)) ∧
 ((((((T.leaf.node
          (some
            (O.ro (some 0) 64
              [V.int IntKind.u8 (Int.ofNat 0), V.int IntKind.u8 (Int.ofNat 1), V.int IntKind.u8 (Int.ofNat 56),
                V.int IntKind.u8 (Int.ofNat 2), V.int IntKind.u8 (Int.ofNat 57), V.int IntKind.u8 (Int.ofNat 49),
                V.int IntKind.u8 (Int.ofNat 28), V.int IntKind.u8 (Int.ofNat 3), V.int IntKind.u8 (Int.ofNat 61),
                V.int IntKind.u8 (Int.ofNat 58), V.int IntKind.u8 (Int.ofNat 42), V.int IntKind.u8 (Int.ofNat 50),
                V.int IntKind.u8 (Int.ofNat 38), V.int IntKind.u8 (Int.ofNat 29), V.int IntKind.u8 (Int.ofNat 17),
                V.int IntKind.u8 (Int.ofNat 4), V.int IntKind.u8 (Int.ofNat 62), V.int IntKind.u8 (Int.ofNat 47),
                V.int IntKind.u8 (Int.ofNat 59), V.int IntKind.u8 (Int.ofNat 36), V.int IntKind.u8 (Int.ofNat 45),
                V.int IntKind.u8 (Int.ofNat 43), V.int IntKind.u8 (Int.ofNat 51), V.int IntKind.u8 (Int.ofNat 22),
                V.int IntKind.u8 (Int.ofNat 53), V.int IntKind.u8 (Int.ofNat 39), V.int IntKind.u8 (Int.ofNat 33),
                V.int IntKind.u8 (Int.ofNat 30), V.int IntKind.u8 (Int.ofNat 24), V.int IntKind.u8 (Int.ofNat 18),
                V.int IntKind.u8 (Int.ofNat 12), V.int IntKind.u8 (Int.ofNat 5), V.int IntKind.u8 (Int.ofNat 63),
                V.int IntKind.u8 (Int.ofNat 55), V.int IntKind.u8 (Int.ofNat 48), V.int IntKind.u8 (Int.ofNat 27),
                V.int IntKind.u8 (Int.ofNat 60), V.int IntKind.u8 (Int.ofNat 41), V.int IntKind.u8 (Int.ofNat 37),
                V.int IntKind.u8 (Int.ofNat 16), V.int IntKind.u8 (Int.ofNat 46), V.int IntKind.u8 (Int.ofNat 35),
                V.int IntKind.u8 (Int.ofNat 44), V.int IntKind.u8 (Int.ofNat 21), V.int IntKind.u8 (Int.ofNat 52),
                V.int IntKind.u8 (Int.ofNat 32), V.int IntKind.u8 (Int.ofNat 23), V.int IntKind.u8 (Int.ofNat 11),
                V.int IntKind.u8 (Int.ofNat 54), V.int IntKind.u8 (Int.ofNat 26), V.int IntKind.u8 (Int.ofNat 40),
                V.int IntKind.u8 (Int.ofNat 15), V.int IntKind.u8 (Int.ofNat 34), V.int IntKind.u8 (Int.ofNat 20),
                V.int IntKind.u8 (Int.ofNat 31), V.int IntKind.u8 (Int.ofNat 10), V.int IntKind.u8 (Int.ofNat 25),
                V.int IntKind.u8 (Int.ofNat 14), V.int IntKind.u8 (Int.ofNat 19), V.int IntKind.u8 (Int.ofNat 9),
                V.int IntKind.u8 (Int.ofNat 13), V.int IntKind.u8 (Int.ofNat 8), V.int IntKind.u8 (Int.ofNat 7),
                V.int IntKind.u8 (Int.ofNat 6)]
              T.leaf))
          T.leaf).node
      (some
        (O.ro (some 0) 20
          [V.int IntKind.u64 (Int.ofNat 1), V.int IntKind.u64 (Int.ofNat 10), V.int IntKind.u64 (Int.ofNat 100),
            V.int IntKind.u64 (Int.ofNat 1000), V.int IntKind.u64 (Int.ofNat 10000),
            V.int IntKind.u64 (Int.ofNat 100000), V.int IntKind.u64 (Int.ofNat 1000000),
            V.int IntKind.u64 (Int.ofNat 10000000), V.int IntKind.u64 (Int.ofNat 100000000),
            V.int IntKind.u64 (Int.ofNat 1000000000), V.int IntKind.u64 (Int.ofNat 10000000000),
            V.int IntKind.u64 (Int.ofNat 100000000000), V.int IntKind.u64 (Int.ofNat 1000000000000),
            V.int IntKind.u64 (Int.ofNat 10000000000000), V.int IntKind.u64 (Int.ofNat 100000000000000),
            V.int IntKind.u64 (Int.ofNat 1000000000000000), V.int IntKind.u64 (Int.ofNat 10000000000000000),
            V.int IntKind.u64 (Int.ofNat 100000000000000000), V.int IntKind.u64 (Int.ofNat 1000000000000000000),
            V.int IntKind.u64 (Int.ofNat 10000000000000000000)]
          T.leaf))
      ((T.leaf.node none
            ((T.leaf.node none
                  (T.leaf.node none
                    (T.leaf.node none
                      (T.leaf.node none
                        (T.leaf.node
                          (some
                            (O.cells (some 26) 10
                              [V.int IntKind.i64 a, V.int IntKind.i64 b, V.int IntKind.i64 c, V.int IntKind.i64 d,
                                V.int IntKind.i64 e, V.int IntKind.i64 f, V.int IntKind.i64 g, V.int IntKind.i64 h,
                                V.int IntKind.i64 i, V.int IntKind.u32 j]
                              T.leaf))
                          T.leaf))))).node
              none T.leaf)).node
        none T.leaf)).node
  (some
    (O.ro (some 0) 4
      [V.int IntKind.u8 (Int.ofNat 0), V.int IntKind.u8 (Int.ofNat 111), V.int IntKind.u8 (Int.ofNat 108),
        V.int IntKind.u8 (Int.ofNat 102)]
      T.leaf))
  (T.leaf.node
    (some
      (O.ro (some 0) 32
        [V.int IntKind.u8 (Int.ofNat 0), V.int IntKind.u8 (Int.ofNat 1), V.int IntKind.u8 (Int.ofNat 28),
          V.int IntKind.u8 (Int.ofNat 2), V.int IntKind.u8 (Int.ofNat 29), V.int IntKind.u8 (Int.ofNat 14),
          V.int IntKind.u8 (Int.ofNat 24), V.int IntKind.u8 (Int.ofNat 3), V.int IntKind.u8 (Int.ofNat 30),
          V.int IntKind.u8 (Int.ofNat 22), V.int IntKind.u8 (Int.ofNat 20), V.int IntKind.u8 (Int.ofNat 15),
          V.int IntKind.u8 (Int.ofNat 25), V.int IntKind.u8 (Int.ofNat 17), V.int IntKind.u8 (Int.ofNat 4),
          V.int IntKind.u8 (Int.ofNat 8), V.int IntKind.u8 (Int.ofNat 31), V.int IntKind.u8 (Int.ofNat 27),
          V.int IntKind.u8 (Int.ofNat 13), V.int IntKind.u8 (Int.ofNat 23), V.int IntKind.u8 (Int.ofNat 21),
          V.int IntKind.u8 (Int.ofNat 19), V.int IntKind.u8 (Int.ofNat 16), V.int IntKind.u8 (Int.ofNat 7),
          V.int IntKind.u8 (Int.ofNat 26), V.int IntKind.u8 (Int.ofNat 12), V.int IntKind.u8 (Int.ofNat 18),
          V.int IntKind.u8 (Int.ofNat 6), V.int IntKind.u8 (Int.ofNat 11), V.int IntKind.u8 (Int.ofNat 5),
          V.int IntKind.u8 (Int.ofNat 10), V.int IntKind.u8 (Int.ofNat 9)]
        T.leaf))
    T.leaf)) = (((T.leaf.node
          (some
            (O.ro (some 0) 64
              [V.int IntKind.u8 (Int.ofNat 0), V.int IntKind.u8 (Int.ofNat 1), V.int IntKind.u8 (Int.ofNat 56),
                V.int IntKind.u8 (Int.ofNat 2), V.int IntKind.u8 (Int.ofNat 57), V.int IntKind.u8 (Int.ofNat 49),
                V.int IntKind.u8 (Int.ofNat 28), V.int IntKind.u8 (Int.ofNat 3), V.int IntKind.u8 (Int.ofNat 61),
                V.int IntKind.u8 (Int.ofNat 58), V.int IntKind.u8 (Int.ofNat 42), V.int IntKind.u8 (Int.ofNat 50),
                V.int IntKind.u8 (Int.ofNat 38), V.int IntKind.u8 (Int.ofNat 29), V.int IntKind.u8 (Int.ofNat 17),
                V.int IntKind.u8 (Int.ofNat 4), V.int IntKind.u8 (Int.ofNat 62), V.int IntKind.u8 (Int.ofNat 47),
                V.int IntKind.u8 (Int.ofNat 59), V.int IntKind.u8 (Int.ofNat 36), V.int IntKind.u8 (Int.ofNat 45),
                V.int IntKind.u8 (Int.ofNat 43), V.int IntKind.u8 (Int.ofNat 51), V.int IntKind.u8 (Int.ofNat 22),
                V.int IntKind.u8 (Int.ofNat 53), V.int IntKind.u8 (Int.ofNat 39), V.int IntKind.u8 (Int.ofNat 33),
                V.int IntKind.u8 (Int.ofNat 30), V.int IntKind.u8 (Int.ofNat 24), V.int IntKind.u8 (Int.ofNat 18),
                V.int IntKind.u8 (Int.ofNat 12), V.int IntKind.u8 (Int.ofNat 5), V.int IntKind.u8 (Int.ofNat 63),
                V.int IntKind.u8 (Int.ofNat 55), V.int IntKind.u8 (Int.ofNat 48), V.int IntKind.u8 (Int.ofNat 27),
                V.int IntKind.u8 (Int.ofNat 60), V.int IntKind.u8 (Int.ofNat 41), V.int IntKind.u8 (Int.ofNat 37),
                V.int IntKind.u8 (Int.ofNat 16), V.int IntKind.u8 (Int.ofNat 46), V.int IntKind.u8 (Int.ofNat 35),
                V.int IntKind.u8 (Int.ofNat 44), V.int IntKind.u8 (Int.ofNat 21), V.int IntKind.u8 (Int.ofNat 52),
                V.int IntKind.u8 (Int.ofNat 32), V.int IntKind.u8 (Int.ofNat 23), V.int IntKind.u8 (Int.ofNat 11),
                V.int IntKind.u8 (Int.ofNat 54), V.int IntKind.u8 (Int.ofNat 26), V.int IntKind.u8 (Int.ofNat 40),
                V.int IntKind.u8 (Int.ofNat 15), V.int IntKind.u8 (Int.ofNat 34), V.int IntKind.u8 (Int.ofNat 20),
                V.int IntKind.u8 (Int.ofNat 31), V.int IntKind.u8 (Int.ofNat 10), V.int IntKind.u8 (Int.ofNat 25),
                V.int IntKind.u8 (Int.ofNat 14), V.int IntKind.u8 (Int.ofNat 19), V.int IntKind.u8 (Int.ofNat 9),
                V.int IntKind.u8 (Int.ofNat 13), V.int IntKind.u8 (Int.ofNat 8), V.int IntKind.u8 (Int.ofNat 7),
                V.int IntKind.u8 (Int.ofNat 6)]
              T.leaf))
          T.leaf).node
      (some
        (O.ro (some 0) 20
          [V.int IntKind.u64 (Int.ofNat 1), V.int IntKind.u64 (Int.ofNat 10), V.int IntKind.u64 (Int.ofNat 100),
            V.int IntKind.u64 (Int.ofNat 1000), V.int IntKind.u64 (Int.ofNat 10000),
            V.int IntKind.u64 (Int.ofNat 100000), V.int IntKind.u64 (Int.ofNat 1000000),
            V.int IntKind.u64 (Int.ofNat 10000000), V.int IntKind.u64 (Int.ofNat 100000000),
            V.int IntKind.u64 (Int.ofNat 1000000000), V.int IntKind.u64 (Int.ofNat 10000000000),
            V.int IntKind.u64 (Int.ofNat 100000000000), V.int IntKind.u64 (Int.ofNat 1000000000000),
            V.int IntKind.u64 (Int.ofNat 10000000000000), V.int IntKind.u64 (Int.ofNat 100000000000000),
            V.int IntKind.u64 (Int.ofNat 1000000000000000), V.int IntKind.u64 (Int.ofNat 10000000000000000),
            V.int IntKind.u64 (Int.ofNat 100000000000000000), V.int IntKind.u64 (Int.ofNat 1000000000000000000),
            V.int IntKind.u64 (Int.ofNat 10000000000000000000)]
          T.leaf))
      ((T.leaf.node none
            ((T.leaf.node none
                  (T.leaf.node none
                    (T.leaf.node none
                      (T.leaf.node none
                        (T.leaf.node
                          (some
                            (O.cells (some 26) 10
                              [V.int IntKind.i64 a, V.int IntKind.i64 b, V.int IntKind.i64 c, V.int IntKind.i64 d,
                                V.int IntKind.i64 e, V.int IntKind.i64 f, V.int IntKind.i64 g, V.int IntKind.i64 h,
                                V.int IntKind.i64 i, V.int IntKind.u32 j]
                              T.leaf))
                          T.leaf))))).node
              none T.leaf)).node
        none T.leaf)).node
  (some
    (O.ro (some 0) 4
      [V.int IntKind.u8 (Int.ofNat 0), V.int IntKind.u8 (Int.ofNat 111), V.int IntKind.u8 (Int.ofNat 108),
        V.int IntKind.u8 (Int.ofNat 102)]
      T.leaf))
  (T.leaf.node
    (some
      (O.ro (some 0) 32
        [V.int IntKind.u8 (Int.ofNat 0), V.int IntKind.u8 (Int.ofNat 1), V.int IntKind.u8 (Int.ofNat 28),
          V.int IntKind.u8 (Int.ofNat 2), V.int IntKind.u8 (Int.ofNat 29), V.int IntKind.u8 (Int.ofNat 14),
          V.int IntKind.u8 (Int.ofNat 24), V.int IntKind.u8 (Int.ofNat 3), V.int IntKind.u8 (Int.ofNat 30),
          V.int IntKind.u8 (Int.ofNat 22), V.int IntKind.u8 (Int.ofNat 20), V.int IntKind.u8 (Int.ofNat 15),
          V.int IntKind.u8 (Int.ofNat 25), V.int IntKind.u8 (Int.ofNat 17), V.int IntKind.u8 (Int.ofNat 4),
          V.int IntKind.u8 (Int.ofNat 8), V.int IntKind.u8 (Int.ofNat 31), V.int IntKind.u8 (Int.ofNat 27),
          V.int IntKind.u8 (Int.ofNat 13), V.int IntKind.u8 (Int.ofNat 23), V.int IntKind.u8 (Int.ofNat 21),
          V.int IntKind.u8 (Int.ofNat 19), V.int IntKind.u8 (Int.ofNat 16), V.int IntKind.u8 (Int.ofNat 7),
          V.int IntKind.u8 (Int.ofNat 26), V.int IntKind.u8 (Int.ofNat 12), V.int IntKind.u8 (Int.ofNat 18),
          V.int IntKind.u8 (Int.ofNat 6), V.int IntKind.u8 (Int.ofNat 11), V.int IntKind.u8 (Int.ofNat 5),
          V.int IntKind.u8 (Int.ofNat 10), V.int IntKind.u8 (Int.ofNat 9)]
        T.leaf))
    T.leaf))) ∧
   ((1010) = (1010))) ∧
  ((R (wr IntKind.u64 (Int.ofNat (BitVec.ofInt IntKind.u64.bits s ^^^ BitVec.ofInt IntKind.u64.bits 1099511627776).toNat))))))) := by kernel_rfl
theorem w3aW (R : Int → Prop) (a b c d e f g h i j : Int) (A : List V) (r : V) (s : Int) (p q : Nat) : (regW GL sp cT iScripts (cOps r3) (opsPart (cOps r3) 0 8) (envL 93 ([(10, r), (11, z0)] ++ hd s p q)) ⟨tL (cfgL a b c d e f g h i j) A, 1010⟩ (KR ([(27, cfgV a b c d e f g h i j), (34, .int .i64 (sm p q)), (10, r), (11, z0)] ++ hd s p q) ⟨tL (cfgL a b c d e f g h i j) A, 1010⟩ R)) = (
(((some
  (V.agg 10
    [V.int IntKind.i64 a, V.int IntKind.i64 b, V.int IntKind.i64 c, V.int IntKind.i64 d, V.int IntKind.i64 e,
      V.int IntKind.i64 f, V.int IntKind.i64 g, V.int IntKind.i64 h, V.int IntKind.i64 i, V.int IntKind.u32 j]
    T.leaf)) = (some
  (V.agg 10
    [V.int IntKind.i64 a, V.int IntKind.i64 b, V.int IntKind.i64 c, V.int IntKind.i64 d, V.int IntKind.i64 e,
      V.int IntKind.i64 f, V.int IntKind.i64 g, V.int IntKind.i64 h, V.int IntKind.i64 i, V.int IntKind.u32 j]
    T.leaf))) ∧
 (((some (V.int IntKind.i64 (wr IntKind.i64 ((wr IntKind.i64 (Int.ofNat p)).add (wr IntKind.i64 (Int.ofNat q)))))) = (some (V.int IntKind.i64 (wr IntKind.i64 ((wr IntKind.i64 (Int.ofNat p)).add (wr IntKind.i64 (Int.ofNat q))))))) ∧
  (((some r) = (some r)) ∧
   (((some (V.int IntKind.i64 (Int.ofNat 0))) = (some (V.int IntKind.i64 (Int.ofNat 0)))) ∧
    (((some (V.int IntKind.u64 s)) = (some (V.int IntKind.u64 s))) ∧
     (((some (V.int IntKind.u8 (Int.ofNat p))) = (some (V.int IntKind.u8 (Int.ofNat p)))) ∧
      (((some (V.int IntKind.u8 (Int.ofNat q))) = (some (V.int IntKind.u8 (Int.ofNat q)))) ∧
       (((some (V.ptr 1001 0)) = (some (V.ptr 1001 0))) ∧
        (True))))))))) ∧
(((93) = (93)) ∧
 ((((((T.leaf.node
          (some
            (O.ro (some 0) 64
              [V.int IntKind.u8 (Int.ofNat 0), V.int IntKind.u8 (Int.ofNat 1), V.int IntKind.u8 (Int.ofNat 56),
                V.int IntKind.u8 (Int.ofNat 2), V.int IntKind.u8 (Int.ofNat 57), V.int IntKind.u8 (Int.ofNat 49),
                V.int IntKind.u8 (Int.ofNat 28), V.int IntKind.u8 (Int.ofNat 3), V.int IntKind.u8 (Int.ofNat 61),
                V.int IntKind.u8 (Int.ofNat 58), V.int IntKind.u8 (Int.ofNat 42), V.int IntKind.u8 (Int.ofNat 50),
                V.int IntKind.u8 (Int.ofNat 38), V.int IntKind.u8 (Int.ofNat 29), V.int IntKind.u8 (Int.ofNat 17),
                V.int IntKind.u8 (Int.ofNat 4), V.int IntKind.u8 (Int.ofNat 62), V.int IntKind.u8 (Int.ofNat 47),
                V.int IntKind.u8 (Int.ofNat 59), V.int IntKind.u8 (Int.ofNat 36), V.int IntKind.u8 (Int.ofNat 45),
                V.int IntKind.u8 (Int.ofNat 43), V.int IntKind.u8 (Int.ofNat 51), V.int IntKind.u8 (Int.ofNat 22),
                V.int IntKind.u8 (Int.ofNat 53), V.int IntKind.u8 (Int.ofNat 39), V.int IntKind.u8 (Int.ofNat 33),
                V.int IntKind.u8 (Int.ofNat 30), V.int IntKind.u8 (Int.ofNat 24), V.int IntKind.u8 (Int.ofNat 18),
                V.int IntKind.u8 (Int.ofNat 12), V.int IntKind.u8 (Int.ofNat 5), V.int IntKind.u8 (Int.ofNat 63),
                V.int IntKind.u8 (Int.ofNat 55), V.int IntKind.u8 (Int.ofNat 48), V.int IntKind.u8 (Int.ofNat 27),
                V.int IntKind.u8 (Int.ofNat 60), V.int IntKind.u8 (Int.ofNat 41), V.int IntKind.u8 (Int.ofNat 37),
                V.int IntKind.u8 (Int.ofNat 16), V.int IntKind.u8 (Int.ofNat 46), V.int IntKind.u8 (Int.ofNat 35),
                V.int IntKind.u8 (Int.ofNat 44), V.int IntKind.u8 (Int.ofNat 21), V.int IntKind.u8 (Int.ofNat 52),
                V.int IntKind.u8 (Int.ofNat 32), V.int IntKind.u8 (Int.ofNat 23), V.int IntKind.u8 (Int.ofNat 11),
                V.int IntKind.u8 (Int.ofNat 54), V.int IntKind.u8 (Int.ofNat 26), V.int IntKind.u8 (Int.ofNat 40),
                V.int IntKind.u8 (Int.ofNat 15), V.int IntKind.u8 (Int.ofNat 34), V.int IntKind.u8 (Int.ofNat 20),
                V.int IntKind.u8 (Int.ofNat 31), V.int IntKind.u8 (Int.ofNat 10), V.int IntKind.u8 (Int.ofNat 25),
                V.int IntKind.u8 (Int.ofNat 14), V.int IntKind.u8 (Int.ofNat 19), V.int IntKind.u8 (Int.ofNat 9),
                V.int IntKind.u8 (Int.ofNat 13), V.int IntKind.u8 (Int.ofNat 8), V.int IntKind.u8 (Int.ofNat 7),
                V.int IntKind.u8 (Int.ofNat 6)]
              T.leaf))
          T.leaf).node
      (some
        (O.ro (some 0) 20
          [V.int IntKind.u64 (Int.ofNat 1), V.int IntKind.u64 (Int.ofNat 10), V.int IntKind.u64 (Int.ofNat 100),
            V.int IntKind.u64 (Int.ofNat 1000), V.int IntKind.u64 (Int.ofNat 10000),
            V.int IntKind.u64 (Int.ofNat 100000), V.int IntKind.u64 (Int.ofNat 1000000),
            V.int IntKind.u64 (Int.ofNat 10000000), V.int IntKind.u64 (Int.ofNat 100000000),
            V.int IntKind.u64 (Int.ofNat 1000000000), V.int IntKind.u64 (Int.ofNat 10000000000),
            V.int IntKind.u64 (Int.ofNat 100000000000), V.int IntKind.u64 (Int.ofNat 1000000000000),
            V.int IntKind.u64 (Int.ofNat 10000000000000), V.int IntKind.u64 (Int.ofNat 100000000000000),
            V.int IntKind.u64 (Int.ofNat 1000000000000000), V.int IntKind.u64 (Int.ofNat 10000000000000000),
            V.int IntKind.u64 (Int.ofNat 100000000000000000), V.int IntKind.u64 (Int.ofNat 1000000000000000000),
            V.int IntKind.u64 (Int.ofNat 10000000000000000000)]
          T.leaf))
      ((T.leaf.node none
            ((T.leaf.node none
                  (T.leaf.node none
                    (T.leaf.node none
                      (T.leaf.node none
                        (T.leaf.node
                          (some
                            (O.cells (some 26) 10
                              [V.int IntKind.i64 a, V.int IntKind.i64 b, V.int IntKind.i64 c, V.int IntKind.i64 d,
                                V.int IntKind.i64 e, V.int IntKind.i64 f, V.int IntKind.i64 g, V.int IntKind.i64 h,
                                V.int IntKind.i64 i, V.int IntKind.u32 j]
                              T.leaf))
                          T.leaf))))).node
              none T.leaf)).node
        none T.leaf)).node
  (some
    (O.ro (some 0) 4
      [V.int IntKind.u8 (Int.ofNat 0), V.int IntKind.u8 (Int.ofNat 111), V.int IntKind.u8 (Int.ofNat 108),
        V.int IntKind.u8 (Int.ofNat 102)]
      T.leaf))
  (T.leaf.node
    (some
      (O.ro (some 0) 32
        [V.int IntKind.u8 (Int.ofNat 0), V.int IntKind.u8 (Int.ofNat 1), V.int IntKind.u8 (Int.ofNat 28),
          V.int IntKind.u8 (Int.ofNat 2), V.int IntKind.u8 (Int.ofNat 29), V.int IntKind.u8 (Int.ofNat 14),
          V.int IntKind.u8 (Int.ofNat 24), V.int IntKind.u8 (Int.ofNat 3), V.int IntKind.u8 (Int.ofNat 30),
          V.int IntKind.u8 (Int.ofNat 22), V.int IntKind.u8 (Int.ofNat 20), V.int IntKind.u8 (Int.ofNat 15),
          V.int IntKind.u8 (Int.ofNat 25), V.int IntKind.u8 (Int.ofNat 17), V.int IntKind.u8 (Int.ofNat 4),
          V.int IntKind.u8 (Int.ofNat 8), V.int IntKind.u8 (Int.ofNat 31), V.int IntKind.u8 (Int.ofNat 27),
          V.int IntKind.u8 (Int.ofNat 13), V.int IntKind.u8 (Int.ofNat 23), V.int IntKind.u8 (Int.ofNat 21),
          V.int IntKind.u8 (Int.ofNat 19), V.int IntKind.u8 (Int.ofNat 16), V.int IntKind.u8 (Int.ofNat 7),
          V.int IntKind.u8 (Int.ofNat 26), V.int IntKind.u8 (Int.ofNat 12), V.int IntKind.u8 (Int.ofNat 18),
          V.int IntKind.u8 (Int.ofNat 6), V.int IntKind.u8 (Int.ofNat 11), V.int IntKind.u8 (Int.ofNat 5),
          V.int IntKind.u8 (Int.ofNat 10), V.int IntKind.u8 (Int.ofNat 9)]
        T.leaf))
    ((T.leaf.node none
          ((T.leaf.node none
                (T.leaf.node none
                  (T.leaf.node none
                    (T.leaf.node none (T.leaf.node (some (O.cells (some 34) A.length A T.leaf)) T.leaf))))).node
            none T.leaf)).node
      none T.leaf))) = (((T.leaf.node
          (some
            (O.ro (some 0) 64
              [V.int IntKind.u8 (Int.ofNat 0), V.int IntKind.u8 (Int.ofNat 1), V.int IntKind.u8 (Int.ofNat 56),
                V.int IntKind.u8 (Int.ofNat 2), V.int IntKind.u8 (Int.ofNat 57), V.int IntKind.u8 (Int.ofNat 49),
                V.int IntKind.u8 (Int.ofNat 28), V.int IntKind.u8 (Int.ofNat 3), V.int IntKind.u8 (Int.ofNat 61),
                V.int IntKind.u8 (Int.ofNat 58), V.int IntKind.u8 (Int.ofNat 42), V.int IntKind.u8 (Int.ofNat 50),
                V.int IntKind.u8 (Int.ofNat 38), V.int IntKind.u8 (Int.ofNat 29), V.int IntKind.u8 (Int.ofNat 17),
                V.int IntKind.u8 (Int.ofNat 4), V.int IntKind.u8 (Int.ofNat 62), V.int IntKind.u8 (Int.ofNat 47),
                V.int IntKind.u8 (Int.ofNat 59), V.int IntKind.u8 (Int.ofNat 36), V.int IntKind.u8 (Int.ofNat 45),
                V.int IntKind.u8 (Int.ofNat 43), V.int IntKind.u8 (Int.ofNat 51), V.int IntKind.u8 (Int.ofNat 22),
                V.int IntKind.u8 (Int.ofNat 53), V.int IntKind.u8 (Int.ofNat 39), V.int IntKind.u8 (Int.ofNat 33),
                V.int IntKind.u8 (Int.ofNat 30), V.int IntKind.u8 (Int.ofNat 24), V.int IntKind.u8 (Int.ofNat 18),
                V.int IntKind.u8 (Int.ofNat 12), V.int IntKind.u8 (Int.ofNat 5), V.int IntKind.u8 (Int.ofNat 63),
                V.int IntKind.u8 (Int.ofNat 55), V.int IntKind.u8 (Int.ofNat 48), V.int IntKind.u8 (Int.ofNat 27),
                V.int IntKind.u8 (Int.ofNat 60), V.int IntKind.u8 (Int.ofNat 41), V.int IntKind.u8 (Int.ofNat 37),
                V.int IntKind.u8 (Int.ofNat 16), V.int IntKind.u8 (Int.ofNat 46), V.int IntKind.u8 (Int.ofNat 35),
                V.int IntKind.u8 (Int.ofNat 44), V.int IntKind.u8 (Int.ofNat 21), V.int IntKind.u8 (Int.ofNat 52),
                V.int IntKind.u8 (Int.ofNat 32), V.int IntKind.u8 (Int.ofNat 23), V.int IntKind.u8 (Int.ofNat 11),
                V.int IntKind.u8 (Int.ofNat 54), V.int IntKind.u8 (Int.ofNat 26), V.int IntKind.u8 (Int.ofNat 40),
                V.int IntKind.u8 (Int.ofNat 15), V.int IntKind.u8 (Int.ofNat 34), V.int IntKind.u8 (Int.ofNat 20),
                V.int IntKind.u8 (Int.ofNat 31), V.int IntKind.u8 (Int.ofNat 10), V.int IntKind.u8 (Int.ofNat 25),
                V.int IntKind.u8 (Int.ofNat 14), V.int IntKind.u8 (Int.ofNat 19), V.int IntKind.u8 (Int.ofNat 9),
                V.int IntKind.u8 (Int.ofNat 13), V.int IntKind.u8 (Int.ofNat 8), V.int IntKind.u8 (Int.ofNat 7),
                V.int IntKind.u8 (Int.ofNat 6)]
              T.leaf))
          T.leaf).node
      (some
        (O.ro (some 0) 20
          [V.int IntKind.u64 (Int.ofNat 1), V.int IntKind.u64 (Int.ofNat 10), V.int IntKind.u64 (Int.ofNat 100),
            V.int IntKind.u64 (Int.ofNat 1000), V.int IntKind.u64 (Int.ofNat 10000),
            V.int IntKind.u64 (Int.ofNat 100000), V.int IntKind.u64 (Int.ofNat 1000000),
            V.int IntKind.u64 (Int.ofNat 10000000), V.int IntKind.u64 (Int.ofNat 100000000),
            V.int IntKind.u64 (Int.ofNat 1000000000), V.int IntKind.u64 (Int.ofNat 10000000000),
            V.int IntKind.u64 (Int.ofNat 100000000000), V.int IntKind.u64 (Int.ofNat 1000000000000),
            V.int IntKind.u64 (Int.ofNat 10000000000000), V.int IntKind.u64 (Int.ofNat 100000000000000),
            V.int IntKind.u64 (Int.ofNat 1000000000000000), V.int IntKind.u64 (Int.ofNat 10000000000000000),
            V.int IntKind.u64 (Int.ofNat 100000000000000000), V.int IntKind.u64 (Int.ofNat 1000000000000000000),
            V.int IntKind.u64 (Int.ofNat 10000000000000000000)]
          T.leaf))
      ((T.leaf.node none
            ((T.leaf.node none
                  (T.leaf.node none
                    (T.leaf.node none
                      (T.leaf.node none
                        (T.leaf.node
                          (some
                            (O.cells (some 26) 10
                              [V.int IntKind.i64 a, V.int IntKind.i64 b, V.int IntKind.i64 c, V.int IntKind.i64 d,
                                V.int IntKind.i64 e, V.int IntKind.i64 f, V.int IntKind.i64 g, V.int IntKind.i64 h,
                                V.int IntKind.i64 i, V.int IntKind.u32 j]
                              T.leaf))
                          T.leaf))))).node
              none T.leaf)).node
        none T.leaf)).node
  (some
    (O.ro (some 0) 4
      [V.int IntKind.u8 (Int.ofNat 0), V.int IntKind.u8 (Int.ofNat 111), V.int IntKind.u8 (Int.ofNat 108),
        V.int IntKind.u8 (Int.ofNat 102)]
      T.leaf))
  (T.leaf.node
    (some
      (O.ro (some 0) 32
        [V.int IntKind.u8 (Int.ofNat 0), V.int IntKind.u8 (Int.ofNat 1), V.int IntKind.u8 (Int.ofNat 28),
          V.int IntKind.u8 (Int.ofNat 2), V.int IntKind.u8 (Int.ofNat 29), V.int IntKind.u8 (Int.ofNat 14),
          V.int IntKind.u8 (Int.ofNat 24), V.int IntKind.u8 (Int.ofNat 3), V.int IntKind.u8 (Int.ofNat 30),
          V.int IntKind.u8 (Int.ofNat 22), V.int IntKind.u8 (Int.ofNat 20), V.int IntKind.u8 (Int.ofNat 15),
          V.int IntKind.u8 (Int.ofNat 25), V.int IntKind.u8 (Int.ofNat 17), V.int IntKind.u8 (Int.ofNat 4),
          V.int IntKind.u8 (Int.ofNat 8), V.int IntKind.u8 (Int.ofNat 31), V.int IntKind.u8 (Int.ofNat 27),
          V.int IntKind.u8 (Int.ofNat 13), V.int IntKind.u8 (Int.ofNat 23), V.int IntKind.u8 (Int.ofNat 21),
          V.int IntKind.u8 (Int.ofNat 19), V.int IntKind.u8 (Int.ofNat 16), V.int IntKind.u8 (Int.ofNat 7),
          V.int IntKind.u8 (Int.ofNat 26), V.int IntKind.u8 (Int.ofNat 12), V.int IntKind.u8 (Int.ofNat 18),
          V.int IntKind.u8 (Int.ofNat 6), V.int IntKind.u8 (Int.ofNat 11), V.int IntKind.u8 (Int.ofNat 5),
          V.int IntKind.u8 (Int.ofNat 10), V.int IntKind.u8 (Int.ofNat 9)]
        T.leaf))
    ((T.leaf.node none
          ((T.leaf.node none
                (T.leaf.node none
                  (T.leaf.node none
                    (T.leaf.node none (T.leaf.node (some (O.cells (some 34) A.length A T.leaf)) T.leaf))))).node
            none T.leaf)).node
      none T.leaf)))) ∧
   ((1010) = (1010))) ∧
  ((R (wr IntKind.u64 (Int.ofNat (BitVec.ofInt IntKind.u64.bits s ^^^ BitVec.ofInt IntKind.u64.bits 1099511627776).toNat))))))) := by kernel_rfl
theorem w3b (r l : V) (s : Int) (p q : Nat) (h : H) : (regW GL sp cT iScripts (cOps r3) (opsPart (cOps r3) 9 5) (envL 93 ([(35, .tuple [r, z0]), (10, l), (11, z0)] ++ hd s p q)) h (KH (e4 p q l r) h)) = (
(((some l) = (some l)) ∧
 (((some (V.int IntKind.i64 (Int.ofNat 0))) = (some (V.int IntKind.i64 (Int.ofNat 0)))) ∧
  (((some r) = (some r)) ∧
   (((some (V.int IntKind.i64 (Int.ofNat 0))) = (some (V.int IntKind.i64 (Int.ofNat 0)))) ∧
    (((some (V.int IntKind.u8 (Int.ofNat p))) = (some (V.int IntKind.u8 (Int.ofNat p)))) ∧
     (((some (V.int IntKind.u8 (Int.ofNat q))) = (some (V.int IntKind.u8 (Int.ofNat q)))) ∧
      (((some (V.ptr 1001 0)) = (some (V.ptr 1001 0))) ∧
       (True)))))))) ∧
(((93) = (93)) ∧
 ((h) = (h)))) := by kernel_rfl
theorem w4N (l : List V) : (evW GL sp 60 x4 none iScripts (S (e4 0 0 .nils .nils) ⟨tB l, 1010⟩) (fun x st => match x with | .ret => retIs (fun v => v = .bool true) st | _ => False)) = (
((false) = (false)) ∧
(((false) = (false)) ∧
 ((((false) = (true)) → False) ∧
  (((false) = (false)) → (V.bool true) = (V.bool true))))) := by kernel_rfl
theorem w4F (l B : List V) (q n : Nat) : (evL GL (spS 0 n) 60 iScripts [y4] (KN [(12, .slice 1003 0 n (.atl n 6)), (9, bP)] ⟨tM l B, 1010⟩) (S (e4 0 q .nils (.slice 1003 0 n (.atl n 6))) ⟨tM l B, 1010⟩)) = (
((false) = (false)) ∧
(((!ieq (Int.ofNat n) (wr IntKind.i64 ((wr IntKind.i64 (Int.ofNat 0)).add (wr IntKind.i64 (Int.ofNat q))))) = (false)) ∧
 ((((Int.ofNat 0) = (Int.ofNat 0)) ∧
   (((true) = (true)) ∧
    (((1003) = (1003)) ∧
     (((0) = (0)) ∧
      (((n) = (n)) ∧
       (((6) = (6)) ∧
        ((true) = (true)))))))) ∧
  (((((some (V.slice 1003 0 n (Cap.atl n 6))) = (some (V.slice 1003 0 n (Cap.atl n 6)))) ∧
     (((some (V.ptr 1001 0)) = (some (V.ptr 1001 0))) ∧
      (True))) ∧
    (((93) = (93)) ∧
     ((true) = (true)))) ∧
   (((((T.leaf.node
          (some
            (O.ro (some 0) 64
              [V.int IntKind.u8 (Int.ofNat 0), V.int IntKind.u8 (Int.ofNat 1), V.int IntKind.u8 (Int.ofNat 56),
                V.int IntKind.u8 (Int.ofNat 2), V.int IntKind.u8 (Int.ofNat 57), V.int IntKind.u8 (Int.ofNat 49),
                V.int IntKind.u8 (Int.ofNat 28), V.int IntKind.u8 (Int.ofNat 3), V.int IntKind.u8 (Int.ofNat 61),
                V.int IntKind.u8 (Int.ofNat 58), V.int IntKind.u8 (Int.ofNat 42), V.int IntKind.u8 (Int.ofNat 50),
                V.int IntKind.u8 (Int.ofNat 38), V.int IntKind.u8 (Int.ofNat 29), V.int IntKind.u8 (Int.ofNat 17),
                V.int IntKind.u8 (Int.ofNat 4), V.int IntKind.u8 (Int.ofNat 62), V.int IntKind.u8 (Int.ofNat 47),
                V.int IntKind.u8 (Int.ofNat 59), V.int IntKind.u8 (Int.ofNat 36), V.int IntKind.u8 (Int.ofNat 45),
                V.int IntKind.u8 (Int.ofNat 43), V.int IntKind.u8 (Int.ofNat 51), V.int IntKind.u8 (Int.ofNat 22),
                V.int IntKind.u8 (Int.ofNat 53), V.int IntKind.u8 (Int.ofNat 39), V.int IntKind.u8 (Int.ofNat 33),
                V.int IntKind.u8 (Int.ofNat 30), V.int IntKind.u8 (Int.ofNat 24), V.int IntKind.u8 (Int.ofNat 18),
                V.int IntKind.u8 (Int.ofNat 12), V.int IntKind.u8 (Int.ofNat 5), V.int IntKind.u8 (Int.ofNat 63),
                V.int IntKind.u8 (Int.ofNat 55), V.int IntKind.u8 (Int.ofNat 48), V.int IntKind.u8 (Int.ofNat 27),
                V.int IntKind.u8 (Int.ofNat 60), V.int IntKind.u8 (Int.ofNat 41), V.int IntKind.u8 (Int.ofNat 37),
                V.int IntKind.u8 (Int.ofNat 16), V.int IntKind.u8 (Int.ofNat 46), V.int IntKind.u8 (Int.ofNat 35),
                V.int IntKind.u8 (Int.ofNat 44), V.int IntKind.u8 (Int.ofNat 21), V.int IntKind.u8 (Int.ofNat 52),
                V.int IntKind.u8 (Int.ofNat 32), V.int IntKind.u8 (Int.ofNat 23), V.int IntKind.u8 (Int.ofNat 11),
                V.int IntKind.u8 (Int.ofNat 54), V.int IntKind.u8 (Int.ofNat 26), V.int IntKind.u8 (Int.ofNat 40),
                V.int IntKind.u8 (Int.ofNat 15), V.int IntKind.u8 (Int.ofNat 34), V.int IntKind.u8 (Int.ofNat 20),
                V.int IntKind.u8 (Int.ofNat 31), V.int IntKind.u8 (Int.ofNat 10), V.int IntKind.u8 (Int.ofNat 25),
                V.int IntKind.u8 (Int.ofNat 14), V.int IntKind.u8 (Int.ofNat 19), V.int IntKind.u8 (Int.ofNat 9),
                V.int IntKind.u8 (Int.ofNat 13), V.int IntKind.u8 (Int.ofNat 8), V.int IntKind.u8 (Int.ofNat 7),
                V.int IntKind.u8 (Int.ofNat 6)]
              T.leaf))
          (T.leaf.node none
            ((T.leaf.node none
                  (T.leaf.node none
                    (T.leaf.node none
                      (T.leaf.node none (T.leaf.node (some (O.cells (some 34) B.length B T.leaf)) T.leaf))))).node
              none T.leaf))).node
      (some
        (O.ro (some 0) 20
          [V.int IntKind.u64 (Int.ofNat 1), V.int IntKind.u64 (Int.ofNat 10), V.int IntKind.u64 (Int.ofNat 100),
            V.int IntKind.u64 (Int.ofNat 1000), V.int IntKind.u64 (Int.ofNat 10000),
            V.int IntKind.u64 (Int.ofNat 100000), V.int IntKind.u64 (Int.ofNat 1000000),
            V.int IntKind.u64 (Int.ofNat 10000000), V.int IntKind.u64 (Int.ofNat 100000000),
            V.int IntKind.u64 (Int.ofNat 1000000000), V.int IntKind.u64 (Int.ofNat 10000000000),
            V.int IntKind.u64 (Int.ofNat 100000000000), V.int IntKind.u64 (Int.ofNat 1000000000000),
            V.int IntKind.u64 (Int.ofNat 10000000000000), V.int IntKind.u64 (Int.ofNat 100000000000000),
            V.int IntKind.u64 (Int.ofNat 1000000000000000), V.int IntKind.u64 (Int.ofNat 10000000000000000),
            V.int IntKind.u64 (Int.ofNat 100000000000000000), V.int IntKind.u64 (Int.ofNat 1000000000000000000),
            V.int IntKind.u64 (Int.ofNat 10000000000000000000)]
          T.leaf))
      ((T.leaf.node none
            ((T.leaf.node none
                  (T.leaf.node none
                    (T.leaf.node none
                      (T.leaf.node none (T.leaf.node (some (O.cells (some 26) 10 l T.leaf)) T.leaf))))).node
              none T.leaf)).node
        none T.leaf)).node
  (some
    (O.ro (some 0) 4
      [V.int IntKind.u8 (Int.ofNat 0), V.int IntKind.u8 (Int.ofNat 111), V.int IntKind.u8 (Int.ofNat 108),
        V.int IntKind.u8 (Int.ofNat 102)]
      T.leaf))
  (T.leaf.node
    (some
      (O.ro (some 0) 32
        [V.int IntKind.u8 (Int.ofNat 0), V.int IntKind.u8 (Int.ofNat 1), V.int IntKind.u8 (Int.ofNat 28),
          V.int IntKind.u8 (Int.ofNat 2), V.int IntKind.u8 (Int.ofNat 29), V.int IntKind.u8 (Int.ofNat 14),
          V.int IntKind.u8 (Int.ofNat 24), V.int IntKind.u8 (Int.ofNat 3), V.int IntKind.u8 (Int.ofNat 30),
          V.int IntKind.u8 (Int.ofNat 22), V.int IntKind.u8 (Int.ofNat 20), V.int IntKind.u8 (Int.ofNat 15),
          V.int IntKind.u8 (Int.ofNat 25), V.int IntKind.u8 (Int.ofNat 17), V.int IntKind.u8 (Int.ofNat 4),
          V.int IntKind.u8 (Int.ofNat 8), V.int IntKind.u8 (Int.ofNat 31), V.int IntKind.u8 (Int.ofNat 27),
          V.int IntKind.u8 (Int.ofNat 13), V.int IntKind.u8 (Int.ofNat 23), V.int IntKind.u8 (Int.ofNat 21),
          V.int IntKind.u8 (Int.ofNat 19), V.int IntKind.u8 (Int.ofNat 16), V.int IntKind.u8 (Int.ofNat 7),
          V.int IntKind.u8 (Int.ofNat 26), V.int IntKind.u8 (Int.ofNat 12), V.int IntKind.u8 (Int.ofNat 18),
          V.int IntKind.u8 (Int.ofNat 6), V.int IntKind.u8 (Int.ofNat 11), V.int IntKind.u8 (Int.ofNat 5),
          V.int IntKind.u8 (Int.ofNat 10), V.int IntKind.u8 (Int.ofNat 9)]
        T.leaf))
    T.leaf)) = (((T.leaf.node
          (some
            (O.ro (some 0) 64
              [V.int IntKind.u8 (Int.ofNat 0), V.int IntKind.u8 (Int.ofNat 1), V.int IntKind.u8 (Int.ofNat 56),
                V.int IntKind.u8 (Int.ofNat 2), V.int IntKind.u8 (Int.ofNat 57), V.int IntKind.u8 (Int.ofNat 49),
                V.int IntKind.u8 (Int.ofNat 28), V.int IntKind.u8 (Int.ofNat 3), V.int IntKind.u8 (Int.ofNat 61),
                V.int IntKind.u8 (Int.ofNat 58), V.int IntKind.u8 (Int.ofNat 42), V.int IntKind.u8 (Int.ofNat 50),
                V.int IntKind.u8 (Int.ofNat 38), V.int IntKind.u8 (Int.ofNat 29), V.int IntKind.u8 (Int.ofNat 17),
                V.int IntKind.u8 (Int.ofNat 4), V.int IntKind.u8 (Int.ofNat 62), V.int IntKind.u8 (Int.ofNat 47),
                V.int IntKind.u8 (Int.ofNat 59), V.int IntKind.u8 (Int.ofNat 36), V.int IntKind.u8 (Int.ofNat 45),
                V.int IntKind.u8 (Int.ofNat 43), V.int IntKind.u8 (Int.ofNat 51), V.int IntKind.u8 (Int.ofNat 22),
                V.int IntKind.u8 (Int.ofNat 53), V.int IntKind.u8 (Int.ofNat 39), V.int IntKind.u8 (Int.ofNat 33),
                V.int IntKind.u8 (Int.ofNat 30), V.int IntKind.u8 (Int.ofNat 24), V.int IntKind.u8 (Int.ofNat 18),
                V.int IntKind.u8 (Int.ofNat 12), V.int IntKind.u8 (Int.ofNat 5), V.int IntKind.u8 (Int.ofNat 63),
                V.int IntKind.u8 (Int.ofNat 55), V.int IntKind.u8 (Int.ofNat 48), V.int IntKind.u8 (Int.ofNat 27),
                V.int IntKind.u8 (Int.ofNat 60), V.int IntKind.u8 (Int.ofNat 41), V.int IntKind.u8 (Int.ofNat 37),
                V.int IntKind.u8 (Int.ofNat 16), V.int IntKind.u8 (Int.ofNat 46), V.int IntKind.u8 (Int.ofNat 35),
                V.int IntKind.u8 (Int.ofNat 44), V.int IntKind.u8 (Int.ofNat 21), V.int IntKind.u8 (Int.ofNat 52),
                V.int IntKind.u8 (Int.ofNat 32), V.int IntKind.u8 (Int.ofNat 23), V.int IntKind.u8 (Int.ofNat 11),
                V.int IntKind.u8 (Int.ofNat 54), V.int IntKind.u8 (Int.ofNat 26), V.int IntKind.u8 (Int.ofNat 40),
                V.int IntKind.u8 (Int.ofNat 15), V.int IntKind.u8 (Int.ofNat 34), V.int IntKind.u8 (Int.ofNat 20),
                V.int IntKind.u8 (Int.ofNat 31), V.int IntKind.u8 (Int.ofNat 10), V.int IntKind.u8 (Int.ofNat 25),
                V.int IntKind.u8 (Int.ofNat 14), V.int IntKind.u8 (Int.ofNat 19), V.int IntKind.u8 (Int.ofNat 9),
                V.int IntKind.u8 (Int.ofNat 13), V.int IntKind.u8 (Int.ofNat 8), V.int IntKind.u8 (Int.ofNat 7),
                V.int IntKind.u8 (Int.ofNat 6)]
              T.leaf))
          (T.leaf.node none
            ((T.leaf.node none
                  (T.leaf.node none
                    (T.leaf.node none
                      (T.leaf.node none (T.leaf.node (some (O.cells (some 34) B.length B T.leaf)) T.leaf))))).node
              none T.leaf))).node
      (some
        (O.ro (some 0) 20
          [V.int IntKind.u64 (Int.ofNat 1), V.int IntKind.u64 (Int.ofNat 10), V.int IntKind.u64 (Int.ofNat 100),
            V.int IntKind.u64 (Int.ofNat 1000), V.int IntKind.u64 (Int.ofNat 10000),
            V.int IntKind.u64 (Int.ofNat 100000), V.int IntKind.u64 (Int.ofNat 1000000),
            V.int IntKind.u64 (Int.ofNat 10000000), V.int IntKind.u64 (Int.ofNat 100000000),
            V.int IntKind.u64 (Int.ofNat 1000000000), V.int IntKind.u64 (Int.ofNat 10000000000),
            V.int IntKind.u64 (Int.ofNat 100000000000), V.int IntKind.u64 (Int.ofNat 1000000000000),
            V.int IntKind.u64 (Int.ofNat 10000000000000), V.int IntKind.u64 (Int.ofNat 100000000000000),
            V.int IntKind.u64 (Int.ofNat 1000000000000000), V.int IntKind.u64 (Int.ofNat 10000000000000000),
            V.int IntKind.u64 (Int.ofNat 100000000000000000), V.int IntKind.u64 (Int.ofNat 1000000000000000000),
            V.int IntKind.u64 (Int.ofNat 10000000000000000000)]
          T.leaf))
      ((T.leaf.node none
            ((T.leaf.node none
                  (T.leaf.node none
                    (T.leaf.node none
                      (T.leaf.node none (T.leaf.node (some (O.cells (some 26) 10 l T.leaf)) T.leaf))))).node
              none T.leaf)).node
        none T.leaf)).node
  (some
    (O.ro (some 0) 4
      [V.int IntKind.u8 (Int.ofNat 0), V.int IntKind.u8 (Int.ofNat 111), V.int IntKind.u8 (Int.ofNat 108),
        V.int IntKind.u8 (Int.ofNat 102)]
      T.leaf))
  (T.leaf.node
    (some
      (O.ro (some 0) 32
        [V.int IntKind.u8 (Int.ofNat 0), V.int IntKind.u8 (Int.ofNat 1), V.int IntKind.u8 (Int.ofNat 28),
          V.int IntKind.u8 (Int.ofNat 2), V.int IntKind.u8 (Int.ofNat 29), V.int IntKind.u8 (Int.ofNat 14),
          V.int IntKind.u8 (Int.ofNat 24), V.int IntKind.u8 (Int.ofNat 3), V.int IntKind.u8 (Int.ofNat 30),
          V.int IntKind.u8 (Int.ofNat 22), V.int IntKind.u8 (Int.ofNat 20), V.int IntKind.u8 (Int.ofNat 15),
          V.int IntKind.u8 (Int.ofNat 25), V.int IntKind.u8 (Int.ofNat 17), V.int IntKind.u8 (Int.ofNat 4),
          V.int IntKind.u8 (Int.ofNat 8), V.int IntKind.u8 (Int.ofNat 31), V.int IntKind.u8 (Int.ofNat 27),
          V.int IntKind.u8 (Int.ofNat 13), V.int IntKind.u8 (Int.ofNat 23), V.int IntKind.u8 (Int.ofNat 21),
          V.int IntKind.u8 (Int.ofNat 19), V.int IntKind.u8 (Int.ofNat 16), V.int IntKind.u8 (Int.ofNat 7),
          V.int IntKind.u8 (Int.ofNat 26), V.int IntKind.u8 (Int.ofNat 12), V.int IntKind.u8 (Int.ofNat 18),
          V.int IntKind.u8 (Int.ofNat 6), V.int IntKind.u8 (Int.ofNat 11), V.int IntKind.u8 (Int.ofNat 5),
          V.int IntKind.u8 (Int.ofNat 10), V.int IntKind.u8 (Int.ofNat 9)]
        T.leaf))
    T.leaf))) ∧
    ((1010) = (1010))))))) := by kernel_rfl
theorem w4W (l A B : List V) (p q n : Nat) : (evL GL (spS p n) 60 iScripts [y4] (KN [(12, .slice 1003 0 n (.atl n 6)), (9, bP)] ⟨tLM l A B, 1010⟩) (S (e4 p q (.slice 1002 0 p (.atl p 6)) (.slice 1003 0 n (.atl n 6))) ⟨tLM l A B, 1010⟩)) = (
((!ieq (Int.ofNat p) (wr IntKind.i64 (Int.ofNat p))) = (false)) ∧
(((!ieq (Int.ofNat n) (wr IntKind.i64 ((wr IntKind.i64 (Int.ofNat p)).add (wr IntKind.i64 (Int.ofNat q))))) = (false)) ∧
 ((((Int.ofNat p) = (Int.ofNat p)) ∧
   (((p.ble n) = (true)) ∧
    (((1003) = (1003)) ∧
     (((0) = (0)) ∧
      (((n) = (n)) ∧
       (((6) = (6)) ∧
        ((true) = (true)))))))) ∧
  (((!(p.beq p &&
    KB.eqB p
      {
        tr :=
          ((T.leaf.node
                    (some
                      (O.ro (some 0) 64
                        [V.int IntKind.u8 (Int.ofNat 0), V.int IntKind.u8 (Int.ofNat 1),
                          V.int IntKind.u8 (Int.ofNat 56), V.int IntKind.u8 (Int.ofNat 2),
                          V.int IntKind.u8 (Int.ofNat 57), V.int IntKind.u8 (Int.ofNat 49),
                          V.int IntKind.u8 (Int.ofNat 28), V.int IntKind.u8 (Int.ofNat 3),
                          V.int IntKind.u8 (Int.ofNat 61), V.int IntKind.u8 (Int.ofNat 58),
                          V.int IntKind.u8 (Int.ofNat 42), V.int IntKind.u8 (Int.ofNat 50),
                          V.int IntKind.u8 (Int.ofNat 38), V.int IntKind.u8 (Int.ofNat 29),
                          V.int IntKind.u8 (Int.ofNat 17), V.int IntKind.u8 (Int.ofNat 4),
                          V.int IntKind.u8 (Int.ofNat 62), V.int IntKind.u8 (Int.ofNat 47),
                          V.int IntKind.u8 (Int.ofNat 59), V.int IntKind.u8 (Int.ofNat 36),
                          V.int IntKind.u8 (Int.ofNat 45), V.int IntKind.u8 (Int.ofNat 43),
                          V.int IntKind.u8 (Int.ofNat 51), V.int IntKind.u8 (Int.ofNat 22),
                          V.int IntKind.u8 (Int.ofNat 53), V.int IntKind.u8 (Int.ofNat 39),
                          V.int IntKind.u8 (Int.ofNat 33), V.int IntKind.u8 (Int.ofNat 30),
                          V.int IntKind.u8 (Int.ofNat 24), V.int IntKind.u8 (Int.ofNat 18),
                          V.int IntKind.u8 (Int.ofNat 12), V.int IntKind.u8 (Int.ofNat 5),
                          V.int IntKind.u8 (Int.ofNat 63), V.int IntKind.u8 (Int.ofNat 55),
                          V.int IntKind.u8 (Int.ofNat 48), V.int IntKind.u8 (Int.ofNat 27),
                          V.int IntKind.u8 (Int.ofNat 60), V.int IntKind.u8 (Int.ofNat 41),
                          V.int IntKind.u8 (Int.ofNat 37), V.int IntKind.u8 (Int.ofNat 16),
                          V.int IntKind.u8 (Int.ofNat 46), V.int IntKind.u8 (Int.ofNat 35),
                          V.int IntKind.u8 (Int.ofNat 44), V.int IntKind.u8 (Int.ofNat 21),
                          V.int IntKind.u8 (Int.ofNat 52), V.int IntKind.u8 (Int.ofNat 32),
                          V.int IntKind.u8 (Int.ofNat 23), V.int IntKind.u8 (Int.ofNat 11),
                          V.int IntKind.u8 (Int.ofNat 54), V.int IntKind.u8 (Int.ofNat 26),
                          V.int IntKind.u8 (Int.ofNat 40), V.int IntKind.u8 (Int.ofNat 15),
                          V.int IntKind.u8 (Int.ofNat 34), V.int IntKind.u8 (Int.ofNat 20),
                          V.int IntKind.u8 (Int.ofNat 31), V.int IntKind.u8 (Int.ofNat 10),
                          V.int IntKind.u8 (Int.ofNat 25), V.int IntKind.u8 (Int.ofNat 14),
                          V.int IntKind.u8 (Int.ofNat 19), V.int IntKind.u8 (Int.ofNat 9),
                          V.int IntKind.u8 (Int.ofNat 13), V.int IntKind.u8 (Int.ofNat 8),
                          V.int IntKind.u8 (Int.ofNat 7), V.int IntKind.u8 (Int.ofNat 6)]
                        T.leaf))
                    (T.leaf.node none
                      ((T.leaf.node none
                            (T.leaf.node none
                              (T.leaf.node none
                                (T.leaf.node none
                                  (T.leaf.node (some (O.cells (some 34) B.length B T.leaf)) T.leaf))))).node
                        none T.leaf))).node
                (some
                  (O.ro (some 0) 20
                    [V.int IntKind.u64 (Int.ofNat 1), V.int IntKind.u64 (Int.ofNat 10),
                      V.int IntKind.u64 (Int.ofNat 100), V.int IntKind.u64 (Int.ofNat 1000),
                      V.int IntKind.u64 (Int.ofNat 10000), V.int IntKind.u64 (Int.ofNat 100000),
                      V.int IntKind.u64 (Int.ofNat 1000000), V.int IntKind.u64 (Int.ofNat 10000000),
                      V.int IntKind.u64 (Int.ofNat 100000000), V.int IntKind.u64 (Int.ofNat 1000000000),
                      V.int IntKind.u64 (Int.ofNat 10000000000), V.int IntKind.u64 (Int.ofNat 100000000000),
                      V.int IntKind.u64 (Int.ofNat 1000000000000), V.int IntKind.u64 (Int.ofNat 10000000000000),
                      V.int IntKind.u64 (Int.ofNat 100000000000000), V.int IntKind.u64 (Int.ofNat 1000000000000000),
                      V.int IntKind.u64 (Int.ofNat 10000000000000000), V.int IntKind.u64 (Int.ofNat 100000000000000000),
                      V.int IntKind.u64 (Int.ofNat 1000000000000000000),
                      V.int IntKind.u64 (Int.ofNat 10000000000000000000)]
                    T.leaf))
                ((T.leaf.node none
                      ((T.leaf.node none
                            (T.leaf.node none
                              (T.leaf.node none
                                (T.leaf.node none (T.leaf.node (some (O.cells (some 26) 10 l T.leaf)) T.leaf))))).node
                        none T.leaf)).node
                  none T.leaf)).node
            (some
              (O.ro (some 0) 4
                [V.int IntKind.u8 (Int.ofNat 0), V.int IntKind.u8 (Int.ofNat 111), V.int IntKind.u8 (Int.ofNat 108),
                  V.int IntKind.u8 (Int.ofNat 102)]
                T.leaf))
            (T.leaf.node
              (some
                (O.ro (some 0) 32
                  [V.int IntKind.u8 (Int.ofNat 0), V.int IntKind.u8 (Int.ofNat 1), V.int IntKind.u8 (Int.ofNat 28),
                    V.int IntKind.u8 (Int.ofNat 2), V.int IntKind.u8 (Int.ofNat 29), V.int IntKind.u8 (Int.ofNat 14),
                    V.int IntKind.u8 (Int.ofNat 24), V.int IntKind.u8 (Int.ofNat 3), V.int IntKind.u8 (Int.ofNat 30),
                    V.int IntKind.u8 (Int.ofNat 22), V.int IntKind.u8 (Int.ofNat 20), V.int IntKind.u8 (Int.ofNat 15),
                    V.int IntKind.u8 (Int.ofNat 25), V.int IntKind.u8 (Int.ofNat 17), V.int IntKind.u8 (Int.ofNat 4),
                    V.int IntKind.u8 (Int.ofNat 8), V.int IntKind.u8 (Int.ofNat 31), V.int IntKind.u8 (Int.ofNat 27),
                    V.int IntKind.u8 (Int.ofNat 13), V.int IntKind.u8 (Int.ofNat 23), V.int IntKind.u8 (Int.ofNat 21),
                    V.int IntKind.u8 (Int.ofNat 19), V.int IntKind.u8 (Int.ofNat 16), V.int IntKind.u8 (Int.ofNat 7),
                    V.int IntKind.u8 (Int.ofNat 26), V.int IntKind.u8 (Int.ofNat 12), V.int IntKind.u8 (Int.ofNat 18),
                    V.int IntKind.u8 (Int.ofNat 6), V.int IntKind.u8 (Int.ofNat 11), V.int IntKind.u8 (Int.ofNat 5),
                    V.int IntKind.u8 (Int.ofNat 10), V.int IntKind.u8 (Int.ofNat 9)]
                  T.leaf))
              ((T.leaf.node none
                    ((T.leaf.node none
                          (T.leaf.node none
                            (T.leaf.node none
                              (T.leaf.node none
                                (T.leaf.node (some (O.cells (some 34) A.length A T.leaf)) T.leaf))))).node
                      none T.leaf)).node
                none T.leaf)),
        next := 1010 })) = (false)) ∧
   (((((some (V.slice 1003 0 n (Cap.atl n 6))) = (some (V.slice 1003 0 n (Cap.atl n 6)))) ∧
      (((some (V.ptr 1001 0)) = (some (V.ptr 1001 0))) ∧
       (True))) ∧
     (((93) = (93)) ∧
      ((true) = (true)))) ∧
    (((((T.leaf.node
          (some
            (O.ro (some 0) 64
              [V.int IntKind.u8 (Int.ofNat 0), V.int IntKind.u8 (Int.ofNat 1), V.int IntKind.u8 (Int.ofNat 56),
                V.int IntKind.u8 (Int.ofNat 2), V.int IntKind.u8 (Int.ofNat 57), V.int IntKind.u8 (Int.ofNat 49),
                V.int IntKind.u8 (Int.ofNat 28), V.int IntKind.u8 (Int.ofNat 3), V.int IntKind.u8 (Int.ofNat 61),
                V.int IntKind.u8 (Int.ofNat 58), V.int IntKind.u8 (Int.ofNat 42), V.int IntKind.u8 (Int.ofNat 50),
                V.int IntKind.u8 (Int.ofNat 38), V.int IntKind.u8 (Int.ofNat 29), V.int IntKind.u8 (Int.ofNat 17),
                V.int IntKind.u8 (Int.ofNat 4), V.int IntKind.u8 (Int.ofNat 62), V.int IntKind.u8 (Int.ofNat 47),
                V.int IntKind.u8 (Int.ofNat 59), V.int IntKind.u8 (Int.ofNat 36), V.int IntKind.u8 (Int.ofNat 45),
                V.int IntKind.u8 (Int.ofNat 43), V.int IntKind.u8 (Int.ofNat 51), V.int IntKind.u8 (Int.ofNat 22),
                V.int IntKind.u8 (Int.ofNat 53), V.int IntKind.u8 (Int.ofNat 39), V.int IntKind.u8 (Int.ofNat 33),
                V.int IntKind.u8 (Int.ofNat 30), V.int IntKind.u8 (Int.ofNat 24), V.int IntKind.u8 (Int.ofNat 18),
                V.int IntKind.u8 (Int.ofNat 12), V.int IntKind.u8 (Int.ofNat 5), V.int IntKind.u8 (Int.ofNat 63),
                V.int IntKind.u8 (Int.ofNat 55), V.int IntKind.u8 (Int.ofNat 48), V.int IntKind.u8 (Int.ofNat 27),
                V.int IntKind.u8 (Int.ofNat 60), V.int IntKind.u8 (Int.ofNat 41), V.int IntKind.u8 (Int.ofNat 37),
                V.int IntKind.u8 (Int.ofNat 16), V.int IntKind.u8 (Int.ofNat 46), V.int IntKind.u8 (Int.ofNat 35),
                V.int IntKind.u8 (Int.ofNat 44), V.int IntKind.u8 (Int.ofNat 21), V.int IntKind.u8 (Int.ofNat 52),
                V.int IntKind.u8 (Int.ofNat 32), V.int IntKind.u8 (Int.ofNat 23), V.int IntKind.u8 (Int.ofNat 11),
                V.int IntKind.u8 (Int.ofNat 54), V.int IntKind.u8 (Int.ofNat 26), V.int IntKind.u8 (Int.ofNat 40),
                V.int IntKind.u8 (Int.ofNat 15), V.int IntKind.u8 (Int.ofNat 34), V.int IntKind.u8 (Int.ofNat 20),
                V.int IntKind.u8 (Int.ofNat 31), V.int IntKind.u8 (Int.ofNat 10), V.int IntKind.u8 (Int.ofNat 25),
                V.int IntKind.u8 (Int.ofNat 14), V.int IntKind.u8 (Int.ofNat 19), V.int IntKind.u8 (Int.ofNat 9),
                V.int IntKind.u8 (Int.ofNat 13), V.int IntKind.u8 (Int.ofNat 8), V.int IntKind.u8 (Int.ofNat 7),
                V.int IntKind.u8 (Int.ofNat 6)]
              T.leaf))
          (T.leaf.node none
            ((T.leaf.node none
                  (T.leaf.node none
                    (T.leaf.node none
                      (T.leaf.node none (T.leaf.node (some (O.cells (some 34) B.length B T.leaf)) T.leaf))))).node
              none T.leaf))).node
      (some
        (O.ro (some 0) 20
          [V.int IntKind.u64 (Int.ofNat 1), V.int IntKind.u64 (Int.ofNat 10), V.int IntKind.u64 (Int.ofNat 100),
            V.int IntKind.u64 (Int.ofNat 1000), V.int IntKind.u64 (Int.ofNat 10000),
            V.int IntKind.u64 (Int.ofNat 100000), V.int IntKind.u64 (Int.ofNat 1000000),
            V.int IntKind.u64 (Int.ofNat 10000000), V.int IntKind.u64 (Int.ofNat 100000000),
            V.int IntKind.u64 (Int.ofNat 1000000000), V.int IntKind.u64 (Int.ofNat 10000000000),
            V.int IntKind.u64 (Int.ofNat 100000000000), V.int IntKind.u64 (Int.ofNat 1000000000000),
            V.int IntKind.u64 (Int.ofNat 10000000000000), V.int IntKind.u64 (Int.ofNat 100000000000000),
            V.int IntKind.u64 (Int.ofNat 1000000000000000), V.int IntKind.u64 (Int.ofNat 10000000000000000),
            V.int IntKind.u64 (Int.ofNat 100000000000000000), V.int IntKind.u64 (Int.ofNat 1000000000000000000),
            V.int IntKind.u64 (Int.ofNat 10000000000000000000)]
          T.leaf))
      ((T.leaf.node none
            ((T.leaf.node none
                  (T.leaf.node none
                    (T.leaf.node none
                      (T.leaf.node none (T.leaf.node (some (O.cells (some 26) 10 l T.leaf)) T.leaf))))).node
              none T.leaf)).node
        none T.leaf)).node
  (some
    (O.ro (some 0) 4
      [V.int IntKind.u8 (Int.ofNat 0), V.int IntKind.u8 (Int.ofNat 111), V.int IntKind.u8 (Int.ofNat 108),
        V.int IntKind.u8 (Int.ofNat 102)]
      T.leaf))
  (T.leaf.node
    (some
      (O.ro (some 0) 32
        [V.int IntKind.u8 (Int.ofNat 0), V.int IntKind.u8 (Int.ofNat 1), V.int IntKind.u8 (Int.ofNat 28),
          V.int IntKind.u8 (Int.ofNat 2), V.int IntKind.u8 (Int.ofNat 29), V.int IntKind.u8 (Int.ofNat 14),
          V.int IntKind.u8 (Int.ofNat 24), V.int IntKind.u8 (Int.ofNat 3), V.int IntKind.u8 (Int.ofNat 30),
          V.int IntKind.u8 (Int.ofNat 22), V.int IntKind.u8 (Int.ofNat 20), V.int IntKind.u8 (Int.ofNat 15),
          V.int IntKind.u8 (Int.ofNat 25), V.int IntKind.u8 (Int.ofNat 17), V.int IntKind.u8 (Int.ofNat 4),
          V.int IntKind.u8 (Int.ofNat 8), V.int IntKind.u8 (Int.ofNat 31), V.int IntKind.u8 (Int.ofNat 27),
          V.int IntKind.u8 (Int.ofNat 13), V.int IntKind.u8 (Int.ofNat 23), V.int IntKind.u8 (Int.ofNat 21),
          V.int IntKind.u8 (Int.ofNat 19), V.int IntKind.u8 (Int.ofNat 16), V.int IntKind.u8 (Int.ofNat 7),
          V.int IntKind.u8 (Int.ofNat 26), V.int IntKind.u8 (Int.ofNat 12), V.int IntKind.u8 (Int.ofNat 18),
          V.int IntKind.u8 (Int.ofNat 6), V.int IntKind.u8 (Int.ofNat 11), V.int IntKind.u8 (Int.ofNat 5),
          V.int IntKind.u8 (Int.ofNat 10), V.int IntKind.u8 (Int.ofNat 9)]
        T.leaf))
    ((T.leaf.node none
          ((T.leaf.node none
                (T.leaf.node none
                  (T.leaf.node none
                    (T.leaf.node none (T.leaf.node (some (O.cells (some 34) A.length A T.leaf)) T.leaf))))).node
            none T.leaf)).node
      none T.leaf))) = (((T.leaf.node
          (some
            (O.ro (some 0) 64
              [V.int IntKind.u8 (Int.ofNat 0), V.int IntKind.u8 (Int.ofNat 1), V.int IntKind.u8 (Int.ofNat 56),
                V.int IntKind.u8 (Int.ofNat 2), V.int IntKind.u8 (Int.ofNat 57), V.int IntKind.u8 (Int.ofNat 49),
                V.int IntKind.u8 (Int.ofNat 28), V.int IntKind.u8 (Int.ofNat 3), V.int IntKind.u8 (Int.ofNat 61),
                V.int IntKind.u8 (Int.ofNat 58), V.int IntKind.u8 (Int.ofNat 42), V.int IntKind.u8 (Int.ofNat 50),
                V.int IntKind.u8 (Int.ofNat 38), V.int IntKind.u8 (Int.ofNat 29), V.int IntKind.u8 (Int.ofNat 17),
                V.int IntKind.u8 (Int.ofNat 4), V.int IntKind.u8 (Int.ofNat 62), V.int IntKind.u8 (Int.ofNat 47),
                V.int IntKind.u8 (Int.ofNat 59), V.int IntKind.u8 (Int.ofNat 36), V.int IntKind.u8 (Int.ofNat 45),
                V.int IntKind.u8 (Int.ofNat 43), V.int IntKind.u8 (Int.ofNat 51), V.int IntKind.u8 (Int.ofNat 22),
                V.int IntKind.u8 (Int.ofNat 53), V.int IntKind.u8 (Int.ofNat 39), V.int IntKind.u8 (Int.ofNat 33),
                V.int IntKind.u8 (Int.ofNat 30), V.int IntKind.u8 (Int.ofNat 24), V.int IntKind.u8 (Int.ofNat 18),
                V.int IntKind.u8 (Int.ofNat 12), V.int IntKind.u8 (Int.ofNat 5), V.int IntKind.u8 (Int.ofNat 63),
                V.int IntKind.u8 (Int.ofNat 55), V.int IntKind.u8 (Int.ofNat 48), V.int IntKind.u8 (Int.ofNat 27),
                V.int IntKind.u8 (Int.ofNat 60), V.int IntKind.u8 (Int.ofNat 41), V.int IntKind.u8 (Int.ofNat 37),
                V.int IntKind.u8 (Int.ofNat 16), V.int IntKind.u8 (Int.ofNat 46), V.int IntKind.u8 (Int.ofNat 35),
                V.int IntKind.u8 (Int.ofNat 44), V.int IntKind.u8 (Int.ofNat 21), V.int IntKind.u8 (Int.ofNat 52),
                V.int IntKind.u8 (Int.ofNat 32), V.int IntKind.u8 (Int.ofNat 23), V.int IntKind.u8 (Int.ofNat 11),
                V.int IntKind.u8 (Int.ofNat 54), V.int IntKind.u8 (Int.ofNat 26), V.int IntKind.u8 (Int.ofNat 40),
                V.int IntKind.u8 (Int.ofNat 15), V.int IntKind.u8 (Int.ofNat 34), V.int IntKind.u8 (Int.ofNat 20),
                V.int IntKind.u8 (Int.ofNat 31), V.int IntKind.u8 (Int.ofNat 10), V.int IntKind.u8 (Int.ofNat 25),
                V.int IntKind.u8 (Int.ofNat 14), V.int IntKind.u8 (Int.ofNat 19), V.int IntKind.u8 (Int.ofNat 9),
                V.int IntKind.u8 (Int.ofNat 13), V.int IntKind.u8 (Int.ofNat 8), V.int IntKind.u8 (Int.ofNat 7),
                V.int IntKind.u8 (Int.ofNat 6)]
              T.leaf))
          (T.leaf.node none
            ((T.leaf.node none
                  (T.leaf.node none
                    (T.leaf.node none
                      (T.leaf.node none (T.leaf.node (some (O.cells (some 34) B.length B T.leaf)) T.leaf))))).node
              none T.leaf))).node
      (some
        (O.ro (some 0) 20
          [V.int IntKind.u64 (Int.ofNat 1), V.int IntKind.u64 (Int.ofNat 10), V.int IntKind.u64 (Int.ofNat 100),
            V.int IntKind.u64 (Int.ofNat 1000), V.int IntKind.u64 (Int.ofNat 10000),
            V.int IntKind.u64 (Int.ofNat 100000), V.int IntKind.u64 (Int.ofNat 1000000),
            V.int IntKind.u64 (Int.ofNat 10000000), V.int IntKind.u64 (Int.ofNat 100000000),
            V.int IntKind.u64 (Int.ofNat 1000000000), V.int IntKind.u64 (Int.ofNat 10000000000),
            V.int IntKind.u64 (Int.ofNat 100000000000), V.int IntKind.u64 (Int.ofNat 1000000000000),
            V.int IntKind.u64 (Int.ofNat 10000000000000), V.int IntKind.u64 (Int.ofNat 100000000000000),
            V.int IntKind.u64 (Int.ofNat 1000000000000000), V.int IntKind.u64 (Int.ofNat 10000000000000000),
            V.int IntKind.u64 (Int.ofNat 100000000000000000), V.int IntKind.u64 (Int.ofNat 1000000000000000000),
            V.int IntKind.u64 (Int.ofNat 10000000000000000000)]
          T.leaf))
      ((T.leaf.node none
            ((T.leaf.node none
                  (T.leaf.node none
                    (T.leaf.node none
                      (T.leaf.node none (T.leaf.node (some (O.cells (some 26) 10 l T.leaf)) T.leaf))))).node
              none T.leaf)).node
        none T.leaf)).node
  (some
    (O.ro (some 0) 4
      [V.int IntKind.u8 (Int.ofNat 0), V.int IntKind.u8 (Int.ofNat 111), V.int IntKind.u8 (Int.ofNat 108),
        V.int IntKind.u8 (Int.ofNat 102)]
      T.leaf))
  (T.leaf.node
    (some
      (O.ro (some 0) 32
        [V.int IntKind.u8 (Int.ofNat 0), V.int IntKind.u8 (Int.ofNat 1), V.int IntKind.u8 (Int.ofNat 28),
          V.int IntKind.u8 (Int.ofNat 2), V.int IntKind.u8 (Int.ofNat 29), V.int IntKind.u8 (Int.ofNat 14),
          V.int IntKind.u8 (Int.ofNat 24), V.int IntKind.u8 (Int.ofNat 3), V.int IntKind.u8 (Int.ofNat 30),
          V.int IntKind.u8 (Int.ofNat 22), V.int IntKind.u8 (Int.ofNat 20), V.int IntKind.u8 (Int.ofNat 15),
          V.int IntKind.u8 (Int.ofNat 25), V.int IntKind.u8 (Int.ofNat 17), V.int IntKind.u8 (Int.ofNat 4),
          V.int IntKind.u8 (Int.ofNat 8), V.int IntKind.u8 (Int.ofNat 31), V.int IntKind.u8 (Int.ofNat 27),
          V.int IntKind.u8 (Int.ofNat 13), V.int IntKind.u8 (Int.ofNat 23), V.int IntKind.u8 (Int.ofNat 21),
          V.int IntKind.u8 (Int.ofNat 19), V.int IntKind.u8 (Int.ofNat 16), V.int IntKind.u8 (Int.ofNat 7),
          V.int IntKind.u8 (Int.ofNat 26), V.int IntKind.u8 (Int.ofNat 12), V.int IntKind.u8 (Int.ofNat 18),
          V.int IntKind.u8 (Int.ofNat 6), V.int IntKind.u8 (Int.ofNat 11), V.int IntKind.u8 (Int.ofNat 5),
          V.int IntKind.u8 (Int.ofNat 10), V.int IntKind.u8 (Int.ofNat 9)]
        T.leaf))
    ((T.leaf.node none
          ((T.leaf.node none
                (T.leaf.node none
                  (T.leaf.node none
                    (T.leaf.node none (T.leaf.node (some (O.cells (some 34) A.length A T.leaf)) T.leaf))))).node
            none T.leaf)).node
      none T.leaf)))) ∧
     ((1010) = (1010)))))))) := by kernel_rfl
theorem w6 (n : Nat) (c : Cap) (h : H) : (evW GL sp 60 r6 none iScripts (S [(12, .slice 1003 0 n c), (9, bP)] h) (KV (inv n c (Int.ofNat 0)) h)) = (
((((some (V.ptr 1001 0)) = (some (V.ptr 1001 0))) ∧
  (((some (V.slice 1003 0 n c)) = (some (V.slice 1003 0 n c))) ∧
   (((some (V.int IntKind.i64 (Int.ofNat n))) = (some (V.int IntKind.i64 (Int.ofNat n)))) ∧
    (((some (V.int IntKind.i64 (Int.ofNat 0))) = (some (V.int IntKind.i64 (Int.ofNat 0)))) ∧
     (True))))) ∧
 (((93) = (93)) ∧
  ((true) = (true)))) ∧
((h) = (h))) := by kernel_rfl
theorem w7 (a b c d e f g h i j : Int) (B : List V) (n : Nat) (cc : Cap) (k : Nat) (E : Prop) : (evW GL sp 60 bd none iScripts (S (inv n cc (Int.ofNat k)) ⟨tM (cfgL a b c d e f g h i j) B, 1010⟩) (K7 n cc (Int.ofNat k) (cfgL a b c d e f g h i j) B E)) = (
(((ilt (Int.ofNat k) (Int.ofNat n)) = (true)) → ((false) = (false)) ∧
 (((ilt (Int.ofNat k) (Int.ofNat n)) = (true)) ∧
  ((∃ l, (ldL k (cfgL a b c d e f g h i j) B) = (some (V.agg 6 l T.leaf)) ∧ LK.shape [LK.int IntKind.i64, LK.int IntKind.i64, LK.int IntKind.i64, LK.int IntKind.i64, LK.int IntKind.i64, LK.str] l) ∧
   (∀ y0 : Int, ∀ y1 : Int, ∀ y2 : Int, ∀ y3 : Int, ∀ y4 : Int, ∀ y5 : List UInt8, ((ldL k (cfgL a b c d e f g h i j) B) = (some
  (V.agg 6
    ([] ++ [V.int IntKind.i64 y0] ++ [V.int IntKind.i64 y1] ++ [V.int IntKind.i64 y2] ++ [V.int IntKind.i64 y3] ++
        [V.int IntKind.i64 y4] ++
      [V.str y5])
    T.leaf))) → ((!(true && KB.goodB y0 y1 y2 y3 y4 y5)) = (false)) ∧
    (((!KB.inK y0) = (false)) ∧
     ((((KB.mutB y0) = (true)) → ((!ilt y1 b) = (false)) ∧
       (((E)) ∧
        (((((some (V.ptr 1001 0)) = (some (V.ptr 1001 0))) ∧
           (((some (V.slice 1003 0 n cc)) = (some (V.slice 1003 0 n cc))) ∧
            (((some (V.int IntKind.i64 (Int.ofNat n))) = (some (V.int IntKind.i64 (Int.ofNat n)))) ∧
             (((some (V.int IntKind.i64 (wr IntKind.i64 ((Int.ofNat k).add (Int.ofNat 1))))) = (some (V.int IntKind.i64 (wr IntKind.i64 ((Int.ofNat k).add (Int.ofNat 1)))))) ∧
              (True))))) ∧
          (((93) = (93)) ∧
           ((true) = (true)))) ∧
         (((some
  (O.cells (some 26) 10
    [V.int IntKind.i64 a, V.int IntKind.i64 b, V.int IntKind.i64 c, V.int IntKind.i64 d, V.int IntKind.i64 e,
      V.int IntKind.i64 f, V.int IntKind.i64 g, V.int IntKind.i64 h, V.int IntKind.i64 i, V.int IntKind.u32 j]
    T.leaf)) = (some
  (O.cells (some 26) 10
    [V.int IntKind.i64 a, V.int IntKind.i64 b, V.int IntKind.i64 c, V.int IntKind.i64 d, V.int IntKind.i64 e,
      V.int IntKind.i64 f, V.int IntKind.i64 g, V.int IntKind.i64 h, V.int IntKind.i64 i, V.int IntKind.u32 j]
    T.leaf))) ∧
          (((some (O.cells (some 34) B.length B T.leaf)) = (some (O.cells (some 34) B.length B T.leaf))) ∧
           ((true) = (true))))))) ∧
      (((KB.mutB y0) = (false)) → ((E)) ∧
       (((((some (V.ptr 1001 0)) = (some (V.ptr 1001 0))) ∧
          (((some (V.slice 1003 0 n cc)) = (some (V.slice 1003 0 n cc))) ∧
           (((some (V.int IntKind.i64 (Int.ofNat n))) = (some (V.int IntKind.i64 (Int.ofNat n)))) ∧
            (((some (V.int IntKind.i64 (wr IntKind.i64 ((Int.ofNat k).add (Int.ofNat 1))))) = (some (V.int IntKind.i64 (wr IntKind.i64 ((Int.ofNat k).add (Int.ofNat 1)))))) ∧
             (True))))) ∧
         (((93) = (93)) ∧
          ((true) = (true)))) ∧
        (((some
  (O.cells (some 26) 10
    [V.int IntKind.i64 a, V.int IntKind.i64 b, V.int IntKind.i64 c, V.int IntKind.i64 d, V.int IntKind.i64 e,
      V.int IntKind.i64 f, V.int IntKind.i64 g, V.int IntKind.i64 h, V.int IntKind.i64 i, V.int IntKind.u32 j]
    T.leaf)) = (some
  (O.cells (some 26) 10
    [V.int IntKind.i64 a, V.int IntKind.i64 b, V.int IntKind.i64 c, V.int IntKind.i64 d, V.int IntKind.i64 e,
      V.int IntKind.i64 f, V.int IntKind.i64 g, V.int IntKind.i64 h, V.int IntKind.i64 i, V.int IntKind.u32 j]
    T.leaf))) ∧
         (((some (O.cells (some 34) B.length B T.leaf)) = (some (O.cells (some 34) B.length B T.leaf))) ∧
          ((true) = (true)))))))))))) ∧
(((ilt (Int.ofNat k) (Int.ofNat n)) = (false)) → (((E)) → False) ∧
 (((true) = (true)) ∧
  (((((some (V.ptr 1001 0)) = (some (V.ptr 1001 0))) ∧
     (True)) ∧
    (((93) = (93)) ∧
     ((true) = (true)))) ∧
   (((true) = (true)) ∧
    ((1010) = (1010))))))) := by kernel_rfl
theorem w8  : (evW GL sp 60 x6 none iScripts (S [] ⟨varsT gs, 1010⟩) (fun x st => match x with | .ret => retIs (fun v => v = .bool true) st | _ => False)) = (
(V.bool true) = (V.bool true)) := by kernel_rfl
end LT
end Go.Proofs.YtjbpagfjpdinjaaGreatDoor

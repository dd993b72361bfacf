/- BoundBlocks: its code, part by part. -/
import Derived.Test.YtcbggkejlhifpaaGreatDoorBk2
import Derived.Test.YtcbggkejlhifpaaGreatDoorEvE
namespace Go.Proofs.YtcbggkejlhifpaaGreatDoor
set_option maxRecDepth 100000
set_option maxHeartbeats 4000000
open Go.Ev Go.RowKit
/-- the package-level variables that 'works' reads -/
def gLet : Nat := iLetters
def letters : List Nat := [0, 111, 108, 102]
noncomputable def gs : List (Nat × List V) := [(gLet, bytesV letters)]
noncomputable def roL (l : List (Nat × List V)) : List (Nat × O) := l.map fun p => (p.1, .ro (some 0) p.2.length p.2 .leaf)
theorem gs_lt : ∀ p, p ∈ gs → p.1 < 1000 := fun p hp => by
  simp only [gs, List.mem_cons, List.not_mem_nil, or_false] at hp
  subst hp
  show gLet < 1000; decide
theorem gs_pure : ∀ p, p ∈ gs → ∀ v, v ∈ p.2 → pureS v = true := fun p hp v hv => by
  simp only [gs, List.mem_cons, List.not_mem_nil, or_false] at hp
  subst hp
  simp only [bytesV, List.mem_map] at hv
  obtain ⟨n, _, rfl⟩ := hv
  rfl
/-- 'works', as it is known -/
noncomputable def kWorks : Known := (iWorks, fun args h => match args, Go.Ev.has h (roL gs) with
  | [], true => some (.bool true)
  | _, _ => .none)
noncomputable def GL : Γ := mkG Tryz.prog eqs rows (extL [kConf, kWorks])
namespace LB
noncomputable def fn : Func := match Tryz.prog.funcs[iBlocks]? with
  | some f => f
  | .none => default
noncomputable def code : Code := match fn.body with
  | some c => c
  | .none => .skip
noncomputable def r0 : Code := cFst code
noncomputable def x1 : Code := cSnd code
noncomputable def r1 : Code := cFst x1
noncomputable def x2 : Code := cSnd x1
noncomputable def r2 : Code := cFst x2
noncomputable def x3 : Code := cSnd x2
noncomputable def r3 : Code := cFst x3
noncomputable def x4 : Code := cSnd x3
noncomputable def z : Code := cFst x4
noncomputable def x12 : Code := cSnd x4
noncomputable def r4 : Code := cFst z
noncomputable def bl : Code := cSnd z
noncomputable def lp : Code := cFst bl
noncomputable def bd : Code := cFst lp
noncomputable def y5 : Code := cFst bd
noncomputable def y6 : Code := cSnd bd
noncomputable def yi : Code := cFst y6
noncomputable def y7 : Code := cSnd y6
noncomputable def yb : Code := cFst y7
noncomputable def r11 : Code := cSnd y7
noncomputable def ib : Code := match yb with
  | .block _ c => c
  | _ => .skip
noncomputable def r6 : Code := cFst ib
noncomputable def i1 : Code := cSnd ib
noncomputable def r7 : Code := cFst i1
noncomputable def i2 : Code := cSnd i1
noncomputable def y8 : Code := cFst i2
noncomputable def r10 : Code := cSnd i2
noncomputable def r12 : Code := cFst x12
noncomputable def x13 : Code := cSnd x12
noncomputable def r13 : Code := cFst x13
noncomputable def x14 : Code := cSnd x13
noncomputable def y14 : Code := cFst x14
noncomputable def x16 : Code := cSnd x14
noncomputable def r16 : Code := cFst x16
noncomputable def x17 : Code := cSnd x16
noncomputable def r17 : Code := cFst x17
noncomputable def x18 : Code := cSnd x17
noncomputable def r18 : Code := cFst x18
noncomputable def x19 : Code := cSnd x18
noncomputable def r19 : Code := cFst x19
noncomputable def x20 : Code := cSnd x19
noncomputable def r20 : Code := cFst x20
noncomputable def x21 : Code := cSnd x20
theorem isFn : Tryz.prog.funcs[iBlocks]? = some fn := by kernel_rfl
theorem body : fn.body = some code := by kernel_rfl
theorem tmps : fn.ntmps = 129 := by kernel_rfl
theorem cut : code = nest [r0, r1] x2 := by kernel_rfl
theorem cut2 : x2 = nest [r2, r3] x4 := by kernel_rfl
theorem q4 : x4 = .seq z x12 := by kernel_rfl
theorem q5 : z = .seq r4 bl := by kernel_rfl
theorem q6 : bl = .block 0 lp := by kernel_rfl
theorem q7 : lp = .loop bd := by kernel_rfl
theorem q8 : bd = nest [y5, yi] y7 := by kernel_rfl
theorem q9 : y7 = .seq yb r11 := by kernel_rfl
theorem q10 : yb = .block 1 ib := by kernel_rfl
theorem q11 : ib = nest [r6, r7, y8] r10 := by kernel_rfl
theorem q12 : x12 = .seq r12 x13 := by kernel_rfl
theorem q13 : x13 = .seq r13 x14 := by kernel_rfl
theorem q14 : x14 = nest [y14, r16, r17] x18 := by kernel_rfl
theorem q18 : x18 = .seq r18 x19 := by kernel_rfl
theorem q19 : x19 = .seq r19 x20 := by kernel_rfl
theorem q20 : x20 = .seq r20 x21 := by kernel_rfl
theorem q10r : r10 = .region 10 (cOps r10) false := by kernel_rfl
theorem q12r : r12 = .region 12 (cOps r12) false := by kernel_rfl
theorem q13r : r13 = .region 13 (cOps r13) false := by kernel_rfl
theorem q18r : r18 = .region 18 (cOps r18) false := by kernel_rfl
theorem q19r : r19 = .region 19 (cOps r19) false := by kernel_rfl
theorem q20r : r20 = .region 20 (cOps r20) false := by kernel_rfl
theorem q10n : (cOps r10).size = 7 := by kernel_rfl
theorem q12n : (cOps r12).size = 9 := by kernel_rfl
theorem q13n : (cOps r13).size = 13 := by kernel_rfl
theorem q18n : (cOps r18).size = 3 := by kernel_rfl
theorem q19n : (cOps r19).size = 5 := by kernel_rfl
theorem q20n : (cOps r20).size = 9 := by kernel_rfl
noncomputable def opAt (c : Code) (i : Nat) : Oper := match (cOps c)[i]? with
  | some o => o
  | .none => default
theorem p10 : (cOps r10)[4]? = some (opAt r10 4) := by kernel_rfl
theorem p10a : opsPart (cOps r10) 5 1 = [opAt r10 5] := by kernel_rfl
theorem p12 : (cOps r12)[3]? = some (opAt r12 3) := by kernel_rfl
theorem p13 : (cOps r13)[7]? = some (opAt r13 7) := by kernel_rfl
theorem p18 : (cOps r18)[1]? = some (opAt r18 1) := by kernel_rfl
theorem p19 : opsPart (cOps r19) 4 1 = [opAt r19 4] := by kernel_rfl
theorem p20 : (cOps r20)[3]? = some (opAt r20 3) := by kernel_rfl
theorem g10 : (opAt r10 4).guard = .none := by kernel_rfl
theorem g10a : (opAt r10 5).guard = .none := by kernel_rfl
theorem g12 : (opAt r12 3).guard = .none := by kernel_rfl
theorem g13 : (opAt r13 7).guard = .none := by kernel_rfl
theorem g18 : (opAt r18 1).guard = .none := by kernel_rfl
theorem g19 : (opAt r19 4).guard = .none := by kernel_rfl
theorem g20 : (opAt r20 3).guard = .none := by kernel_rfl
theorem d10 : (opAt r10 4).dst = some 49 := by kernel_rfl
theorem d10a : (opAt r10 5).dst = some 50 := by kernel_rfl
theorem d12 : (opAt r12 3).dst = some 56 := by kernel_rfl
theorem d13 : (opAt r13 7).dst = some 67 := by kernel_rfl
theorem d18 : (opAt r18 1).dst = some 106 := by kernel_rfl
theorem d19 : (opAt r19 4).dst = .none := by kernel_rfl
theorem d20 : (opAt r20 3).dst = some 115 := by kernel_rfl
theorem hop (env : Env) : act G0 env.get (opAt r10 5).op = .ef (fun h => fAppend G0 (G0.ty tOps) (G0.ty tOps) h (env.get (.tmp 45)) (env.get (.tmp 49))) := by kernel_rfl
theorem ok0 : [r0, r1].all okC = true := by kernel_rfl
theorem ok2 : [r2, r3].all okC = true := by kernel_rfl
theorem ok4 : okC r4 = true := by kernel_rfl
theorem ok5 : [y5, yi].all okC = true := by kernel_rfl
theorem ok6 : [r6, r7, y8].all okC = true := by kernel_rfl
theorem ok11 : okC r11 = true := by kernel_rfl
theorem ok14 : [y14, r16, r17].all okC = true := by kernel_rfl
theorem ok21 : okC x21 = true := by kernel_rfl
noncomputable def tyS : TY := match G0.ty tOps with
  | some t => t
  | none => ⟨.slice 0, 0, false, none, #[]⟩
noncomputable def tyE : TY := match G0.ty tOp with
  | some t => t
  | none => ⟨.slice 0, 0, false, none, #[]⟩
theorem t1 : G0.ty tOps = some tyS := by kernel_rfl
theorem t2 : tyS.desc = .slice tOp := by kernel_rfl
theorem t3 : G0.ty tOp = some tyE := by kernel_rfl
theorem t5 : isInt tyS.desc = some false := by kernel_rfl
theorem t6 : tyE.size = 6 := by kernel_rfl
abbrev mixK : List LK := [.int .u8, .int .u8, .int .u8, .int .u8, .int .u8]
noncomputable def sp : SpF where
  at' := fun f t => match Nat.beq f iBlocks, t with
    | true, 33 => .both | true, 40 => .both | true, 43 => .idx | true, 44 => .ldA mixK | true, 92 => .idx | true, 94 => .ldI .i64 | true, 95 => .both | true, 99 => .idx | true, 101 => .ldI .i64 | true, 121 => .is true | _, _ => .keep
noncomputable def S (l : List (Nat × V)) (h : H) : St := ⟨envL 129 l, h, []⟩
abbrev roM (A : List V) : O := .ro none A.length A .leaf
noncomputable def tA (o : Option O) : T O := T.put (varsT gs) 1000 o
noncomputable def hA (o : Option O) : H := ⟨tA o, 1001⟩
abbrev boxO (l : List V) : O := .cells (some tCfg) 10 l .leaf
abbrev cfgL (a b c d e f g h i j : Int) : List V := [.int .i64 a, .int .i64 b, .int .i64 c, .int .i64 d, .int .i64 e, .int .i64 f, .int .i64 g, .int .i64 h, .int .i64 i, .int .u32 j]
noncomputable def tB (o : Option O) (l : List V) : T O := T.put (tA o) 1002 (some (boxO l))
abbrev rowO (L : List V) : O := .cells (some tOp) L.length L .leaf
noncomputable def tR (o : Option O) (l R : List V) : T O := T.put (tB o l) 1003 (some (rowO R))
noncomputable def tX (t : T O) (M : List V) : T O := T.put t 1010 (some (.cells (some tMix) 5 M .leaf))
noncomputable def hasS (l : List (Nat × V)) (st : St) : Prop := hasT st.env l ∧ st.env.sz = 129 ∧ noDefs st.defs = true
noncomputable def retIs (Q : V → Prop) (st : St) : Prop := match takeAll st.defs st.h with
  | some h2 => match resultsO G0 h2 st.env fn with
    | some v => Q v
    | .none => False
  | .none => False
abbrev bP : V := .ptr 1002 0
abbrev u (p : Nat) : V := .int .u8 (Int.ofNat p)
abbrev z0 : V := .int .i64 (Int.ofNat 0)
noncomputable def mixX (o : Option O) : Option (List V) := match o with
  | some (.cells (some e) n pat tr) => match Nat.beq e tMix, Nat.beq n 5, cell 5 pat tr 0, cell 5 pat tr 1, cell 5 pat tr 2, cell 5 pat tr 3, cell 5 pat tr 4 with
    | true, true, some a, some b, some c, some d, some e => some [a, b, c, d, e]
    | _, _, _, _, _, _, _ => .none
  | _ => .none
noncomputable def KA (l : List (Nat × V)) (o : Option O) (L : List V) (x : X) (st : St) : Prop := match x with
  | .normal => hasS l st ∧ st.h.next = 1003 ∧ st.h.tr.get 1002 = some (boxO L) ∧ st.h.tr.get 1000 = o ∧ Go.Ev.has st.h (roL gs) = true
  | _ => False
noncomputable def KE (l : List (Nat × V)) (h : H) (env : Env) (h' : H) : Prop := hasT env l ∧ env.sz = 129 ∧ eqH h' h
noncomputable def KH (l : List (Nat × V)) (h : H) (env : Env) (h' : H) : Prop := hasT env l ∧ env.sz = 129 ∧ h' = h
noncomputable def KN (l : List (Nat × V)) (h : H) (x : X) (st : St) : Prop := match x with
  | .normal => hasS l st ∧ eqH st.h h
  | _ => False
noncomputable def KV (l : List (Nat × V)) (h : H) (x : X) (st : St) : Prop := match x with
  | .normal => hasS l st ∧ st.h = h
  | _ => False
noncomputable def KX (l : List (Nat × V)) (h : H) (E : Prop) (x : X) (st : St) : Prop := match x with
  | .normal => E ∧ hasS l st ∧ st.h = h
  | .exit k => (E → False) ∧ Nat.beq k 0 = true ∧ hasS l st ∧ st.h = h
  | _ => False
/-- how many blocks -/
abbrev nB (n : Nat) : Int := wr .i64 (Int.add (Int.ofNat 3) (FR.mn (Int.ofNat n) (Int.ofNat 20)))
noncomputable def hd (l : V) (t q : Nat) : List (Nat × V) := [(1, l), (2, u t), (3, u q), (9, bP)]
noncomputable def inv (l : V) (t q : Nat) (w : Int) (r : V) (n i : Int) : List (Nat × V) := [(11, r), (10, .int .i64 w), (31, .int .i64 n), (32, .int .i64 i)] ++ hd l t q
noncomputable def K6 (l : List (Nat × V)) (T : Option (List V) → Prop) (o r : Option O) (cf : List V) (x : X) (st : St) : Prop := match x with
  | .normal => T (mixX (st.h.tr.get 1010)) ∧ hasS ((13, .ptr 1010 0) :: l) st ∧ st.h.next = 1011 ∧ st.h.tr.get 1002 = some (boxO cf) ∧ st.h.tr.get 1000 = o ∧ (match r with
    | some x => st.h.tr.get 1003 = some x
    | .none => True) ∧ Go.Ev.has st.h (roL gs) = true
  | _ => False
/-- memory when the mix's box is new -/
noncomputable def tZ (t : T O) : T O := T.put t 1010 (some (.cells (some tMix) 5 [.int .u8 (Int.ofNat 0), .int .u8 (Int.ofNat 0), .int .u8 (Int.ofNat 0), .int .u8 (Int.ofNat 0), .int .u8 (Int.ofNat 0)] (T.node .leaf (some (.int .u8 (Int.ofNat 7))) .leaf)))
noncomputable def ldM (t : T O) (k : Nat) : Option V := rLoad (G0.ty tMix) ⟨tZ t, 1011⟩ (some (.ptr 1000 (Nat.add 0 (Nat.mul k 5))))
abbrev cT : CallK := callTW GL sp.kx sp.must (evW GL sp 60)
theorem act10 (c m r l : V) (t q : Nat) (w n i : Int) : act GL (envL 129 ([(45, r), (46, c), (47, m), (48, u t)] ++ inv l t q w r n i)).get (opAt r10 4).op = .call (some (.fn iBlock [c, m, u t])) := by kernel_rfl
theorem wA (a b c d e f g i : Int) (l : V) (o : Option O) (t q : Nat) : (evL GL sp 60 iBlocks [r0, r1] (KA (hd l t q) o (cfgL (up a 12) (up b 2) (up c 4) (up d 4) (up e 4) (up f 6) (up (wr .u8 (Int.tdiv f (Int.ofNat 6))) 3) (up g 5) (capF g i) (firstF i))) (S [(0, n8 a b c d e f g i), (1, l), (2, u t), (3, u q)] (hA o))) = (
((((some l) = (some l)) ∧
  (((some (V.int IntKind.u8 (Int.ofNat t))) = (some (V.int IntKind.u8 (Int.ofNat t)))) ∧
   (((some (V.int IntKind.u8 (Int.ofNat q))) = (some (V.int IntKind.u8 (Int.ofNat q)))) ∧
    (((some (V.ptr 1002 0)) = (some (V.ptr 1002 0))) ∧
     (True))))) ∧
 (((129) = (129)) ∧
  ((true) = (true)))) ∧
(((1003) = (1003)) ∧
 (((some
  (O.cells (some 26) 10
    [V.int IntKind.i64 (up a 12), V.int IntKind.i64 (up b 2), V.int IntKind.i64 (up c 4), V.int IntKind.i64 (up d 4),
      V.int IntKind.i64 (up e 4), V.int IntKind.i64 (up f 6),
      V.int IntKind.i64 (up (wr IntKind.u8 (f.tdiv (Int.ofNat 6))) 3), V.int IntKind.i64 (up g 5),
      V.int IntKind.i64 (capF g i), V.int IntKind.u32 (firstF i)]
    T.leaf)) = (some
  (O.cells (some 26) 10
    [V.int IntKind.i64 (up a 12), V.int IntKind.i64 (up b 2), V.int IntKind.i64 (up c 4), V.int IntKind.i64 (up d 4),
      V.int IntKind.i64 (up e 4), V.int IntKind.i64 (up f 6),
      V.int IntKind.i64 (up (wr IntKind.u8 (f.tdiv (Int.ofNat 6))) 3), V.int IntKind.i64 (up g 5),
      V.int IntKind.i64 (capF g i), V.int IntKind.u32 (firstF i)]
    T.leaf))) ∧
  (((o) = (o)) ∧
   ((true) = (true)))))) := by kernel_rfl
theorem w2 (a b c d e f g h i j : Int) (l : V) (o : Option O) (t q : Nat) : (evL GL sp 60 iBlocks [r2, r3] (KN ([(11, .nils), (10, .int .i64 (wr .i64 (Int.add b (Int.ofNat 5))))] ++ hd l t q) ⟨tB o (cfgL a b c d e f g h i j), 1010⟩) (S (hd l t q) ⟨tB o (cfgL a b c d e f g h i j), 1010⟩)) = (
((((some V.nils) = (some V.nils)) ∧
  (((some (V.int IntKind.i64 (wr IntKind.i64 (b.add (Int.ofNat 5))))) = (some (V.int IntKind.i64 (wr IntKind.i64 (b.add (Int.ofNat 5)))))) ∧
   (((some l) = (some l)) ∧
    (((some (V.int IntKind.u8 (Int.ofNat t))) = (some (V.int IntKind.u8 (Int.ofNat t)))) ∧
     (((some (V.int IntKind.u8 (Int.ofNat q))) = (some (V.int IntKind.u8 (Int.ofNat q)))) ∧
      (((some (V.ptr 1002 0)) = (some (V.ptr 1002 0))) ∧
       (True))))))) ∧
 (((129) = (129)) ∧
  ((true) = (true)))) ∧
(((T.leaf.node
  (some
    (O.ro (some 0) 4
      [V.int IntKind.u8 (Int.ofNat 0), V.int IntKind.u8 (Int.ofNat 111), V.int IntKind.u8 (Int.ofNat 108),
        V.int IntKind.u8 (Int.ofNat 102)]
      T.leaf))
  (((T.leaf.node none
            ((T.leaf.node none (T.leaf.node none (T.leaf.node none (T.leaf.node none (T.leaf.node o T.leaf))))).node
              none T.leaf)).node
        none T.leaf).node
    none
    ((T.leaf.node none
          ((T.leaf.node none
                (T.leaf.node none
                  (T.leaf.node none
                    (T.leaf.node none
                      (T.leaf.node
                        (some
                          (O.cells (some 26) 10
                            [V.int IntKind.i64 a, V.int IntKind.i64 b, V.int IntKind.i64 c, V.int IntKind.i64 d,
                              V.int IntKind.i64 e, V.int IntKind.i64 f, V.int IntKind.i64 g, V.int IntKind.i64 h,
                              V.int IntKind.i64 i, V.int IntKind.u32 j]
                            T.leaf))
                        T.leaf))))).node
            none T.leaf)).node
      none T.leaf))) = (T.leaf.node
  (some
    (O.ro (some 0) 4
      [V.int IntKind.u8 (Int.ofNat 0), V.int IntKind.u8 (Int.ofNat 111), V.int IntKind.u8 (Int.ofNat 108),
        V.int IntKind.u8 (Int.ofNat 102)]
      T.leaf))
  (((T.leaf.node none
            ((T.leaf.node none (T.leaf.node none (T.leaf.node none (T.leaf.node none (T.leaf.node o T.leaf))))).node
              none T.leaf)).node
        none T.leaf).node
    none
    ((T.leaf.node none
          ((T.leaf.node none
                (T.leaf.node none
                  (T.leaf.node none
                    (T.leaf.node none
                      (T.leaf.node
                        (some
                          (O.cells (some 26) 10
                            [V.int IntKind.i64 a, V.int IntKind.i64 b, V.int IntKind.i64 c, V.int IntKind.i64 d,
                              V.int IntKind.i64 e, V.int IntKind.i64 f, V.int IntKind.i64 g, V.int IntKind.i64 h,
                              V.int IntKind.i64 i, V.int IntKind.u32 j]
                            T.leaf))
                        T.leaf))))).node
            none T.leaf)).node
      none T.leaf)))) ∧
 ((1010) = (1010)))) := by kernel_rfl
theorem w4S (b n : Nat) (cc : Cap) (t q : Nat) (w : Int) (h : H) : (evW GL sp 60 r4 none iBlocks (S ([(11, .nils), (10, .int .i64 w)] ++ hd (.slice b 0 n cc) t q) h) (KV (inv (.slice b 0 n cc) t q w .nils (nB n) (Int.ofNat 0)) h)) = (
((((some V.nils) = (some V.nils)) ∧
  (((some (V.int IntKind.i64 w)) = (some (V.int IntKind.i64 w))) ∧
   (((some
  (V.int IntKind.i64
    (wr IntKind.i64
      ((Int.ofNat 3).add
        (match ilt (Int.ofNat 20) (Int.ofNat n) with
        | true => 20
        | false => Int.ofNat n))))) = (some
  (V.int IntKind.i64
    (wr IntKind.i64
      ((Int.ofNat 3).add
        (match ilt (Int.ofNat 20) (Int.ofNat n) with
        | true => Int.ofNat 20
        | false => Int.ofNat n)))))) ∧
    (((some (V.int IntKind.i64 (Int.ofNat 0))) = (some (V.int IntKind.i64 (Int.ofNat 0)))) ∧
     (((some (V.slice b 0 n cc)) = (some (V.slice b 0 n cc))) ∧
      (((some (V.int IntKind.u8 (Int.ofNat t))) = (some (V.int IntKind.u8 (Int.ofNat t)))) ∧
       (((some (V.int IntKind.u8 (Int.ofNat q))) = (some (V.int IntKind.u8 (Int.ofNat q)))) ∧
        (((some (V.ptr 1002 0)) = (some (V.ptr 1002 0))) ∧
         (True))))))))) ∧
 (((129) = (129)) ∧
  ((true) = (true)))) ∧
((h) = (h))) := by kernel_rfl
theorem w4N (t q : Nat) (w : Int) (h : H) : (evW GL sp 60 r4 none iBlocks (S ([(11, .nils), (10, .int .i64 w)] ++ hd .nils t q) h) (KV (inv .nils t q w .nils (Int.ofNat 3) (Int.ofNat 0)) h)) = (
((((some V.nils) = (some V.nils)) ∧
  (((some (V.int IntKind.i64 w)) = (some (V.int IntKind.i64 w))) ∧
   (((some (V.int IntKind.i64 (wr IntKind.i64 ((Int.ofNat 3).add (Int.ofNat 0))))) = (some (V.int IntKind.i64 (Int.ofNat 3)))) ∧
    (((some (V.int IntKind.i64 (Int.ofNat 0))) = (some (V.int IntKind.i64 (Int.ofNat 0)))) ∧
     (((some V.nils) = (some V.nils)) ∧
      (((some (V.int IntKind.u8 (Int.ofNat t))) = (some (V.int IntKind.u8 (Int.ofNat t)))) ∧
       (((some (V.int IntKind.u8 (Int.ofNat q))) = (some (V.int IntKind.u8 (Int.ofNat q)))) ∧
        (((some (V.ptr 1002 0)) = (some (V.ptr 1002 0))) ∧
         (True))))))))) ∧
 (((129) = (129)) ∧
  ((true) = (true)))) ∧
((h) = (h))) := by kernel_rfl
theorem w5 (l r : V) (t q : Nat) (w n i : Int) (h : H) (E : Prop) : (evL GL sp 60 iBlocks [y5, yi] (KX (inv l t q w r n i) h E) (S (inv l t q w r n i) h)) = (
(((ilt i n) = (true)) → ((E)) ∧
 (((((some r) = (some r)) ∧
    (((some (V.int IntKind.i64 w)) = (some (V.int IntKind.i64 w))) ∧
     (((some (V.int IntKind.i64 n)) = (some (V.int IntKind.i64 n))) ∧
      (((some (V.int IntKind.i64 i)) = (some (V.int IntKind.i64 i))) ∧
       (((some l) = (some l)) ∧
        (((some (V.int IntKind.u8 (Int.ofNat t))) = (some (V.int IntKind.u8 (Int.ofNat t)))) ∧
         (((some (V.int IntKind.u8 (Int.ofNat q))) = (some (V.int IntKind.u8 (Int.ofNat q)))) ∧
          (((some (V.ptr 1002 0)) = (some (V.ptr 1002 0))) ∧
           (True))))))))) ∧
   (((129) = (129)) ∧
    ((true) = (true)))) ∧
  ((h) = (h)))) ∧
(((ilt i n) = (false)) → (((E)) → False) ∧
 (((true) = (true)) ∧
  (((((some r) = (some r)) ∧
     (((some (V.int IntKind.i64 w)) = (some (V.int IntKind.i64 w))) ∧
      (((some (V.int IntKind.i64 n)) = (some (V.int IntKind.i64 n))) ∧
       (((some (V.int IntKind.i64 i)) = (some (V.int IntKind.i64 i))) ∧
        (((some l) = (some l)) ∧
         (((some (V.int IntKind.u8 (Int.ofNat t))) = (some (V.int IntKind.u8 (Int.ofNat t)))) ∧
          (((some (V.int IntKind.u8 (Int.ofNat q))) = (some (V.int IntKind.u8 (Int.ofNat q)))) ∧
           (((some (V.ptr 1002 0)) = (some (V.ptr 1002 0))) ∧
            (True))))))))) ∧
    (((129) = (129)) ∧
     ((true) = (true)))) ∧
   ((h) = (h)))))) := by kernel_rfl
theorem w11 (l r : V) (t q : Nat) (w n i : Int) (h : H) : (evW GL sp 60 r11 none iBlocks (S (inv l t q w r n i) h) (KV (inv l t q w r n (wr .i64 (Int.add i (Int.ofNat 1)))) h)) = (
((((some r) = (some r)) ∧
  (((some (V.int IntKind.i64 w)) = (some (V.int IntKind.i64 w))) ∧
   (((some (V.int IntKind.i64 n)) = (some (V.int IntKind.i64 n))) ∧
    (((some (V.int IntKind.i64 (wr IntKind.i64 (i.add (Int.ofNat 1))))) = (some (V.int IntKind.i64 (wr IntKind.i64 (i.add (Int.ofNat 1)))))) ∧
     (((some l) = (some l)) ∧
      (((some (V.int IntKind.u8 (Int.ofNat t))) = (some (V.int IntKind.u8 (Int.ofNat t)))) ∧
       (((some (V.int IntKind.u8 (Int.ofNat q))) = (some (V.int IntKind.u8 (Int.ofNat q)))) ∧
        (((some (V.ptr 1002 0)) = (some (V.ptr 1002 0))) ∧
         (True))))))))) ∧
 (((129) = (129)) ∧
  ((true) = (true)))) ∧
((h) = (h))) := by kernel_rfl
theorem w10c (l r r2 : V) (t q : Nat) (w n i : Int) (h : H) : (regW GL sp cT iBlocks (cOps r10) (opsPart (cOps r10) 6 1) (envL 129 ((50, r2) :: inv l t q w r n i)) h (KH (inv l t q w r2 n i) h)) = (
(((some r2) = (some r2)) ∧
 (((some (V.int IntKind.i64 w)) = (some (V.int IntKind.i64 w))) ∧
  (((some (V.int IntKind.i64 n)) = (some (V.int IntKind.i64 n))) ∧
   (((some (V.int IntKind.i64 i)) = (some (V.int IntKind.i64 i))) ∧
    (((some l) = (some l)) ∧
     (((some (V.int IntKind.u8 (Int.ofNat t))) = (some (V.int IntKind.u8 (Int.ofNat t)))) ∧
      (((some (V.int IntKind.u8 (Int.ofNat q))) = (some (V.int IntKind.u8 (Int.ofNat q)))) ∧
       (((some (V.ptr 1002 0)) = (some (V.ptr 1002 0))) ∧
        (True))))))))) ∧
(((129) = (129)) ∧
 ((h) = (h)))) := by kernel_rfl
theorem w10F (a b c d e f g h i j : Int) (k m x y z : Int) (o : Option O) (l r : V) (t q : Nat) (w n ii : Int) : (regW GL sp cT iBlocks (cOps r10) (opsPart (cOps r10) 0 4) (envL 129 ((13, .ptr 1010 0) :: inv l t q w r n ii)) ⟨tX (tB o (cfgL a b c d e f g h i j)) [.int .u8 k, .int .u8 m, .int .u8 x, .int .u8 y, .int .u8 z], 1020⟩ (KE ([(45, r), (46, cfgV a b c d e f g h i j), (47, mixV k m x y z), (48, u t)] ++ inv l t q w r n ii) ⟨tX (tB o (cfgL a b c d e f g h i j)) [.int .u8 k, .int .u8 m, .int .u8 x, .int .u8 y, .int .u8 z], 1020⟩)) = (
(((some r) = (some r)) ∧
 (((some
  (V.agg 10
    [V.int IntKind.i64 a, V.int IntKind.i64 b, V.int IntKind.i64 c, V.int IntKind.i64 d, V.int IntKind.i64 e,
      V.int IntKind.i64 f, V.int IntKind.i64 g, V.int IntKind.i64 h, V.int IntKind.i64 i, V.int IntKind.u32 j]
    T.leaf)) = (some
  (V.agg 10
    [V.int IntKind.i64 a, V.int IntKind.i64 b, V.int IntKind.i64 c, V.int IntKind.i64 d, V.int IntKind.i64 e,
      V.int IntKind.i64 f, V.int IntKind.i64 g, V.int IntKind.i64 h, V.int IntKind.i64 i, V.int IntKind.u32 j]
    T.leaf))) ∧
  (((some
  (V.agg 5 [V.int IntKind.u8 k, V.int IntKind.u8 m, V.int IntKind.u8 x, V.int IntKind.u8 y, V.int IntKind.u8 z] T.leaf)) = (some
  (V.agg 5 [V.int IntKind.u8 k, V.int IntKind.u8 m, V.int IntKind.u8 x, V.int IntKind.u8 y, V.int IntKind.u8 z] T.leaf))) ∧
   (((some (V.int IntKind.u8 (Int.ofNat t))) = (some (V.int IntKind.u8 (Int.ofNat t)))) ∧
    (((some r) = (some r)) ∧
     (((some (V.int IntKind.i64 w)) = (some (V.int IntKind.i64 w))) ∧
      (((some (V.int IntKind.i64 n)) = (some (V.int IntKind.i64 n))) ∧
       (((some (V.int IntKind.i64 ii)) = (some (V.int IntKind.i64 ii))) ∧
        (((some l) = (some l)) ∧
         (((some (V.int IntKind.u8 (Int.ofNat t))) = (some (V.int IntKind.u8 (Int.ofNat t)))) ∧
          (((some (V.int IntKind.u8 (Int.ofNat q))) = (some (V.int IntKind.u8 (Int.ofNat q)))) ∧
           (((some (V.ptr 1002 0)) = (some (V.ptr 1002 0))) ∧
            (True))))))))))))) ∧
(((129) = (129)) ∧
 (((T.leaf.node
  (some
    (O.ro (some 0) 4
      [V.int IntKind.u8 (Int.ofNat 0), V.int IntKind.u8 (Int.ofNat 111), V.int IntKind.u8 (Int.ofNat 108),
        V.int IntKind.u8 (Int.ofNat 102)]
      T.leaf))
  (((T.leaf.node none
            ((T.leaf.node none (T.leaf.node none (T.leaf.node none (T.leaf.node none (T.leaf.node o T.leaf))))).node
              none T.leaf)).node
        none T.leaf).node
    none
    (((T.leaf.node none
              (T.leaf.node none
                (T.leaf.node none
                  (T.leaf.node none
                    (T.leaf.node none
                      (T.leaf.node
                        (some
                          (O.cells (some 30) 5
                            [V.int IntKind.u8 k, V.int IntKind.u8 m, V.int IntKind.u8 x, V.int IntKind.u8 y,
                              V.int IntKind.u8 z]
                            T.leaf))
                        T.leaf)))))).node
          none
          ((T.leaf.node none
                (T.leaf.node none
                  (T.leaf.node none
                    (T.leaf.node none
                      (T.leaf.node
                        (some
                          (O.cells (some 26) 10
                            [V.int IntKind.i64 a, V.int IntKind.i64 b, V.int IntKind.i64 c, V.int IntKind.i64 d,
                              V.int IntKind.i64 e, V.int IntKind.i64 f, V.int IntKind.i64 g, V.int IntKind.i64 h,
                              V.int IntKind.i64 i, V.int IntKind.u32 j]
                            T.leaf))
                        T.leaf))))).node
            none T.leaf)).node
      none T.leaf))) = (T.leaf.node
  (some
    (O.ro (some 0) 4
      [V.int IntKind.u8 (Int.ofNat 0), V.int IntKind.u8 (Int.ofNat 111), V.int IntKind.u8 (Int.ofNat 108),
        V.int IntKind.u8 (Int.ofNat 102)]
      T.leaf))
  (((T.leaf.node none
            ((T.leaf.node none (T.leaf.node none (T.leaf.node none (T.leaf.node none (T.leaf.node o T.leaf))))).node
              none T.leaf)).node
        none T.leaf).node
    none
    (((T.leaf.node none
              (T.leaf.node none
                (T.leaf.node none
                  (T.leaf.node none
                    (T.leaf.node none
                      (T.leaf.node
                        (some
                          (O.cells (some 30) 5
                            [V.int IntKind.u8 k, V.int IntKind.u8 m, V.int IntKind.u8 x, V.int IntKind.u8 y,
                              V.int IntKind.u8 z]
                            T.leaf))
                        T.leaf)))))).node
          none
          ((T.leaf.node none
                (T.leaf.node none
                  (T.leaf.node none
                    (T.leaf.node none
                      (T.leaf.node
                        (some
                          (O.cells (some 26) 10
                            [V.int IntKind.i64 a, V.int IntKind.i64 b, V.int IntKind.i64 c, V.int IntKind.i64 d,
                              V.int IntKind.i64 e, V.int IntKind.i64 f, V.int IntKind.i64 g, V.int IntKind.i64 h,
                              V.int IntKind.i64 i, V.int IntKind.u32 j]
                            T.leaf))
                        T.leaf))))).node
            none T.leaf)).node
      none T.leaf)))) ∧
  ((1020) = (1020))))) := by kernel_rfl
theorem w10W (a b c d e f g h i j : Int) (k m x y z : Int) (o : Option O) (R : List V) (l r : V) (t q : Nat) (w n ii : Int) : (regW GL sp cT iBlocks (cOps r10) (opsPart (cOps r10) 0 4) (envL 129 ((13, .ptr 1010 0) :: inv l t q w r n ii)) ⟨tX (tR o (cfgL a b c d e f g h i j) R) [.int .u8 k, .int .u8 m, .int .u8 x, .int .u8 y, .int .u8 z], 1020⟩ (KE ([(45, r), (46, cfgV a b c d e f g h i j), (47, mixV k m x y z), (48, u t)] ++ inv l t q w r n ii) ⟨tX (tR o (cfgL a b c d e f g h i j) R) [.int .u8 k, .int .u8 m, .int .u8 x, .int .u8 y, .int .u8 z], 1020⟩)) = (
(((some r) = (some r)) ∧
 (((some
  (V.agg 10
    [V.int IntKind.i64 a, V.int IntKind.i64 b, V.int IntKind.i64 c, V.int IntKind.i64 d, V.int IntKind.i64 e,
      V.int IntKind.i64 f, V.int IntKind.i64 g, V.int IntKind.i64 h, V.int IntKind.i64 i, V.int IntKind.u32 j]
    T.leaf)) = (some
  (V.agg 10
    [V.int IntKind.i64 a, V.int IntKind.i64 b, V.int IntKind.i64 c, V.int IntKind.i64 d, V.int IntKind.i64 e,
      V.int IntKind.i64 f, V.int IntKind.i64 g, V.int IntKind.i64 h, V.int IntKind.i64 i, V.int IntKind.u32 j]
    T.leaf))) ∧
  (((some
  (V.agg 5 [V.int IntKind.u8 k, V.int IntKind.u8 m, V.int IntKind.u8 x, V.int IntKind.u8 y, V.int IntKind.u8 z] T.leaf)) = (some
  (V.agg 5 [V.int IntKind.u8 k, V.int IntKind.u8 m, V.int IntKind.u8 x, V.int IntKind.u8 y, V.int IntKind.u8 z] T.leaf))) ∧
   (((some (V.int IntKind.u8 (Int.ofNat t))) = (some (V.int IntKind.u8 (Int.ofNat t)))) ∧
    (((some r) = (some r)) ∧
     (((some (V.int IntKind.i64 w)) = (some (V.int IntKind.i64 w))) ∧
      (((some (V.int IntKind.i64 n)) = (some (V.int IntKind.i64 n))) ∧
       (((some (V.int IntKind.i64 ii)) = (some (V.int IntKind.i64 ii))) ∧
        (((some l) = (some l)) ∧
         (((some (V.int IntKind.u8 (Int.ofNat t))) = (some (V.int IntKind.u8 (Int.ofNat t)))) ∧
          (((some (V.int IntKind.u8 (Int.ofNat q))) = (some (V.int IntKind.u8 (Int.ofNat q)))) ∧
           (((some (V.ptr 1002 0)) = (some (V.ptr 1002 0))) ∧
            (True))))))))))))) ∧
(((129) = (129)) ∧
 (((((T.leaf.node none
          (T.leaf.node none
            ((T.leaf.node none
                  (T.leaf.node none
                    (T.leaf.node none
                      (T.leaf.node none (T.leaf.node (some (O.cells (some 36) R.length R T.leaf)) T.leaf))))).node
              none T.leaf))).node
      none T.leaf).node
  (some
    (O.ro (some 0) 4
      [V.int IntKind.u8 (Int.ofNat 0), V.int IntKind.u8 (Int.ofNat 111), V.int IntKind.u8 (Int.ofNat 108),
        V.int IntKind.u8 (Int.ofNat 102)]
      T.leaf))
  (((T.leaf.node none
            ((T.leaf.node none (T.leaf.node none (T.leaf.node none (T.leaf.node none (T.leaf.node o T.leaf))))).node
              none T.leaf)).node
        none T.leaf).node
    none
    (((T.leaf.node none
              (T.leaf.node none
                (T.leaf.node none
                  (T.leaf.node none
                    (T.leaf.node none
                      (T.leaf.node
                        (some
                          (O.cells (some 30) 5
                            [V.int IntKind.u8 k, V.int IntKind.u8 m, V.int IntKind.u8 x, V.int IntKind.u8 y,
                              V.int IntKind.u8 z]
                            T.leaf))
                        T.leaf)))))).node
          none
          ((T.leaf.node none
                (T.leaf.node none
                  (T.leaf.node none
                    (T.leaf.node none
                      (T.leaf.node
                        (some
                          (O.cells (some 26) 10
                            [V.int IntKind.i64 a, V.int IntKind.i64 b, V.int IntKind.i64 c, V.int IntKind.i64 d,
                              V.int IntKind.i64 e, V.int IntKind.i64 f, V.int IntKind.i64 g, V.int IntKind.i64 h,
                              V.int IntKind.i64 i, V.int IntKind.u32 j]
                            T.leaf))
                        T.leaf))))).node
            none T.leaf)).node
      none T.leaf))) = (((T.leaf.node none
          (T.leaf.node none
            ((T.leaf.node none
                  (T.leaf.node none
                    (T.leaf.node none
                      (T.leaf.node none (T.leaf.node (some (O.cells (some 36) R.length R T.leaf)) T.leaf))))).node
              none T.leaf))).node
      none T.leaf).node
  (some
    (O.ro (some 0) 4
      [V.int IntKind.u8 (Int.ofNat 0), V.int IntKind.u8 (Int.ofNat 111), V.int IntKind.u8 (Int.ofNat 108),
        V.int IntKind.u8 (Int.ofNat 102)]
      T.leaf))
  (((T.leaf.node none
            ((T.leaf.node none (T.leaf.node none (T.leaf.node none (T.leaf.node none (T.leaf.node o T.leaf))))).node
              none T.leaf)).node
        none T.leaf).node
    none
    (((T.leaf.node none
              (T.leaf.node none
                (T.leaf.node none
                  (T.leaf.node none
                    (T.leaf.node none
                      (T.leaf.node
                        (some
                          (O.cells (some 30) 5
                            [V.int IntKind.u8 k, V.int IntKind.u8 m, V.int IntKind.u8 x, V.int IntKind.u8 y,
                              V.int IntKind.u8 z]
                            T.leaf))
                        T.leaf)))))).node
          none
          ((T.leaf.node none
                (T.leaf.node none
                  (T.leaf.node none
                    (T.leaf.node none
                      (T.leaf.node
                        (some
                          (O.cells (some 26) 10
                            [V.int IntKind.i64 a, V.int IntKind.i64 b, V.int IntKind.i64 c, V.int IntKind.i64 d,
                              V.int IntKind.i64 e, V.int IntKind.i64 f, V.int IntKind.i64 g, V.int IntKind.i64 h,
                              V.int IntKind.i64 i, V.int IntKind.u32 j]
                            T.leaf))
                        T.leaf))))).node
            none T.leaf)).node
      none T.leaf)))) ∧
  ((1020) = (1020))))) := by kernel_rfl
theorem w6NF (o : Option O) (cf : List V) (r : V) (t q : Nat) (w n : Int) (k : Nat) (T : Option (List V) → Prop) : (evL GL sp 60 iBlocks [r6, r7, y8] (K6 (inv .nils t q w r n (Int.ofNat k)) T o .none cf) (S (inv .nils t q w r n (Int.ofNat k)) ⟨tB o cf, 1010⟩)) = (
(((false) = (true)) → False) ∧
(((false) = (false)) → ((T
  (some
    [V.int IntKind.u8 (Int.ofNat 7), V.int IntKind.u8 (Int.ofNat 0), V.int IntKind.u8 (Int.ofNat 0),
      V.int IntKind.u8 (Int.ofNat 0), V.int IntKind.u8 (Int.ofNat 0)]))) ∧
 (((((some (V.ptr 1010 0)) = (some (V.ptr 1010 0))) ∧
    (((some r) = (some r)) ∧
     (((some (V.int IntKind.i64 w)) = (some (V.int IntKind.i64 w))) ∧
      (((some (V.int IntKind.i64 n)) = (some (V.int IntKind.i64 n))) ∧
       (((some (V.int IntKind.i64 (Int.ofNat k))) = (some (V.int IntKind.i64 (Int.ofNat k)))) ∧
        (((some V.nils) = (some V.nils)) ∧
         (((some (V.int IntKind.u8 (Int.ofNat t))) = (some (V.int IntKind.u8 (Int.ofNat t)))) ∧
          (((some (V.int IntKind.u8 (Int.ofNat q))) = (some (V.int IntKind.u8 (Int.ofNat q)))) ∧
           (((some (V.ptr 1002 0)) = (some (V.ptr 1002 0))) ∧
            (True)))))))))) ∧
   (((129) = (129)) ∧
    ((true) = (true)))) ∧
  (((1011) = (1011)) ∧
   (((some (O.cells (some 26) 10 cf Ev.T.leaf)) = (some (O.cells (some 26) 10 cf Ev.T.leaf))) ∧
    (((o) = (o)) ∧
     ((True) ∧
      ((true) = (true))))))))) := by kernel_rfl
theorem w6ZF (o : Option O) (cf : List V) (r : V) (t q : Nat) (w n : Int) (k : Nat) (cc : Cap) (T : Option (List V) → Prop) : (evL GL sp 60 iBlocks [r6, r7, y8] (K6 (inv (.slice 1000 0 0 cc) t q w r n (Int.ofNat k)) T o .none cf) (S (inv (.slice 1000 0 0 cc) t q w r n (Int.ofNat k)) ⟨tB o cf, 1010⟩)) = (
(((false) = (true)) → ((false) = (false)) ∧
 (((false) = (true)) ∧
  ((∃ l, (ldM (tB o cf) k) = (some (V.agg 5 l Ev.T.leaf)) ∧ LK.shape [LK.int IntKind.u8, LK.int IntKind.u8, LK.int IntKind.u8, LK.int IntKind.u8, LK.int IntKind.u8] l) ∧
   (∀ y0 : Int, ∀ y1 : Int, ∀ y2 : Int, ∀ y3 : Int, ∀ y4 : Int, ((ldM (tB o cf) k) = (some
  (V.agg 5
    ([] ++ [V.int IntKind.u8 y0] ++ [V.int IntKind.u8 y1] ++ [V.int IntKind.u8 y2] ++ [V.int IntKind.u8 y3] ++
      [V.int IntKind.u8 y4])
    Ev.T.leaf))) → ((T (some [V.int IntKind.u8 y0, V.int IntKind.u8 y1, V.int IntKind.u8 y2, V.int IntKind.u8 y3, V.int IntKind.u8 y4]))) ∧
    (((((some (V.ptr 1010 0)) = (some (V.ptr 1010 0))) ∧
       (((some r) = (some r)) ∧
        (((some (V.int IntKind.i64 w)) = (some (V.int IntKind.i64 w))) ∧
         (((some (V.int IntKind.i64 n)) = (some (V.int IntKind.i64 n))) ∧
          (((some (V.int IntKind.i64 (Int.ofNat k))) = (some (V.int IntKind.i64 (Int.ofNat k)))) ∧
           (((some (V.slice 1000 0 0 cc)) = (some (V.slice 1000 0 0 cc))) ∧
            (((some (V.int IntKind.u8 (Int.ofNat t))) = (some (V.int IntKind.u8 (Int.ofNat t)))) ∧
             (((some (V.int IntKind.u8 (Int.ofNat q))) = (some (V.int IntKind.u8 (Int.ofNat q)))) ∧
              (((some (V.ptr 1002 0)) = (some (V.ptr 1002 0))) ∧
               (True)))))))))) ∧
      (((129) = (129)) ∧
       ((true) = (true)))) ∧
     (((1011) = (1011)) ∧
      (((some (O.cells (some 26) 10 cf Ev.T.leaf)) = (some (O.cells (some 26) 10 cf Ev.T.leaf))) ∧
       (((o) = (o)) ∧
        ((True) ∧
         ((true) = (true))))))))))) ∧
(((false) = (false)) → ((T
  (some
    [V.int IntKind.u8 (Int.ofNat 7), V.int IntKind.u8 (Int.ofNat 0), V.int IntKind.u8 (Int.ofNat 0),
      V.int IntKind.u8 (Int.ofNat 0), V.int IntKind.u8 (Int.ofNat 0)]))) ∧
 (((((some (V.ptr 1010 0)) = (some (V.ptr 1010 0))) ∧
    (((some r) = (some r)) ∧
     (((some (V.int IntKind.i64 w)) = (some (V.int IntKind.i64 w))) ∧
      (((some (V.int IntKind.i64 n)) = (some (V.int IntKind.i64 n))) ∧
       (((some (V.int IntKind.i64 (Int.ofNat k))) = (some (V.int IntKind.i64 (Int.ofNat k)))) ∧
        (((some (V.slice 1000 0 0 cc)) = (some (V.slice 1000 0 0 cc))) ∧
         (((some (V.int IntKind.u8 (Int.ofNat t))) = (some (V.int IntKind.u8 (Int.ofNat t)))) ∧
          (((some (V.int IntKind.u8 (Int.ofNat q))) = (some (V.int IntKind.u8 (Int.ofNat q)))) ∧
           (((some (V.ptr 1002 0)) = (some (V.ptr 1002 0))) ∧
            (True)))))))))) ∧
   (((129) = (129)) ∧
    ((true) = (true)))) ∧
  (((1011) = (1011)) ∧
   (((some (O.cells (some 26) 10 cf Ev.T.leaf)) = (some (O.cells (some 26) 10 cf Ev.T.leaf))) ∧
    (((o) = (o)) ∧
     ((True) ∧
      ((true) = (true))))))))) := by kernel_rfl
theorem w6NW (o : Option O) (cf R : List V) (r : V) (t q : Nat) (w n : Int) (k : Nat) (T : Option (List V) → Prop) : (evL GL sp 60 iBlocks [r6, r7, y8] (K6 (inv .nils t q w r n (Int.ofNat k)) T o (some (rowO R)) cf) (S (inv .nils t q w r n (Int.ofNat k)) ⟨tR o cf R, 1010⟩)) = (
(((false) = (true)) → False) ∧
(((false) = (false)) → ((T
  (some
    [V.int IntKind.u8 (Int.ofNat 7), V.int IntKind.u8 (Int.ofNat 0), V.int IntKind.u8 (Int.ofNat 0),
      V.int IntKind.u8 (Int.ofNat 0), V.int IntKind.u8 (Int.ofNat 0)]))) ∧
 (((((some (V.ptr 1010 0)) = (some (V.ptr 1010 0))) ∧
    (((some r) = (some r)) ∧
     (((some (V.int IntKind.i64 w)) = (some (V.int IntKind.i64 w))) ∧
      (((some (V.int IntKind.i64 n)) = (some (V.int IntKind.i64 n))) ∧
       (((some (V.int IntKind.i64 (Int.ofNat k))) = (some (V.int IntKind.i64 (Int.ofNat k)))) ∧
        (((some V.nils) = (some V.nils)) ∧
         (((some (V.int IntKind.u8 (Int.ofNat t))) = (some (V.int IntKind.u8 (Int.ofNat t)))) ∧
          (((some (V.int IntKind.u8 (Int.ofNat q))) = (some (V.int IntKind.u8 (Int.ofNat q)))) ∧
           (((some (V.ptr 1002 0)) = (some (V.ptr 1002 0))) ∧
            (True)))))))))) ∧
   (((129) = (129)) ∧
    ((true) = (true)))) ∧
  (((1011) = (1011)) ∧
   (((some (O.cells (some 26) 10 cf Ev.T.leaf)) = (some (O.cells (some 26) 10 cf Ev.T.leaf))) ∧
    (((o) = (o)) ∧
     (((some (O.cells (some 36) R.length R Ev.T.leaf)) = (some (O.cells (some 36) R.length R Ev.T.leaf))) ∧
      ((true) = (true))))))))) := by kernel_rfl
theorem w6ZW (o : Option O) (cf R : List V) (r : V) (t q : Nat) (w n : Int) (k : Nat) (cc : Cap) (T : Option (List V) → Prop) : (evL GL sp 60 iBlocks [r6, r7, y8] (K6 (inv (.slice 1000 0 0 cc) t q w r n (Int.ofNat k)) T o (some (rowO R)) cf) (S (inv (.slice 1000 0 0 cc) t q w r n (Int.ofNat k)) ⟨tR o cf R, 1010⟩)) = (
(((false) = (true)) → ((false) = (false)) ∧
 (((false) = (true)) ∧
  ((∃ l, (ldM (tR o cf R) k) = (some (V.agg 5 l Ev.T.leaf)) ∧ LK.shape [LK.int IntKind.u8, LK.int IntKind.u8, LK.int IntKind.u8, LK.int IntKind.u8, LK.int IntKind.u8] l) ∧
   (∀ y0 : Int, ∀ y1 : Int, ∀ y2 : Int, ∀ y3 : Int, ∀ y4 : Int, ((ldM (tR o cf R) k) = (some
  (V.agg 5
    ([] ++ [V.int IntKind.u8 y0] ++ [V.int IntKind.u8 y1] ++ [V.int IntKind.u8 y2] ++ [V.int IntKind.u8 y3] ++
      [V.int IntKind.u8 y4])
    Ev.T.leaf))) → ((T (some [V.int IntKind.u8 y0, V.int IntKind.u8 y1, V.int IntKind.u8 y2, V.int IntKind.u8 y3, V.int IntKind.u8 y4]))) ∧
    (((((some (V.ptr 1010 0)) = (some (V.ptr 1010 0))) ∧
       (((some r) = (some r)) ∧
        (((some (V.int IntKind.i64 w)) = (some (V.int IntKind.i64 w))) ∧
         (((some (V.int IntKind.i64 n)) = (some (V.int IntKind.i64 n))) ∧
          (((some (V.int IntKind.i64 (Int.ofNat k))) = (some (V.int IntKind.i64 (Int.ofNat k)))) ∧
           (((some (V.slice 1000 0 0 cc)) = (some (V.slice 1000 0 0 cc))) ∧
            (((some (V.int IntKind.u8 (Int.ofNat t))) = (some (V.int IntKind.u8 (Int.ofNat t)))) ∧
             (((some (V.int IntKind.u8 (Int.ofNat q))) = (some (V.int IntKind.u8 (Int.ofNat q)))) ∧
              (((some (V.ptr 1002 0)) = (some (V.ptr 1002 0))) ∧
               (True)))))))))) ∧
      (((129) = (129)) ∧
       ((true) = (true)))) ∧
     (((1011) = (1011)) ∧
      (((some (O.cells (some 26) 10 cf Ev.T.leaf)) = (some (O.cells (some 26) 10 cf Ev.T.leaf))) ∧
       (((o) = (o)) ∧
        (((some (O.cells (some 36) R.length R Ev.T.leaf)) = (some (O.cells (some 36) R.length R Ev.T.leaf))) ∧
         ((true) = (true))))))))))) ∧
(((false) = (false)) → ((T
  (some
    [V.int IntKind.u8 (Int.ofNat 7), V.int IntKind.u8 (Int.ofNat 0), V.int IntKind.u8 (Int.ofNat 0),
      V.int IntKind.u8 (Int.ofNat 0), V.int IntKind.u8 (Int.ofNat 0)]))) ∧
 (((((some (V.ptr 1010 0)) = (some (V.ptr 1010 0))) ∧
    (((some r) = (some r)) ∧
     (((some (V.int IntKind.i64 w)) = (some (V.int IntKind.i64 w))) ∧
      (((some (V.int IntKind.i64 n)) = (some (V.int IntKind.i64 n))) ∧
       (((some (V.int IntKind.i64 (Int.ofNat k))) = (some (V.int IntKind.i64 (Int.ofNat k)))) ∧
        (((some (V.slice 1000 0 0 cc)) = (some (V.slice 1000 0 0 cc))) ∧
         (((some (V.int IntKind.u8 (Int.ofNat t))) = (some (V.int IntKind.u8 (Int.ofNat t)))) ∧
          (((some (V.int IntKind.u8 (Int.ofNat q))) = (some (V.int IntKind.u8 (Int.ofNat q)))) ∧
           (((some (V.ptr 1002 0)) = (some (V.ptr 1002 0))) ∧
            (True)))))))))) ∧
   (((129) = (129)) ∧
    ((true) = (true)))) ∧
  (((1011) = (1011)) ∧
   (((some (O.cells (some 26) 10 cf Ev.T.leaf)) = (some (O.cells (some 26) 10 cf Ev.T.leaf))) ∧
    (((o) = (o)) ∧
     (((some (O.cells (some 36) R.length R Ev.T.leaf)) = (some (O.cells (some 36) R.length R Ev.T.leaf))) ∧
      ((true) = (true))))))))) := by kernel_rfl
theorem w6SF (A cf : List V) (ln : Nat) (cc : Cap) (r : V) (t q : Nat) (w n : Int) (k : Nat) (T : Option (List V) → Prop) : (evL GL sp 60 iBlocks [r6, r7, y8] (K6 (inv (.slice 1000 0 ln cc) t q w r n (Int.ofNat k)) T (some (roM A)) .none cf) (S (inv (.slice 1000 0 ln cc) t q w r n (Int.ofNat k)) ⟨tB (some (roM A)) cf, 1010⟩)) = (
(((ilt (Int.ofNat k)
  (match ilt (Int.ofNat 20) (Int.ofNat ln) with
  | true => 20
  | false => Int.ofNat ln)) = (true)) → ((false) = (false)) ∧
 (((ilt (Int.ofNat k) (Int.ofNat ln)) = (true)) ∧
  ((∃ l, (ldM (tB (some (roM A)) cf) k) = (some (V.agg 5 l Ev.T.leaf)) ∧ LK.shape [LK.int IntKind.u8, LK.int IntKind.u8, LK.int IntKind.u8, LK.int IntKind.u8, LK.int IntKind.u8] l) ∧
   (∀ y0 : Int, ∀ y1 : Int, ∀ y2 : Int, ∀ y3 : Int, ∀ y4 : Int, ((ldM (tB (some (roM A)) cf) k) = (some
  (V.agg 5
    ([] ++ [V.int IntKind.u8 y0] ++ [V.int IntKind.u8 y1] ++ [V.int IntKind.u8 y2] ++ [V.int IntKind.u8 y3] ++
      [V.int IntKind.u8 y4])
    Ev.T.leaf))) → ((T (some [V.int IntKind.u8 y0, V.int IntKind.u8 y1, V.int IntKind.u8 y2, V.int IntKind.u8 y3, V.int IntKind.u8 y4]))) ∧
    (((((some (V.ptr 1010 0)) = (some (V.ptr 1010 0))) ∧
       (((some r) = (some r)) ∧
        (((some (V.int IntKind.i64 w)) = (some (V.int IntKind.i64 w))) ∧
         (((some (V.int IntKind.i64 n)) = (some (V.int IntKind.i64 n))) ∧
          (((some (V.int IntKind.i64 (Int.ofNat k))) = (some (V.int IntKind.i64 (Int.ofNat k)))) ∧
           (((some (V.slice 1000 0 ln cc)) = (some (V.slice 1000 0 ln cc))) ∧
            (((some (V.int IntKind.u8 (Int.ofNat t))) = (some (V.int IntKind.u8 (Int.ofNat t)))) ∧
             (((some (V.int IntKind.u8 (Int.ofNat q))) = (some (V.int IntKind.u8 (Int.ofNat q)))) ∧
              (((some (V.ptr 1002 0)) = (some (V.ptr 1002 0))) ∧
               (True)))))))))) ∧
      (((129) = (129)) ∧
       ((true) = (true)))) ∧
     (((1011) = (1011)) ∧
      (((some (O.cells (some 26) 10 cf Ev.T.leaf)) = (some (O.cells (some 26) 10 cf Ev.T.leaf))) ∧
       (((some (O.ro none A.length A Ev.T.leaf)) = (some (O.ro none A.length A Ev.T.leaf))) ∧
        ((True) ∧
         ((true) = (true))))))))))) ∧
(((ilt (Int.ofNat k)
  (match ilt (Int.ofNat 20) (Int.ofNat ln) with
  | true => 20
  | false => Int.ofNat ln)) = (false)) → ((T
  (some
    [V.int IntKind.u8 (Int.ofNat 7), V.int IntKind.u8 (Int.ofNat 0), V.int IntKind.u8 (Int.ofNat 0),
      V.int IntKind.u8 (Int.ofNat 0), V.int IntKind.u8 (Int.ofNat 0)]))) ∧
 (((((some (V.ptr 1010 0)) = (some (V.ptr 1010 0))) ∧
    (((some r) = (some r)) ∧
     (((some (V.int IntKind.i64 w)) = (some (V.int IntKind.i64 w))) ∧
      (((some (V.int IntKind.i64 n)) = (some (V.int IntKind.i64 n))) ∧
       (((some (V.int IntKind.i64 (Int.ofNat k))) = (some (V.int IntKind.i64 (Int.ofNat k)))) ∧
        (((some (V.slice 1000 0 ln cc)) = (some (V.slice 1000 0 ln cc))) ∧
         (((some (V.int IntKind.u8 (Int.ofNat t))) = (some (V.int IntKind.u8 (Int.ofNat t)))) ∧
          (((some (V.int IntKind.u8 (Int.ofNat q))) = (some (V.int IntKind.u8 (Int.ofNat q)))) ∧
           (((some (V.ptr 1002 0)) = (some (V.ptr 1002 0))) ∧
            (True)))))))))) ∧
   (((129) = (129)) ∧
    ((true) = (true)))) ∧
  (((1011) = (1011)) ∧
   (((some (O.cells (some 26) 10 cf Ev.T.leaf)) = (some (O.cells (some 26) 10 cf Ev.T.leaf))) ∧
    (((some (O.ro none A.length A Ev.T.leaf)) = (some (O.ro none A.length A Ev.T.leaf))) ∧
     ((True) ∧
      ((true) = (true))))))))) := by kernel_rfl
theorem w6SW (A cf R : List V) (ln : Nat) (cc : Cap) (r : V) (t q : Nat) (w n : Int) (k : Nat) (T : Option (List V) → Prop) : (evL GL sp 60 iBlocks [r6, r7, y8] (K6 (inv (.slice 1000 0 ln cc) t q w r n (Int.ofNat k)) T (some (roM A)) (some (rowO R)) cf) (S (inv (.slice 1000 0 ln cc) t q w r n (Int.ofNat k)) ⟨tR (some (roM A)) cf R, 1010⟩)) = (
(((ilt (Int.ofNat k)
  (match ilt (Int.ofNat 20) (Int.ofNat ln) with
  | true => 20
  | false => Int.ofNat ln)) = (true)) → ((false) = (false)) ∧
 (((ilt (Int.ofNat k) (Int.ofNat ln)) = (true)) ∧
  ((∃ l, (ldM (tR (some (roM A)) cf R) k) = (some (V.agg 5 l Ev.T.leaf)) ∧ LK.shape [LK.int IntKind.u8, LK.int IntKind.u8, LK.int IntKind.u8, LK.int IntKind.u8, LK.int IntKind.u8] l) ∧
   (∀ y0 : Int, ∀ y1 : Int, ∀ y2 : Int, ∀ y3 : Int, ∀ y4 : Int, ((ldM (tR (some (roM A)) cf R) k) = (some
  (V.agg 5
    ([] ++ [V.int IntKind.u8 y0] ++ [V.int IntKind.u8 y1] ++ [V.int IntKind.u8 y2] ++ [V.int IntKind.u8 y3] ++
      [V.int IntKind.u8 y4])
    Ev.T.leaf))) → ((T (some [V.int IntKind.u8 y0, V.int IntKind.u8 y1, V.int IntKind.u8 y2, V.int IntKind.u8 y3, V.int IntKind.u8 y4]))) ∧
    (((((some (V.ptr 1010 0)) = (some (V.ptr 1010 0))) ∧
       (((some r) = (some r)) ∧
        (((some (V.int IntKind.i64 w)) = (some (V.int IntKind.i64 w))) ∧
         (((some (V.int IntKind.i64 n)) = (some (V.int IntKind.i64 n))) ∧
          (((some (V.int IntKind.i64 (Int.ofNat k))) = (some (V.int IntKind.i64 (Int.ofNat k)))) ∧
           (((some (V.slice 1000 0 ln cc)) = (some (V.slice 1000 0 ln cc))) ∧
            (((some (V.int IntKind.u8 (Int.ofNat t))) = (some (V.int IntKind.u8 (Int.ofNat t)))) ∧
             (((some (V.int IntKind.u8 (Int.ofNat q))) = (some (V.int IntKind.u8 (Int.ofNat q)))) ∧
              (((some (V.ptr 1002 0)) = (some (V.ptr 1002 0))) ∧
               (True)))))))))) ∧
      (((129) = (129)) ∧
       ((true) = (true)))) ∧
     (((1011) = (1011)) ∧
      (((some (O.cells (some 26) 10 cf Ev.T.leaf)) = (some (O.cells (some 26) 10 cf Ev.T.leaf))) ∧
       (((some (O.ro none A.length A Ev.T.leaf)) = (some (O.ro none A.length A Ev.T.leaf))) ∧
        (((some (O.cells (some 36) R.length R Ev.T.leaf)) = (some (O.cells (some 36) R.length R Ev.T.leaf))) ∧
         ((true) = (true))))))))))) ∧
(((ilt (Int.ofNat k)
  (match ilt (Int.ofNat 20) (Int.ofNat ln) with
  | true => 20
  | false => Int.ofNat ln)) = (false)) → ((T
  (some
    [V.int IntKind.u8 (Int.ofNat 7), V.int IntKind.u8 (Int.ofNat 0), V.int IntKind.u8 (Int.ofNat 0),
      V.int IntKind.u8 (Int.ofNat 0), V.int IntKind.u8 (Int.ofNat 0)]))) ∧
 (((((some (V.ptr 1010 0)) = (some (V.ptr 1010 0))) ∧
    (((some r) = (some r)) ∧
     (((some (V.int IntKind.i64 w)) = (some (V.int IntKind.i64 w))) ∧
      (((some (V.int IntKind.i64 n)) = (some (V.int IntKind.i64 n))) ∧
       (((some (V.int IntKind.i64 (Int.ofNat k))) = (some (V.int IntKind.i64 (Int.ofNat k)))) ∧
        (((some (V.slice 1000 0 ln cc)) = (some (V.slice 1000 0 ln cc))) ∧
         (((some (V.int IntKind.u8 (Int.ofNat t))) = (some (V.int IntKind.u8 (Int.ofNat t)))) ∧
          (((some (V.int IntKind.u8 (Int.ofNat q))) = (some (V.int IntKind.u8 (Int.ofNat q)))) ∧
           (((some (V.ptr 1002 0)) = (some (V.ptr 1002 0))) ∧
            (True)))))))))) ∧
   (((129) = (129)) ∧
    ((true) = (true)))) ∧
  (((1011) = (1011)) ∧
   (((some (O.cells (some 26) 10 cf Ev.T.leaf)) = (some (O.cells (some 26) 10 cf Ev.T.leaf))) ∧
    (((some (O.ro none A.length A Ev.T.leaf)) = (some (O.ro none A.length A Ev.T.leaf))) ∧
     (((some (O.cells (some 36) R.length R Ev.T.leaf)) = (some (O.cells (some 36) R.length R Ev.T.leaf))) ∧
      ((true) = (true))))))))) := by kernel_rfl
end LB
end Go.Proofs.YtcbggkejlhifpaaGreatDoor

/- JudgeWords: its code, part by part. -/
import Derived.Test.YtgadijnefbmgkaaGreatDoorJg
import Derived.Test.YtgadijnefbmgkaaGreatDoorJb
namespace Go.Proofs.YtgadijnefbmgkaaGreatDoor
set_option maxRecDepth 100000
set_option maxHeartbeats 2000000
open Go.Ev Go.RowKit
namespace WT
noncomputable def fn : Func := match Tryz.prog.funcs[iWords]? with
  | some f => f
  | .none => default
noncomputable def code : Code := match fn.body with
  | some c => c
  | .none => .skip
noncomputable def r0 : Code := cFst code
noncomputable def x1 : Code := cSnd code
noncomputable def r1 : Code := cFst x1
noncomputable def x2 : Code := cSnd x1
noncomputable def r2 : Code := cFst x2
noncomputable def x3 : Code := cSnd x2
noncomputable def r3 : Code := cFst x3
noncomputable def x4 : Code := cSnd x3
noncomputable def z : Code := cFst x4
noncomputable def x5 : Code := cSnd x4
noncomputable def y12 : Code := cFst x5
noncomputable def x6 : Code := cSnd x5
noncomputable def r14 : Code := cFst x6
noncomputable def x7 : Code := cSnd x6
noncomputable def r15 : Code := cFst x7
noncomputable def x8 : Code := cSnd x7
noncomputable def y16 : Code := cFst x8
noncomputable def x9 : Code := cSnd x8
noncomputable def r18 : Code := cFst x9
noncomputable def x10 : Code := cSnd x9
noncomputable def r19 : Code := cFst x10
noncomputable def x11 : Code := cSnd x10
noncomputable def r20 : Code := cFst x11
noncomputable def r4 : Code := cFst z
noncomputable def bl : Code := cSnd z
noncomputable def lp : Code := cFst bl
noncomputable def bd : Code := cFst lp
noncomputable def y5 : Code := cFst bd
noncomputable def b1 : Code := cSnd bd
noncomputable def b3 : Code := cFst b1
noncomputable def r6 : Code := cSnd b1
noncomputable def b4 : Code := cFst b3
noncomputable def r7 : Code := cFst b4
noncomputable def c7 : Code := cSnd b4
noncomputable def t7 : Code := cFst c7
noncomputable def y8 : Code := cFst t7
noncomputable def t8 : Code := cSnd t7
noncomputable def r10 : Code := cFst t8
noncomputable def r11 : Code := cSnd t8
theorem isFn : Tryz.prog.funcs[iWords]? = some fn := by kernel_rfl
theorem body : fn.body = some code := by kernel_rfl
theorem tmps : fn.ntmps = 101 := by kernel_rfl
theorem cut : code = JT.nest [r0, r1, r2, r3] x4 := by kernel_rfl
theorem q4 : x4 = .seq z x5 := by kernel_rfl
theorem qz : z = .seq r4 bl := by kernel_rfl
theorem qb : bl = .block 0 lp := by kernel_rfl
theorem ql : lp = .loop bd := by kernel_rfl
theorem qd : bd = .seq y5 b1 := by kernel_rfl
theorem q1 : b1 = .seq b3 r6 := by kernel_rfl
theorem q3 : b3 = .block 1 b4 := by kernel_rfl
theorem q7 : b4 = .seq r7 c7 := by kernel_rfl
theorem q7c : c7 = .cond (.tmp 25) t7 .skip := by kernel_rfl
theorem q8 : t7 = JT.nest [y8, r10] r11 := by kernel_rfl
theorem q11 : r11 = .region 11 (cOps r11) false := by kernel_rfl
theorem q11n : (cOps r11).size = 5 := by kernel_rfl
theorem q5 : x5 = .seq y12 x6 := by kernel_rfl
theorem q6 : x6 = .seq r14 x7 := by kernel_rfl
theorem q14 : r14 = .region 14 (cOps r14) false := by kernel_rfl
theorem q14n : (cOps r14).size = 7 := by kernel_rfl
theorem cut15 : x7 = JT.nest [r15, y16] x9 := by kernel_rfl
theorem q9 : x9 = .seq r18 x10 := by kernel_rfl
theorem q18 : r18 = .region 18 (cOps r18) false := by kernel_rfl
theorem q18n : (cOps r18).size = 12 := by kernel_rfl
theorem q19 : x10 = .seq r19 x11 := by kernel_rfl
theorem q20 : x11 = .seq r20 .ret := by kernel_rfl
theorem ok0 : [r0, r1, r2, r3].all okC = true := by kernel_rfl
theorem ok4 : okC r4 = true := by kernel_rfl
theorem ok5 : okC y5 = true := by kernel_rfl
theorem ok6 : okC r6 = true := by kernel_rfl
theorem ok7 : okC r7 = true := by kernel_rfl
theorem ok8 : [y8, r10].all okC = true := by kernel_rfl
theorem ok11 : okC r11 = true := by kernel_rfl
theorem ok12 : okC y12 = true := by kernel_rfl
theorem ok15 : [r15, y16].all okC = true := by kernel_rfl
theorem ok19 : okC r19 = true := by kernel_rfl
theorem ok20 : okC r20 = true := by kernel_rfl
noncomputable def opAt (c : Code) (i : Nat) : Oper := match (cOps c)[i]? with
  | some o => o
  | .none => default
theorem pA : opsPart (cOps r11) 3 1 = [opAt r11 3] := by kernel_rfl
theorem gA : (opAt r11 3).guard = .none := by kernel_rfl
theorem dA : (opAt r11 3).dst = some 39 := by kernel_rfl
theorem p14 : (cOps r14)[1]? = some (opAt r14 1) := by kernel_rfl
theorem g14 : (opAt r14 1).guard = .none := by kernel_rfl
theorem d14 : (opAt r14 1).dst = some 45 := by kernel_rfl
theorem pB : opsPart (cOps r18) 2 1 = [opAt r18 2] := by kernel_rfl
theorem gB : (opAt r18 2).guard = .none := by kernel_rfl
theorem dB : (opAt r18 2).dst = some 60 := by kernel_rfl
theorem pC : opsPart (cOps r18) 5 1 = [opAt r18 5] := by kernel_rfl
theorem gC : (opAt r18 5).guard = .none := by kernel_rfl
theorem dC : (opAt r18 5).dst = some 63 := by kernel_rfl
theorem p18 : (cOps r18)[6]? = some (opAt r18 6) := by kernel_rfl
theorem g18 : (opAt r18 6).guard = .none := by kernel_rfl
theorem d18 : (opAt r18 6).dst = some 64 := by kernel_rfl
theorem hopA (env : Env) : act GL env.get (opAt r11 3).op = .ef (fun h => fAppend GL (GL.ty 22) (GL.ty 22) h (env.get (.tmp 36)) (env.get (.tmp 38))) := by kernel_rfl
theorem hopB (env : Env) : act GL env.get (opAt r18 2).op = .ef (fun h => fAppend GL (GL.ty 22) (GL.ty 22) h (env.get (.tmp 58)) (env.get (.tmp 59))) := by kernel_rfl
theorem hopC (env : Env) : act GL env.get (opAt r18 5).op = .ef (fun h => fAppend GL (GL.ty 22) (GL.ty 22) h (env.get (.tmp 60)) (env.get (.tmp 62))) := by kernel_rfl
noncomputable def tyS : TY := match GL.ty 22 with
  | some t => t
  | none => ⟨.slice 0, 0, false, none, #[]⟩
noncomputable def tyE : TY := match GL.ty tInt with
  | some t => t
  | none => ⟨.slice 0, 0, false, none, #[]⟩
theorem t1 : GL.ty 22 = some tyS := by kernel_rfl
theorem t2 : tyS.desc = .slice tInt := by kernel_rfl
theorem t3 : GL.ty tInt = some tyE := by kernel_rfl
theorem t4 : isInt tyS.desc = some false := by kernel_rfl
theorem t5 : tyE.size = 1 := by kernel_rfl
/-- is there a row of numbers? -/
noncomputable def sp (row : Bool) : SpF where
  at' := fun f t => match Nat.beq f iWords, t with
    | true, 17 => .both | true, 22 => .upto 12 | true, 28 => (match row with | true => .both | false => .keep) | true, 33 => .idx | true, 34 => .ldS | true, 42 => (match row with | true => .both | false => .keep)
    | true, 50 => (match row with | true => .both | false => .keep) | true, 55 => .idx | true, 56 => .ldI .i64 | true, 69 => .both | true, 72 => .both | true, 76 => .is true | _, _ => .keep
noncomputable def S (l : List (Nat × V)) (h : H) : St := ⟨envL 101 l, h, []⟩
noncomputable def oW (e : Option TypeId) : O := .cells e 12 words .leaf
/-- memory: the variables, the words of the law; a row of numbers -/
noncomputable def bW (e : Option TypeId) : T O := T.put (varsT gs) 1000 (some (oW e))
noncomputable def hW (e : Option TypeId) : H := ⟨bW e, 1001⟩
noncomputable def hV (e : Option TypeId) (nx : Nat) : H := ⟨bW e, nx⟩
noncomputable def hR (e e' : Option TypeId) (L : List V) : H := ⟨T.put (bW e) 1001 (some (.cells e' L.length L .leaf)), 1002⟩
abbrev ou (b m : Nat) : V := .slice b 0 m (.atl m 1)
noncomputable def hasS (l : List (Nat × V)) (st : St) : Prop := hasT st.env l ∧ st.env.sz = 101 ∧ noDefs st.defs = true
noncomputable def inv (s y : Int) (o : V) (w : List UInt8) (i : Int) : List (Nat × V) := [(6, o), (0, .int .u16 s), (1, .int .i64 y), (5, .ptr 1000 0), (7, .str w), (8, .int .i64 i)]
noncomputable def isC (l : List V) : Option O → Prop
  | some (.cells _ n pat tr) => Nat.beq n l.length = true ∧ gather n pat tr 0 l.length = some l
  | _ => False
noncomputable def K0 (l : List (Nat × V)) (x : X) (st : St) : Prop := match x with
  | .normal => hasS l st ∧ st.h.next = 1001 ∧ st.h.tr.get iLetters = (varsT gs).get iLetters ∧ st.h.tr.get gWords = (varsT gs).get gWords ∧ isC words (st.h.tr.get 1000)
  | _ => False
noncomputable def KD (l : List (Nat × V)) (h : H) (x : X) (st : St) : Prop := match x with
  | .normal => hasS l st ∧ st.h = h
  | _ => False
noncomputable def KE (l : List (Nat × V)) (h : H) (x : X) (st : St) : Prop := match x with
  | .normal => hasS l st ∧ JT.eqH st.h h
  | _ => False
noncomputable def K5 (l : List (Nat × V)) (h : H) (E E' : Prop) (x : X) (st : St) : Prop := match x with
  | .normal => E ∧ hasS l st ∧ st.h = h
  | .exit k => E' ∧ Nat.beq k 0 = true ∧ hasS l st ∧ st.h = h
  | _ => False
noncomputable def K7 (l : List (Nat × V)) (h : H) (x : X) (st : St) : Prop := match x with
  | .normal => match st.env.tr.get 25 with
    | some (.bool _) => hasS l st ∧ st.h = h
    | _ => False
  | _ => False
noncomputable def K8 (s y : Int) (o : V) (i : Int) (h : H) (E : List UInt8 → Prop) (x : X) (st : St) : Prop := match x with
  | .normal => match st.env.tr.get 7 with
    | some (.str w) => E w ∧ hasS (inv s y o w i) st ∧ JT.eqH st.h h
    | _ => False
  | _ => False
noncomputable def KA (l : List (Nat × V)) (e : Option TypeId) (L : List V) (x : X) (st : St) : Prop := match x with
  | .normal => hasS l st ∧ st.h.next = 1003 ∧ st.h.tr.get iLetters = (varsT gs).get iLetters ∧ st.h.tr.get gWords = (varsT gs).get gWords ∧ st.h.tr.get 1000 = some (oW e) ∧ isC L (st.h.tr.get 1002)
  | _ => False
noncomputable def KH (l : List (Nat × V)) (h : H) (env : Env) (h' : H) : Prop := hasT env l ∧ env.sz = 101 ∧ h' = h
/-- a row of one number behind the others -/
noncomputable def KN (l : List (Nat × V)) (nx : Nat) (b : Nat) (base : H) (x : Int) (env : Env) (h' : H) : Prop := hasT env l ∧ env.sz = 101 ∧ h'.next = nx ∧ h'.tr.get iLetters = base.tr.get iLetters ∧ h'.tr.get gWords = base.tr.get gWords ∧ h'.tr.get 1000 = base.tr.get 1000 ∧ isC [.int .i64 x] (h'.tr.get b)
noncomputable def KM (l : List (Nat × V)) (nx : Nat) (b : Nat) (base : H) (x : Int) (env : Env) (h' : H) : Prop := hasT env l ∧ env.sz = 101 ∧ h'.next = nx ∧ h'.tr.get iLetters = base.tr.get iLetters ∧ h'.tr.get gWords = base.tr.get gWords ∧ h'.tr.get 1000 = base.tr.get 1000 ∧ h'.tr.get 1001 = base.tr.get 1001 ∧ isC [.int .i64 x] (h'.tr.get b)
noncomputable def isZ : Option O → Prop
  | some (.cells _ _ _ _) => True
  | _ => False
noncomputable def KZ (l : List (Nat × V)) (base : H) (env : Env) (h' : H) : Prop := hasT env l ∧ env.sz = 101 ∧ h'.next = 1003 ∧ h'.tr.get iLetters = base.tr.get iLetters ∧ h'.tr.get gWords = base.tr.get gWords ∧ h'.tr.get 1000 = base.tr.get 1000 ∧ h'.tr.get 1001 = base.tr.get 1001 ∧ isZ (h'.tr.get 1002)
noncomputable def retIs (Q : V → Prop) (st : St) : Prop := match takeAll st.defs st.h with
  | some h2 => match resultsO G0 h2 st.env fn with
    | some v => Q v
    | .none => False
  | .none => False
abbrev cT (row : Bool) : CallK := callTW GL (sp row).kx (sp row).must (evW GL (sp row) 40)
theorem act14 (a : V) : act GL (envL 101 [(44, a)]).get (opAt r14 1).op = .call (some (.fn iText [a])) := by kernel_rfl
theorem act18 (a : V) : act GL (envL 101 [(63, a)]).get (opAt r18 6).op = .call (some (.fn iText [a])) := by kernel_rfl
theorem w0 (s y : Int) : (JT.evL GL (sp false) 40 iWords [r0, r1, r2, r3] (K0 [(6, .nils), (0, .int .u16 s), (1, .int .i64 y), (5, .ptr 1000 0), (7, .str [])]) (S [(0, .int .u16 s), (1, .int .i64 y)] (hVars gs 1000))) = (
((((some V.nils) = (some V.nils)) ∧
  (((some (V.int IntKind.u16 s)) = (some (V.int IntKind.u16 s))) ∧
   (((some (V.int IntKind.i64 y)) = (some (V.int IntKind.i64 y))) ∧
    (((some (V.ptr 1000 0)) = (some (V.ptr 1000 0))) ∧
     (((some (V.str [])) = (some (V.str []))) ∧
      (True)))))) ∧
 (((101) = (101)) ∧
  ((true) = (true)))) ∧
(((1001) = (1001)) ∧
 (((some
  (O.ro none 4
    [V.int IntKind.u8 (Int.ofNat 0), V.int IntKind.u8 (Int.ofNat 111), V.int IntKind.u8 (Int.ofNat 108),
      V.int IntKind.u8 (Int.ofNat 102)]
    T.leaf)) = (some
  (O.ro none 4
    [V.int IntKind.u8 (Int.ofNat 0), V.int IntKind.u8 (Int.ofNat 111), V.int IntKind.u8 (Int.ofNat 108),
      V.int IntKind.u8 (Int.ofNat 102)]
    T.leaf))) ∧
  (((some
  (O.ro none 12
    [V.str [], V.str [109, 111, 100, 101, 108], V.str [111, 110, 99, 101], V.str [101, 110, 100, 101, 100],
      V.str [115, 116, 101, 97, 100, 121], V.str [99, 97, 117, 115, 101, 100], V.str [117, 115, 101, 100],
      V.str [99, 111, 117, 110, 116, 115], V.str [113, 117, 111, 116, 97], V.str [115, 116, 97, 108, 101],
      V.str [108, 101, 97, 107, 115], V.str [107, 101, 101, 112, 115]]
    T.leaf)) = (some
  (O.ro none 12
    [V.str [], V.str [109, 111, 100, 101, 108], V.str [111, 110, 99, 101], V.str [101, 110, 100, 101, 100],
      V.str [115, 116, 101, 97, 100, 121], V.str [99, 97, 117, 115, 101, 100], V.str [117, 115, 101, 100],
      V.str [99, 111, 117, 110, 116, 115], V.str [113, 117, 111, 116, 97], V.str [115, 116, 97, 108, 101],
      V.str [108, 101, 97, 107, 115], V.str [107, 101, 101, 112, 115]]
    T.leaf))) ∧
   (((true) = (true)) ∧
    ((some
  [V.str [], V.str [109, 111, 100, 101, 108], V.str [111, 110, 99, 101], V.str [101, 110, 100, 101, 100],
    V.str [115, 116, 101, 97, 100, 121], V.str [99, 97, 117, 115, 101, 100], V.str [117, 115, 101, 100],
    V.str [99, 111, 117, 110, 116, 115], V.str [113, 117, 111, 116, 97], V.str [115, 116, 97, 108, 101],
    V.str [108, 101, 97, 107, 115], V.str [107, 101, 101, 112, 115]]) = (some words))))))) := by kernel_rfl
theorem w4 (s y : Int) (h : H) : (evW GL (sp false) 40 r4 none iWords (S [(6, .nils), (0, .int .u16 s), (1, .int .i64 y), (5, .ptr 1000 0), (7, .str [])] h) (KD (inv s y .nils [] (Int.ofNat 1)) h)) = (
((((some V.nils) = (some V.nils)) ∧
  (((some (V.int IntKind.u16 s)) = (some (V.int IntKind.u16 s))) ∧
   (((some (V.int IntKind.i64 y)) = (some (V.int IntKind.i64 y))) ∧
    (((some (V.ptr 1000 0)) = (some (V.ptr 1000 0))) ∧
     (((some (V.str [])) = (some (V.str []))) ∧
      (((some (V.int IntKind.i64 (Int.ofNat 1))) = (some (V.int IntKind.i64 (Int.ofNat 1)))) ∧
       (True))))))) ∧
 (((101) = (101)) ∧
  ((true) = (true)))) ∧
((h) = (h))) := by kernel_rfl
theorem w5 (s y : Int) (o : V) (w : List UInt8) (i : Nat) (h : H) (E E' : Prop) : (evW GL (sp false) 40 y5 none iWords (S (inv s y o w (Int.ofNat i)) h) (K5 (inv s y o w (Int.ofNat i)) h E E')) = (
(((!ilt (Int.ofNat 11) (Int.ofNat i)) = (true)) → ((E)) ∧
 (((((some o) = (some o)) ∧
    (((some (V.int IntKind.u16 s)) = (some (V.int IntKind.u16 s))) ∧
     (((some (V.int IntKind.i64 y)) = (some (V.int IntKind.i64 y))) ∧
      (((some (V.ptr 1000 0)) = (some (V.ptr 1000 0))) ∧
       (((some (V.str w)) = (some (V.str w))) ∧
        (((some (V.int IntKind.i64 (Int.ofNat i))) = (some (V.int IntKind.i64 (Int.ofNat i)))) ∧
         (True))))))) ∧
   (((101) = (101)) ∧
    ((true) = (true)))) ∧
  ((h) = (h)))) ∧
(((!ilt (Int.ofNat 11) (Int.ofNat i)) = (false)) → ((E')) ∧
 (((true) = (true)) ∧
  (((((some o) = (some o)) ∧
     (((some (V.int IntKind.u16 s)) = (some (V.int IntKind.u16 s))) ∧
      (((some (V.int IntKind.i64 y)) = (some (V.int IntKind.i64 y))) ∧
       (((some (V.ptr 1000 0)) = (some (V.ptr 1000 0))) ∧
        (((some (V.str w)) = (some (V.str w))) ∧
         (((some (V.int IntKind.i64 (Int.ofNat i))) = (some (V.int IntKind.i64 (Int.ofNat i)))) ∧
          (True))))))) ∧
    (((101) = (101)) ∧
     ((true) = (true)))) ∧
   ((h) = (h)))))) := by kernel_rfl
theorem w7 (s y : Int) (o : V) (w : List UInt8) (i : Nat) (h : H) : (evW GL (sp false) 40 r7 none iWords (S (inv s y o w (Int.ofNat i)) h) (K7 (inv s y o w (Int.ofNat i)) h)) = (
((false) = (false)) ∧
(((ilt (wr IntKind.u64 (Int.ofNat i)) (Int.ofNat 12)) = (true)) ∧
 (((((((((((((True) ∧
             (((wr IntKind.u64 (Int.ofNat i)) = (Int.ofNat 0)) → ((((some o) = (some o)) ∧
                (((some (V.int IntKind.u16 s)) = (some (V.int IntKind.u16 s))) ∧
                 (((some (V.int IntKind.i64 y)) = (some (V.int IntKind.i64 y))) ∧
                  (((some (V.ptr 1000 0)) = (some (V.ptr 1000 0))) ∧
                   (((some (V.str w)) = (some (V.str w))) ∧
                    (((some (V.int IntKind.i64 (Int.ofNat i))) = (some (V.int IntKind.i64 (Int.ofNat i)))) ∧
                     (True))))))) ∧
               (((101) = (101)) ∧
                ((true) = (true)))) ∧
              ((h) = (h)))) ∧
            (((wr IntKind.u64 (Int.ofNat i)) = (Int.ofNat 1)) → ((((some o) = (some o)) ∧
               (((some (V.int IntKind.u16 s)) = (some (V.int IntKind.u16 s))) ∧
                (((some (V.int IntKind.i64 y)) = (some (V.int IntKind.i64 y))) ∧
                 (((some (V.ptr 1000 0)) = (some (V.ptr 1000 0))) ∧
                  (((some (V.str w)) = (some (V.str w))) ∧
                   (((some (V.int IntKind.i64 (Int.ofNat i))) = (some (V.int IntKind.i64 (Int.ofNat i)))) ∧
                    (True))))))) ∧
              (((101) = (101)) ∧
               ((true) = (true)))) ∧
             ((h) = (h)))) ∧
           (((wr IntKind.u64 (Int.ofNat i)) = (Int.ofNat 2)) → ((((some o) = (some o)) ∧
              (((some (V.int IntKind.u16 s)) = (some (V.int IntKind.u16 s))) ∧
               (((some (V.int IntKind.i64 y)) = (some (V.int IntKind.i64 y))) ∧
                (((some (V.ptr 1000 0)) = (some (V.ptr 1000 0))) ∧
                 (((some (V.str w)) = (some (V.str w))) ∧
                  (((some (V.int IntKind.i64 (Int.ofNat i))) = (some (V.int IntKind.i64 (Int.ofNat i)))) ∧
                   (True))))))) ∧
             (((101) = (101)) ∧
              ((true) = (true)))) ∧
            ((h) = (h)))) ∧
          (((wr IntKind.u64 (Int.ofNat i)) = (Int.ofNat 3)) → ((((some o) = (some o)) ∧
             (((some (V.int IntKind.u16 s)) = (some (V.int IntKind.u16 s))) ∧
              (((some (V.int IntKind.i64 y)) = (some (V.int IntKind.i64 y))) ∧
               (((some (V.ptr 1000 0)) = (some (V.ptr 1000 0))) ∧
                (((some (V.str w)) = (some (V.str w))) ∧
                 (((some (V.int IntKind.i64 (Int.ofNat i))) = (some (V.int IntKind.i64 (Int.ofNat i)))) ∧
                  (True))))))) ∧
            (((101) = (101)) ∧
             ((true) = (true)))) ∧
           ((h) = (h)))) ∧
         (((wr IntKind.u64 (Int.ofNat i)) = (Int.ofNat 4)) → ((((some o) = (some o)) ∧
            (((some (V.int IntKind.u16 s)) = (some (V.int IntKind.u16 s))) ∧
             (((some (V.int IntKind.i64 y)) = (some (V.int IntKind.i64 y))) ∧
              (((some (V.ptr 1000 0)) = (some (V.ptr 1000 0))) ∧
               (((some (V.str w)) = (some (V.str w))) ∧
                (((some (V.int IntKind.i64 (Int.ofNat i))) = (some (V.int IntKind.i64 (Int.ofNat i)))) ∧
                 (True))))))) ∧
           (((101) = (101)) ∧
            ((true) = (true)))) ∧
          ((h) = (h)))) ∧
        (((wr IntKind.u64 (Int.ofNat i)) = (Int.ofNat 5)) → ((((some o) = (some o)) ∧
           (((some (V.int IntKind.u16 s)) = (some (V.int IntKind.u16 s))) ∧
            (((some (V.int IntKind.i64 y)) = (some (V.int IntKind.i64 y))) ∧
             (((some (V.ptr 1000 0)) = (some (V.ptr 1000 0))) ∧
              (((some (V.str w)) = (some (V.str w))) ∧
               (((some (V.int IntKind.i64 (Int.ofNat i))) = (some (V.int IntKind.i64 (Int.ofNat i)))) ∧
                (True))))))) ∧
          (((101) = (101)) ∧
           ((true) = (true)))) ∧
         ((h) = (h)))) ∧
       (((wr IntKind.u64 (Int.ofNat i)) = (Int.ofNat 6)) → ((((some o) = (some o)) ∧
          (((some (V.int IntKind.u16 s)) = (some (V.int IntKind.u16 s))) ∧
           (((some (V.int IntKind.i64 y)) = (some (V.int IntKind.i64 y))) ∧
            (((some (V.ptr 1000 0)) = (some (V.ptr 1000 0))) ∧
             (((some (V.str w)) = (some (V.str w))) ∧
              (((some (V.int IntKind.i64 (Int.ofNat i))) = (some (V.int IntKind.i64 (Int.ofNat i)))) ∧
               (True))))))) ∧
         (((101) = (101)) ∧
          ((true) = (true)))) ∧
        ((h) = (h)))) ∧
      (((wr IntKind.u64 (Int.ofNat i)) = (Int.ofNat 7)) → ((((some o) = (some o)) ∧
         (((some (V.int IntKind.u16 s)) = (some (V.int IntKind.u16 s))) ∧
          (((some (V.int IntKind.i64 y)) = (some (V.int IntKind.i64 y))) ∧
           (((some (V.ptr 1000 0)) = (some (V.ptr 1000 0))) ∧
            (((some (V.str w)) = (some (V.str w))) ∧
             (((some (V.int IntKind.i64 (Int.ofNat i))) = (some (V.int IntKind.i64 (Int.ofNat i)))) ∧
              (True))))))) ∧
        (((101) = (101)) ∧
         ((true) = (true)))) ∧
       ((h) = (h)))) ∧
     (((wr IntKind.u64 (Int.ofNat i)) = (Int.ofNat 8)) → ((((some o) = (some o)) ∧
        (((some (V.int IntKind.u16 s)) = (some (V.int IntKind.u16 s))) ∧
         (((some (V.int IntKind.i64 y)) = (some (V.int IntKind.i64 y))) ∧
          (((some (V.ptr 1000 0)) = (some (V.ptr 1000 0))) ∧
           (((some (V.str w)) = (some (V.str w))) ∧
            (((some (V.int IntKind.i64 (Int.ofNat i))) = (some (V.int IntKind.i64 (Int.ofNat i)))) ∧
             (True))))))) ∧
       (((101) = (101)) ∧
        ((true) = (true)))) ∧
      ((h) = (h)))) ∧
    (((wr IntKind.u64 (Int.ofNat i)) = (Int.ofNat 9)) → ((((some o) = (some o)) ∧
       (((some (V.int IntKind.u16 s)) = (some (V.int IntKind.u16 s))) ∧
        (((some (V.int IntKind.i64 y)) = (some (V.int IntKind.i64 y))) ∧
         (((some (V.ptr 1000 0)) = (some (V.ptr 1000 0))) ∧
          (((some (V.str w)) = (some (V.str w))) ∧
           (((some (V.int IntKind.i64 (Int.ofNat i))) = (some (V.int IntKind.i64 (Int.ofNat i)))) ∧
            (True))))))) ∧
      (((101) = (101)) ∧
       ((true) = (true)))) ∧
     ((h) = (h)))) ∧
   (((wr IntKind.u64 (Int.ofNat i)) = (Int.ofNat 10)) → ((((some o) = (some o)) ∧
      (((some (V.int IntKind.u16 s)) = (some (V.int IntKind.u16 s))) ∧
       (((some (V.int IntKind.i64 y)) = (some (V.int IntKind.i64 y))) ∧
        (((some (V.ptr 1000 0)) = (some (V.ptr 1000 0))) ∧
         (((some (V.str w)) = (some (V.str w))) ∧
          (((some (V.int IntKind.i64 (Int.ofNat i))) = (some (V.int IntKind.i64 (Int.ofNat i)))) ∧
           (True))))))) ∧
     (((101) = (101)) ∧
      ((true) = (true)))) ∧
    ((h) = (h)))) ∧
  (((wr IntKind.u64 (Int.ofNat i)) = (Int.ofNat 11)) → ((((some o) = (some o)) ∧
     (((some (V.int IntKind.u16 s)) = (some (V.int IntKind.u16 s))) ∧
      (((some (V.int IntKind.i64 y)) = (some (V.int IntKind.i64 y))) ∧
       (((some (V.ptr 1000 0)) = (some (V.ptr 1000 0))) ∧
        (((some (V.str w)) = (some (V.str w))) ∧
         (((some (V.int IntKind.i64 (Int.ofNat i))) = (some (V.int IntKind.i64 (Int.ofNat i)))) ∧
          (True))))))) ∧
    (((101) = (101)) ∧
     ((true) = (true)))) ∧
   ((h) = (h)))))) := by kernel_rfl
theorem w8A (s y : Int) (w : List UInt8) (i : Nat) (e : Option TypeId) (E : List UInt8 → Prop) : (JT.evL GL (sp false) 40 iWords [y8, r10] (K8 s y .nils (Int.ofNat i) (hW e) E) (S (inv s y .nils w (Int.ofNat i)) (hW e))) = (
((false) = (false)) ∧
(((ilt (Int.ofNat i) (Int.ofNat 12)) = (true)) ∧
 ((∃ x, (cell 12 words T.leaf (Nat.add 0 (i.mul 1))) = (some (V.str x))) ∧
  (∀ y0 : List UInt8, ((cell 12 words T.leaf (Nat.add 0 (i.mul 1))) = (some (V.str y0))) → (((w.length.add y0.length).ble 1000000000) = (true)) ∧
   (((E (w ++ y0))) ∧
    (((((some V.nils) = (some V.nils)) ∧
       (((some (V.int IntKind.u16 s)) = (some (V.int IntKind.u16 s))) ∧
        (((some (V.int IntKind.i64 y)) = (some (V.int IntKind.i64 y))) ∧
         (((some (V.ptr 1000 0)) = (some (V.ptr 1000 0))) ∧
          (((some (V.str (w ++ y0))) = (some (V.str (w ++ y0)))) ∧
           (((some (V.int IntKind.i64 (Int.ofNat i))) = (some (V.int IntKind.i64 (Int.ofNat i)))) ∧
            (True))))))) ∧
      (((101) = (101)) ∧
       ((true) = (true)))) ∧
     (((T.leaf.node
  (some
    (O.ro none 12
      [V.str [], V.str [109, 111, 100, 101, 108], V.str [111, 110, 99, 101], V.str [101, 110, 100, 101, 100],
        V.str [115, 116, 101, 97, 100, 121], V.str [99, 97, 117, 115, 101, 100], V.str [117, 115, 101, 100],
        V.str [99, 111, 117, 110, 116, 115], V.str [113, 117, 111, 116, 97], V.str [115, 116, 97, 108, 101],
        V.str [108, 101, 97, 107, 115], V.str [107, 101, 101, 112, 115]]
      T.leaf))
  (((T.leaf.node none
            ((T.leaf.node none
                  (T.leaf.node none
                    (T.leaf.node none (T.leaf.node none (T.leaf.node (some (O.cells e 12 words T.leaf)) T.leaf))))).node
              none T.leaf)).node
        none T.leaf).node
    (some
      (O.ro none 4
        [V.int IntKind.u8 (Int.ofNat 0), V.int IntKind.u8 (Int.ofNat 111), V.int IntKind.u8 (Int.ofNat 108),
          V.int IntKind.u8 (Int.ofNat 102)]
        T.leaf))
    T.leaf)) = (T.leaf.node
  (some
    (O.ro none 12
      [V.str [], V.str [109, 111, 100, 101, 108], V.str [111, 110, 99, 101], V.str [101, 110, 100, 101, 100],
        V.str [115, 116, 101, 97, 100, 121], V.str [99, 97, 117, 115, 101, 100], V.str [117, 115, 101, 100],
        V.str [99, 111, 117, 110, 116, 115], V.str [113, 117, 111, 116, 97], V.str [115, 116, 97, 108, 101],
        V.str [108, 101, 97, 107, 115], V.str [107, 101, 101, 112, 115]]
      T.leaf))
  (((T.leaf.node none
            ((T.leaf.node none
                  (T.leaf.node none
                    (T.leaf.node none (T.leaf.node none (T.leaf.node (some (O.cells e 12 words T.leaf)) T.leaf))))).node
              none T.leaf)).node
        none T.leaf).node
    (some
      (O.ro none 4
        [V.int IntKind.u8 (Int.ofNat 0), V.int IntKind.u8 (Int.ofNat 111), V.int IntKind.u8 (Int.ofNat 108),
          V.int IntKind.u8 (Int.ofNat 102)]
        T.leaf))
    T.leaf))) ∧
      ((1001) = (1001))))))))) := by kernel_rfl
theorem w8B (s y : Int) (k : Nat) (w : List UInt8) (i : Nat) (e e' : Option TypeId) (L : List V) (E : List UInt8 → Prop) : (JT.evL GL (sp true) 40 iWords [y8, r10] (K8 s y (ou 1001 k) (Int.ofNat i) (hR e e' L) E) (S (inv s y (ou 1001 k) w (Int.ofNat i)) (hR e e' L))) = (
(((ilt (Int.ofNat 0) (Int.ofNat k)) = (true)) → (((w.length.add 2).ble 1000000000) = (true)) ∧
 (((false) = (false)) ∧
  (((ilt (Int.ofNat i) (Int.ofNat 12)) = (true)) ∧
   ((∃ x, (cell 12 words T.leaf (Nat.add 0 (i.mul 1))) = (some (V.str x))) ∧
    (∀ y0 : List UInt8, ((cell 12 words T.leaf (Nat.add 0 (i.mul 1))) = (some (V.str y0))) → ((((w ++ [44, 32]).length.add y0.length).ble 1000000000) = (true)) ∧
     (((E (w ++ [44, 32] ++ y0))) ∧
      (((((some (V.slice 1001 0 k (Cap.atl k 1))) = (some (V.slice 1001 0 k (Cap.atl k 1)))) ∧
         (((some (V.int IntKind.u16 s)) = (some (V.int IntKind.u16 s))) ∧
          (((some (V.int IntKind.i64 y)) = (some (V.int IntKind.i64 y))) ∧
           (((some (V.ptr 1000 0)) = (some (V.ptr 1000 0))) ∧
            (((some (V.str (w ++ [44, 32] ++ y0))) = (some (V.str (w ++ [44, 32] ++ y0)))) ∧
             (((some (V.int IntKind.i64 (Int.ofNat i))) = (some (V.int IntKind.i64 (Int.ofNat i)))) ∧
              (True))))))) ∧
        (((101) = (101)) ∧
         ((true) = (true)))) ∧
       ((((T.leaf.node none
      ((T.leaf.node none
            ((T.leaf.node none
                  (T.leaf.node none
                    (T.leaf.node none
                      (T.leaf.node none (T.leaf.node (some (O.cells e' L.length L T.leaf)) T.leaf))))).node
              none T.leaf)).node
        none T.leaf)).node
  (some
    (O.ro none 12
      [V.str [], V.str [109, 111, 100, 101, 108], V.str [111, 110, 99, 101], V.str [101, 110, 100, 101, 100],
        V.str [115, 116, 101, 97, 100, 121], V.str [99, 97, 117, 115, 101, 100], V.str [117, 115, 101, 100],
        V.str [99, 111, 117, 110, 116, 115], V.str [113, 117, 111, 116, 97], V.str [115, 116, 97, 108, 101],
        V.str [108, 101, 97, 107, 115], V.str [107, 101, 101, 112, 115]]
      T.leaf))
  (((T.leaf.node none
            ((T.leaf.node none
                  (T.leaf.node none
                    (T.leaf.node none (T.leaf.node none (T.leaf.node (some (O.cells e 12 words T.leaf)) T.leaf))))).node
              none T.leaf)).node
        none T.leaf).node
    (some
      (O.ro none 4
        [V.int IntKind.u8 (Int.ofNat 0), V.int IntKind.u8 (Int.ofNat 111), V.int IntKind.u8 (Int.ofNat 108),
          V.int IntKind.u8 (Int.ofNat 102)]
        T.leaf))
    T.leaf)) = ((T.leaf.node none
      ((T.leaf.node none
            ((T.leaf.node none
                  (T.leaf.node none
                    (T.leaf.node none
                      (T.leaf.node none (T.leaf.node (some (O.cells e' L.length L T.leaf)) T.leaf))))).node
              none T.leaf)).node
        none T.leaf)).node
  (some
    (O.ro none 12
      [V.str [], V.str [109, 111, 100, 101, 108], V.str [111, 110, 99, 101], V.str [101, 110, 100, 101, 100],
        V.str [115, 116, 101, 97, 100, 121], V.str [99, 97, 117, 115, 101, 100], V.str [117, 115, 101, 100],
        V.str [99, 111, 117, 110, 116, 115], V.str [113, 117, 111, 116, 97], V.str [115, 116, 97, 108, 101],
        V.str [108, 101, 97, 107, 115], V.str [107, 101, 101, 112, 115]]
      T.leaf))
  (((T.leaf.node none
            ((T.leaf.node none
                  (T.leaf.node none
                    (T.leaf.node none (T.leaf.node none (T.leaf.node (some (O.cells e 12 words T.leaf)) T.leaf))))).node
              none T.leaf)).node
        none T.leaf).node
    (some
      (O.ro none 4
        [V.int IntKind.u8 (Int.ofNat 0), V.int IntKind.u8 (Int.ofNat 111), V.int IntKind.u8 (Int.ofNat 108),
          V.int IntKind.u8 (Int.ofNat 102)]
        T.leaf))
    T.leaf))) ∧
        ((1002) = (1002)))))))))) ∧
(((ilt (Int.ofNat 0) (Int.ofNat k)) = (false)) → ((false) = (false)) ∧
 (((ilt (Int.ofNat i) (Int.ofNat 12)) = (true)) ∧
  ((∃ x, (cell 12 words T.leaf (Nat.add 0 (i.mul 1))) = (some (V.str x))) ∧
   (∀ y0 : List UInt8, ((cell 12 words T.leaf (Nat.add 0 (i.mul 1))) = (some (V.str y0))) → (((w.length.add y0.length).ble 1000000000) = (true)) ∧
    (((E (w ++ y0))) ∧
     (((((some (V.slice 1001 0 k (Cap.atl k 1))) = (some (V.slice 1001 0 k (Cap.atl k 1)))) ∧
        (((some (V.int IntKind.u16 s)) = (some (V.int IntKind.u16 s))) ∧
         (((some (V.int IntKind.i64 y)) = (some (V.int IntKind.i64 y))) ∧
          (((some (V.ptr 1000 0)) = (some (V.ptr 1000 0))) ∧
           (((some (V.str (w ++ y0))) = (some (V.str (w ++ y0)))) ∧
            (((some (V.int IntKind.i64 (Int.ofNat i))) = (some (V.int IntKind.i64 (Int.ofNat i)))) ∧
             (True))))))) ∧
       (((101) = (101)) ∧
        ((true) = (true)))) ∧
      ((((T.leaf.node none
      ((T.leaf.node none
            ((T.leaf.node none
                  (T.leaf.node none
                    (T.leaf.node none
                      (T.leaf.node none (T.leaf.node (some (O.cells e' L.length L T.leaf)) T.leaf))))).node
              none T.leaf)).node
        none T.leaf)).node
  (some
    (O.ro none 12
      [V.str [], V.str [109, 111, 100, 101, 108], V.str [111, 110, 99, 101], V.str [101, 110, 100, 101, 100],
        V.str [115, 116, 101, 97, 100, 121], V.str [99, 97, 117, 115, 101, 100], V.str [117, 115, 101, 100],
        V.str [99, 111, 117, 110, 116, 115], V.str [113, 117, 111, 116, 97], V.str [115, 116, 97, 108, 101],
        V.str [108, 101, 97, 107, 115], V.str [107, 101, 101, 112, 115]]
      T.leaf))
  (((T.leaf.node none
            ((T.leaf.node none
                  (T.leaf.node none
                    (T.leaf.node none (T.leaf.node none (T.leaf.node (some (O.cells e 12 words T.leaf)) T.leaf))))).node
              none T.leaf)).node
        none T.leaf).node
    (some
      (O.ro none 4
        [V.int IntKind.u8 (Int.ofNat 0), V.int IntKind.u8 (Int.ofNat 111), V.int IntKind.u8 (Int.ofNat 108),
          V.int IntKind.u8 (Int.ofNat 102)]
        T.leaf))
    T.leaf)) = ((T.leaf.node none
      ((T.leaf.node none
            ((T.leaf.node none
                  (T.leaf.node none
                    (T.leaf.node none
                      (T.leaf.node none (T.leaf.node (some (O.cells e' L.length L T.leaf)) T.leaf))))).node
              none T.leaf)).node
        none T.leaf)).node
  (some
    (O.ro none 12
      [V.str [], V.str [109, 111, 100, 101, 108], V.str [111, 110, 99, 101], V.str [101, 110, 100, 101, 100],
        V.str [115, 116, 101, 97, 100, 121], V.str [99, 97, 117, 115, 101, 100], V.str [117, 115, 101, 100],
        V.str [99, 111, 117, 110, 116, 115], V.str [113, 117, 111, 116, 97], V.str [115, 116, 97, 108, 101],
        V.str [108, 101, 97, 107, 115], V.str [107, 101, 101, 112, 115]]
      T.leaf))
  (((T.leaf.node none
            ((T.leaf.node none
                  (T.leaf.node none
                    (T.leaf.node none (T.leaf.node none (T.leaf.node (some (O.cells e 12 words T.leaf)) T.leaf))))).node
              none T.leaf)).node
        none T.leaf).node
    (some
      (O.ro none 4
        [V.int IntKind.u8 (Int.ofNat 0), V.int IntKind.u8 (Int.ofNat 111), V.int IntKind.u8 (Int.ofNat 108),
          V.int IntKind.u8 (Int.ofNat 102)]
        T.leaf))
    T.leaf))) ∧
       ((1002) = (1002)))))))))) := by kernel_rfl
theorem w11A (s y : Int) (w : List UInt8) (i : Nat) (e : Option TypeId) : (evW GL (sp false) 40 r11 none iWords (S (inv s y .nils w (Int.ofNat i)) (hW e)) (KA (inv s y (ou 1002 1) w (Int.ofNat i)) e [.int .i64 (Int.ofNat i)])) = (
((((some (V.slice 1002 0 1 (Cap.atl 1 1))) = (some (V.slice 1002 0 1 (Cap.atl 1 1)))) ∧
  (((some (V.int IntKind.u16 s)) = (some (V.int IntKind.u16 s))) ∧
   (((some (V.int IntKind.i64 y)) = (some (V.int IntKind.i64 y))) ∧
    (((some (V.ptr 1000 0)) = (some (V.ptr 1000 0))) ∧
     (((some (V.str w)) = (some (V.str w))) ∧
      (((some (V.int IntKind.i64 (Int.ofNat i))) = (some (V.int IntKind.i64 (Int.ofNat i)))) ∧
       (True))))))) ∧
 (((101) = (101)) ∧
  ((true) = (true)))) ∧
(((1003) = (1003)) ∧
 (((some
  (O.ro none 4
    [V.int IntKind.u8 (Int.ofNat 0), V.int IntKind.u8 (Int.ofNat 111), V.int IntKind.u8 (Int.ofNat 108),
      V.int IntKind.u8 (Int.ofNat 102)]
    T.leaf)) = (some
  (O.ro none 4
    [V.int IntKind.u8 (Int.ofNat 0), V.int IntKind.u8 (Int.ofNat 111), V.int IntKind.u8 (Int.ofNat 108),
      V.int IntKind.u8 (Int.ofNat 102)]
    T.leaf))) ∧
  (((some
  (O.ro none 12
    [V.str [], V.str [109, 111, 100, 101, 108], V.str [111, 110, 99, 101], V.str [101, 110, 100, 101, 100],
      V.str [115, 116, 101, 97, 100, 121], V.str [99, 97, 117, 115, 101, 100], V.str [117, 115, 101, 100],
      V.str [99, 111, 117, 110, 116, 115], V.str [113, 117, 111, 116, 97], V.str [115, 116, 97, 108, 101],
      V.str [108, 101, 97, 107, 115], V.str [107, 101, 101, 112, 115]]
    T.leaf)) = (some
  (O.ro none 12
    [V.str [], V.str [109, 111, 100, 101, 108], V.str [111, 110, 99, 101], V.str [101, 110, 100, 101, 100],
      V.str [115, 116, 101, 97, 100, 121], V.str [99, 97, 117, 115, 101, 100], V.str [117, 115, 101, 100],
      V.str [99, 111, 117, 110, 116, 115], V.str [113, 117, 111, 116, 97], V.str [115, 116, 97, 108, 101],
      V.str [108, 101, 97, 107, 115], V.str [107, 101, 101, 112, 115]]
    T.leaf))) ∧
   (((some (O.cells e 12 words T.leaf)) = (some (O.cells e 12 words T.leaf))) ∧
    (((true) = (true)) ∧
     ((some [V.int IntKind.i64 (Int.ofNat i)]) = (some [V.int IntKind.i64 (Int.ofNat i)])))))))) := by kernel_rfl
theorem w11B (s y : Int) (k : Nat) (w : List UInt8) (i : Nat) (e e' : Option TypeId) (L : List V) : (regW GL (sp true) (cT true) iWords (cOps r11) (opsPart (cOps r11) 0 3) (envL 101 (inv s y (ou 1001 k) w (Int.ofNat i))) (hR e e' L) (KM ((36, ou 1001 k) :: (38, .slice 1002 0 1 (.known 1)) :: inv s y (ou 1001 k) w (Int.ofNat i)) 1003 1002 (hR e e' L) (Int.ofNat i))) = (
(((some (V.slice 1001 0 k (Cap.atl k 1))) = (some (V.slice 1001 0 k (Cap.atl k 1)))) ∧
 (((some (V.slice 1002 0 1 (Cap.known 1))) = (some (V.slice 1002 0 1 (Cap.known 1)))) ∧
  (((some (V.slice 1001 0 k (Cap.atl k 1))) = (some (V.slice 1001 0 k (Cap.atl k 1)))) ∧
   (((some (V.int IntKind.u16 s)) = (some (V.int IntKind.u16 s))) ∧
    (((some (V.int IntKind.i64 y)) = (some (V.int IntKind.i64 y))) ∧
     (((some (V.ptr 1000 0)) = (some (V.ptr 1000 0))) ∧
      (((some (V.str w)) = (some (V.str w))) ∧
       (((some (V.int IntKind.i64 (Int.ofNat i))) = (some (V.int IntKind.i64 (Int.ofNat i)))) ∧
        (True))))))))) ∧
(((101) = (101)) ∧
 (((1003) = (1003)) ∧
  (((some
  (O.ro none 4
    [V.int IntKind.u8 (Int.ofNat 0), V.int IntKind.u8 (Int.ofNat 111), V.int IntKind.u8 (Int.ofNat 108),
      V.int IntKind.u8 (Int.ofNat 102)]
    T.leaf)) = (some
  (O.ro none 4
    [V.int IntKind.u8 (Int.ofNat 0), V.int IntKind.u8 (Int.ofNat 111), V.int IntKind.u8 (Int.ofNat 108),
      V.int IntKind.u8 (Int.ofNat 102)]
    T.leaf))) ∧
   (((some
  (O.ro none 12
    [V.str [], V.str [109, 111, 100, 101, 108], V.str [111, 110, 99, 101], V.str [101, 110, 100, 101, 100],
      V.str [115, 116, 101, 97, 100, 121], V.str [99, 97, 117, 115, 101, 100], V.str [117, 115, 101, 100],
      V.str [99, 111, 117, 110, 116, 115], V.str [113, 117, 111, 116, 97], V.str [115, 116, 97, 108, 101],
      V.str [108, 101, 97, 107, 115], V.str [107, 101, 101, 112, 115]]
    T.leaf)) = (some
  (O.ro none 12
    [V.str [], V.str [109, 111, 100, 101, 108], V.str [111, 110, 99, 101], V.str [101, 110, 100, 101, 100],
      V.str [115, 116, 101, 97, 100, 121], V.str [99, 97, 117, 115, 101, 100], V.str [117, 115, 101, 100],
      V.str [99, 111, 117, 110, 116, 115], V.str [113, 117, 111, 116, 97], V.str [115, 116, 97, 108, 101],
      V.str [108, 101, 97, 107, 115], V.str [107, 101, 101, 112, 115]]
    T.leaf))) ∧
    (((some (O.cells e 12 words T.leaf)) = (some (O.cells e 12 words T.leaf))) ∧
     (((some (O.cells e' L.length L T.leaf)) = (some (O.cells e' L.length L T.leaf))) ∧
      (((true) = (true)) ∧
       ((some [V.int IntKind.i64 (Int.ofNat i)]) = (some [V.int IntKind.i64 (Int.ofNat i)])))))))))) := by kernel_rfl
theorem w11C (s y : Int) (_k : Nat) (w : List UInt8) (i : Nat) (o : V) (h : H) : (regW GL (sp true) (cT true) iWords (cOps r11) (opsPart (cOps r11) 4 1) (envL 101 [(39, o), (0, .int .u16 s), (1, .int .i64 y), (5, .ptr 1000 0), (7, .str w), (8, .int .i64 (Int.ofNat i))]) h (KH (inv s y o w (Int.ofNat i)) h)) = (
(((some o) = (some o)) ∧
 (((some (V.int IntKind.u16 s)) = (some (V.int IntKind.u16 s))) ∧
  (((some (V.int IntKind.i64 y)) = (some (V.int IntKind.i64 y))) ∧
   (((some (V.ptr 1000 0)) = (some (V.ptr 1000 0))) ∧
    (((some (V.str w)) = (some (V.str w))) ∧
     (((some (V.int IntKind.i64 (Int.ofNat i))) = (some (V.int IntKind.i64 (Int.ofNat i)))) ∧
      (True))))))) ∧
(((101) = (101)) ∧
 ((h) = (h)))) := by kernel_rfl
theorem w6 (s y : Int) (o : V) (w : List UInt8) (i : Nat) (h : H) : (evW GL (sp false) 40 r6 none iWords (S (inv s y o w (Int.ofNat i)) h) (KD (inv s y o w (wr .i64 (Int.add (Int.ofNat i) (Int.ofNat 1)))) h)) = (
((((some o) = (some o)) ∧
  (((some (V.int IntKind.u16 s)) = (some (V.int IntKind.u16 s))) ∧
   (((some (V.int IntKind.i64 y)) = (some (V.int IntKind.i64 y))) ∧
    (((some (V.ptr 1000 0)) = (some (V.ptr 1000 0))) ∧
     (((some (V.str w)) = (some (V.str w))) ∧
      (((some (V.int IntKind.i64 (wr IntKind.i64 ((Int.ofNat i).add (Int.ofNat 1))))) = (some (V.int IntKind.i64 (wr IntKind.i64 ((Int.ofNat i).add (Int.ofNat 1)))))) ∧
       (True))))))) ∧
 (((101) = (101)) ∧
  ((true) = (true)))) ∧
((h) = (h))) := by kernel_rfl
theorem w12A (y : Int) (h : H) : (evW GL (sp false) 40 y12 none iWords (S [(6, .nils), (1, .int .i64 y), (7, .str [])] h) (KD [(6, .nils), (1, .int .i64 y), (7, .str nothing)] h)) = (
((((some V.nils) = (some V.nils)) ∧
  (((some (V.int IntKind.i64 y)) = (some (V.int IntKind.i64 y))) ∧
   (((some (V.str [110, 111, 116, 104, 105, 110, 103])) = (some (V.str [110, 111, 116, 104, 105, 110, 103]))) ∧
    (True)))) ∧
 (((101) = (101)) ∧
  ((true) = (true)))) ∧
((h) = (h))) := by kernel_rfl
theorem w12B (y : Int) (k : Nat) (w : List UInt8) (h : H) : (evW GL (sp true) 40 y12 none iWords (S [(6, ou 1001 k), (1, .int .i64 y), (7, .str w)] h) (KD [(6, ou 1001 k), (1, .int .i64 y), (7, .str w)] h)) = (
(((ieq (Int.ofNat k) (Int.ofNat 0)) = (true)) → ((((some (V.slice 1001 0 k (Cap.atl k 1))) = (some (V.slice 1001 0 k (Cap.atl k 1)))) ∧
   (((some (V.int IntKind.i64 y)) = (some (V.int IntKind.i64 y))) ∧
    (((some (V.str [110, 111, 116, 104, 105, 110, 103])) = (some (V.str w))) ∧
     (True)))) ∧
  (((101) = (101)) ∧
   ((true) = (true)))) ∧
 ((h) = (h))) ∧
(((ieq (Int.ofNat k) (Int.ofNat 0)) = (false)) → ((((some (V.slice 1001 0 k (Cap.atl k 1))) = (some (V.slice 1001 0 k (Cap.atl k 1)))) ∧
   (((some (V.int IntKind.i64 y)) = (some (V.int IntKind.i64 y))) ∧
    (((some (V.str w)) = (some (V.str w))) ∧
     (True)))) ∧
  (((101) = (101)) ∧
   ((true) = (true)))) ∧
 ((h) = (h)))) := by kernel_rfl
theorem w14a (y : Int) (a : V) (w : List UInt8) (h : H) : (regW GL (sp true) (cT true) iWords (cOps r14) (opsPart (cOps r14) 0 1) (envL 101 [(6, a), (1, .int .i64 y), (7, .str w)]) h (KH [(44, a), (6, a), (1, .int .i64 y), (7, .str w)] h)) = (
(((some a) = (some a)) ∧
 (((some a) = (some a)) ∧
  (((some (V.int IntKind.i64 y)) = (some (V.int IntKind.i64 y))) ∧
   (((some (V.str w)) = (some (V.str w))) ∧
    (True))))) ∧
(((101) = (101)) ∧
 ((h) = (h)))) := by kernel_rfl
theorem w14b (y : Int) (a : V) (w t : List UInt8) (e : Int) (h : H) : (regW GL (sp true) (cT true) iWords (cOps r14) (opsPart (cOps r14) 2 5) (envL 101 [(45, .tuple [.str t, .int .i64 e]), (6, a), (1, .int .i64 y), (7, .str w)]) h (KH [(6, a), (1, .int .i64 y), (7, .str w), (9, .str t), (10, .int .i64 e)] h)) = (
(((some a) = (some a)) ∧
 (((some (V.int IntKind.i64 y)) = (some (V.int IntKind.i64 y))) ∧
  (((some (V.str w)) = (some (V.str w))) ∧
   (((some (V.str t)) = (some (V.str t))) ∧
    (((some (V.int IntKind.i64 e)) = (some (V.int IntKind.i64 e))) ∧
     (True)))))) ∧
(((101) = (101)) ∧
 ((h) = (h)))) := by kernel_rfl
theorem w15A (y : Int) (w : List UInt8) (e : Int) (h : H) : (JT.evL GL (sp false) 40 iWords [r15, y16] (KD [(6, .nils), (1, .int .i64 y), (7, .str w), (9, .str w), (10, .int .i64 e), (11, .int .i64 (Int.ofNat 0))] h) (S [(6, .nils), (1, .int .i64 y), (7, .str w), (9, .str w), (10, .int .i64 e)] h)) = (
((((some V.nils) = (some V.nils)) ∧
  (((some (V.int IntKind.i64 y)) = (some (V.int IntKind.i64 y))) ∧
   (((some (V.str w)) = (some (V.str w))) ∧
    (((some (V.str w)) = (some (V.str w))) ∧
     (((some (V.int IntKind.i64 e)) = (some (V.int IntKind.i64 e))) ∧
      (((some (V.int IntKind.i64 (Int.ofNat 0))) = (some (V.int IntKind.i64 (Int.ofNat 0)))) ∧
       (True))))))) ∧
 (((101) = (101)) ∧
  ((true) = (true)))) ∧
((h) = (h))) := by kernel_rfl
theorem w15B (y x : Int) (k : Nat) (w : List UInt8) (f : Int) (e e' : Option TypeId) (L : List V) : (JT.evL GL (sp true) 40 iWords [r15, y16] (KE [(6, ou 1001 k), (1, .int .i64 y), (7, .str w), (9, .str w), (10, .int .i64 f), (11, .int .i64 x)] (hR e e' L)) (S [(6, ou 1001 k), (1, .int .i64 y), (7, .str w), (9, .str w), (10, .int .i64 f)] (hR e e' L))) = (
(((ilt (Int.ofNat 0) (Int.ofNat k)) = (true)) → ((ilt (wr IntKind.i64 ((Int.ofNat k).sub (Int.ofNat 1))) (Int.ofNat 0)) = (false)) ∧
 (((ilt (wr IntKind.i64 ((Int.ofNat k).sub (Int.ofNat 1))) (Int.ofNat k)) = (true)) ∧
  ((∃ x, (cell L.length L T.leaf
  (Nat.add 0
    ((match wr IntKind.i64 ((Int.ofNat k).sub (Int.ofNat 1)) with
        | Int.ofNat n => n
        | Int.negSucc _a => 0).mul
      1))) = (some (V.int IntKind.i64 x))) ∧
   (∀ y0 : Int, ((cell L.length L T.leaf
  (Nat.add 0
    ((match wr IntKind.i64 ((Int.ofNat k).sub (Int.ofNat 1)) with
        | Int.ofNat n => n
        | Int.negSucc _a => 0).mul
      1))) = (some (V.int IntKind.i64 y0))) → ((((some (V.slice 1001 0 k (Cap.atl k 1))) = (some (V.slice 1001 0 k (Cap.atl k 1)))) ∧
      (((some (V.int IntKind.i64 y)) = (some (V.int IntKind.i64 y))) ∧
       (((some (V.str w)) = (some (V.str w))) ∧
        (((some (V.str w)) = (some (V.str w))) ∧
         (((some (V.int IntKind.i64 f)) = (some (V.int IntKind.i64 f))) ∧
          (((some (V.int IntKind.i64 y0)) = (some (V.int IntKind.i64 x))) ∧
           (True))))))) ∧
     (((101) = (101)) ∧
      ((true) = (true)))) ∧
    ((((T.leaf.node none
      ((T.leaf.node none
            ((T.leaf.node none
                  (T.leaf.node none
                    (T.leaf.node none
                      (T.leaf.node none (T.leaf.node (some (O.cells e' L.length L T.leaf)) T.leaf))))).node
              none T.leaf)).node
        none T.leaf)).node
  (some
    (O.ro none 12
      [V.str [], V.str [109, 111, 100, 101, 108], V.str [111, 110, 99, 101], V.str [101, 110, 100, 101, 100],
        V.str [115, 116, 101, 97, 100, 121], V.str [99, 97, 117, 115, 101, 100], V.str [117, 115, 101, 100],
        V.str [99, 111, 117, 110, 116, 115], V.str [113, 117, 111, 116, 97], V.str [115, 116, 97, 108, 101],
        V.str [108, 101, 97, 107, 115], V.str [107, 101, 101, 112, 115]]
      T.leaf))
  (((T.leaf.node none
            ((T.leaf.node none
                  (T.leaf.node none
                    (T.leaf.node none (T.leaf.node none (T.leaf.node (some (O.cells e 12 words T.leaf)) T.leaf))))).node
              none T.leaf)).node
        none T.leaf).node
    (some
      (O.ro none 4
        [V.int IntKind.u8 (Int.ofNat 0), V.int IntKind.u8 (Int.ofNat 111), V.int IntKind.u8 (Int.ofNat 108),
          V.int IntKind.u8 (Int.ofNat 102)]
        T.leaf))
    T.leaf)) = ((T.leaf.node none
      ((T.leaf.node none
            ((T.leaf.node none
                  (T.leaf.node none
                    (T.leaf.node none
                      (T.leaf.node none (T.leaf.node (some (O.cells e' L.length L T.leaf)) T.leaf))))).node
              none T.leaf)).node
        none T.leaf)).node
  (some
    (O.ro none 12
      [V.str [], V.str [109, 111, 100, 101, 108], V.str [111, 110, 99, 101], V.str [101, 110, 100, 101, 100],
        V.str [115, 116, 101, 97, 100, 121], V.str [99, 97, 117, 115, 101, 100], V.str [117, 115, 101, 100],
        V.str [99, 111, 117, 110, 116, 115], V.str [113, 117, 111, 116, 97], V.str [115, 116, 97, 108, 101],
        V.str [108, 101, 97, 107, 115], V.str [107, 101, 101, 112, 115]]
      T.leaf))
  (((T.leaf.node none
            ((T.leaf.node none
                  (T.leaf.node none
                    (T.leaf.node none (T.leaf.node none (T.leaf.node (some (O.cells e 12 words T.leaf)) T.leaf))))).node
              none T.leaf)).node
        none T.leaf).node
    (some
      (O.ro none 4
        [V.int IntKind.u8 (Int.ofNat 0), V.int IntKind.u8 (Int.ofNat 111), V.int IntKind.u8 (Int.ofNat 108),
          V.int IntKind.u8 (Int.ofNat 102)]
        T.leaf))
    T.leaf))) ∧
     ((1002) = (1002))))))) ∧
(((ilt (Int.ofNat 0) (Int.ofNat k)) = (false)) → ((((some (V.slice 1001 0 k (Cap.atl k 1))) = (some (V.slice 1001 0 k (Cap.atl k 1)))) ∧
   (((some (V.int IntKind.i64 y)) = (some (V.int IntKind.i64 y))) ∧
    (((some (V.str w)) = (some (V.str w))) ∧
     (((some (V.str w)) = (some (V.str w))) ∧
      (((some (V.int IntKind.i64 f)) = (some (V.int IntKind.i64 f))) ∧
       (((some (V.int IntKind.i64 (Int.ofNat 0))) = (some (V.int IntKind.i64 x))) ∧
        (True))))))) ∧
  (((101) = (101)) ∧
   ((true) = (true)))) ∧
 ((((T.leaf.node none
      ((T.leaf.node none
            ((T.leaf.node none
                  (T.leaf.node none
                    (T.leaf.node none
                      (T.leaf.node none (T.leaf.node (some (O.cells e' L.length L T.leaf)) T.leaf))))).node
              none T.leaf)).node
        none T.leaf)).node
  (some
    (O.ro none 12
      [V.str [], V.str [109, 111, 100, 101, 108], V.str [111, 110, 99, 101], V.str [101, 110, 100, 101, 100],
        V.str [115, 116, 101, 97, 100, 121], V.str [99, 97, 117, 115, 101, 100], V.str [117, 115, 101, 100],
        V.str [99, 111, 117, 110, 116, 115], V.str [113, 117, 111, 116, 97], V.str [115, 116, 97, 108, 101],
        V.str [108, 101, 97, 107, 115], V.str [107, 101, 101, 112, 115]]
      T.leaf))
  (((T.leaf.node none
            ((T.leaf.node none
                  (T.leaf.node none
                    (T.leaf.node none (T.leaf.node none (T.leaf.node (some (O.cells e 12 words T.leaf)) T.leaf))))).node
              none T.leaf)).node
        none T.leaf).node
    (some
      (O.ro none 4
        [V.int IntKind.u8 (Int.ofNat 0), V.int IntKind.u8 (Int.ofNat 111), V.int IntKind.u8 (Int.ofNat 108),
          V.int IntKind.u8 (Int.ofNat 102)]
        T.leaf))
    T.leaf)) = ((T.leaf.node none
      ((T.leaf.node none
            ((T.leaf.node none
                  (T.leaf.node none
                    (T.leaf.node none
                      (T.leaf.node none (T.leaf.node (some (O.cells e' L.length L T.leaf)) T.leaf))))).node
              none T.leaf)).node
        none T.leaf)).node
  (some
    (O.ro none 12
      [V.str [], V.str [109, 111, 100, 101, 108], V.str [111, 110, 99, 101], V.str [101, 110, 100, 101, 100],
        V.str [115, 116, 101, 97, 100, 121], V.str [99, 97, 117, 115, 101, 100], V.str [117, 115, 101, 100],
        V.str [99, 111, 117, 110, 116, 115], V.str [113, 117, 111, 116, 97], V.str [115, 116, 97, 108, 101],
        V.str [108, 101, 97, 107, 115], V.str [107, 101, 101, 112, 115]]
      T.leaf))
  (((T.leaf.node none
            ((T.leaf.node none
                  (T.leaf.node none
                    (T.leaf.node none (T.leaf.node none (T.leaf.node (some (O.cells e 12 words T.leaf)) T.leaf))))).node
              none T.leaf)).node
        none T.leaf).node
    (some
      (O.ro none 4
        [V.int IntKind.u8 (Int.ofNat 0), V.int IntKind.u8 (Int.ofNat 111), V.int IntKind.u8 (Int.ofNat 108),
          V.int IntKind.u8 (Int.ofNat 102)]
        T.leaf))
    T.leaf))) ∧
  ((1002) = (1002))))) := by kernel_rfl
theorem w18A (y : Int) (w : List UInt8) (f x : Int) (e : Option TypeId) : (regW GL (sp false) (cT false) iWords (cOps r18) (opsPart (cOps r18) 0 6) (envL 101 [(6, .nils), (1, .int .i64 y), (7, .str w), (9, .str w), (10, .int .i64 f), (11, .int .i64 x)]) (hW e) (KN [(63, ou 1003 1), (1, .int .i64 y), (7, .str w), (9, .str w), (10, .int .i64 f), (11, .int .i64 x)] 1004 1003 (hW e) y)) = (
(((some (V.slice 1003 0 1 (Cap.atl 1 1))) = (some (V.slice 1003 0 1 (Cap.atl 1 1)))) ∧
 (((some (V.int IntKind.i64 y)) = (some (V.int IntKind.i64 y))) ∧
  (((some (V.str w)) = (some (V.str w))) ∧
   (((some (V.str w)) = (some (V.str w))) ∧
    (((some (V.int IntKind.i64 f)) = (some (V.int IntKind.i64 f))) ∧
     (((some (V.int IntKind.i64 x)) = (some (V.int IntKind.i64 x))) ∧
      (True))))))) ∧
(((101) = (101)) ∧
 (((1004) = (1004)) ∧
  (((some
  (O.ro none 4
    [V.int IntKind.u8 (Int.ofNat 0), V.int IntKind.u8 (Int.ofNat 111), V.int IntKind.u8 (Int.ofNat 108),
      V.int IntKind.u8 (Int.ofNat 102)]
    T.leaf)) = (some
  (O.ro none 4
    [V.int IntKind.u8 (Int.ofNat 0), V.int IntKind.u8 (Int.ofNat 111), V.int IntKind.u8 (Int.ofNat 108),
      V.int IntKind.u8 (Int.ofNat 102)]
    T.leaf))) ∧
   (((some
  (O.ro none 12
    [V.str [], V.str [109, 111, 100, 101, 108], V.str [111, 110, 99, 101], V.str [101, 110, 100, 101, 100],
      V.str [115, 116, 101, 97, 100, 121], V.str [99, 97, 117, 115, 101, 100], V.str [117, 115, 101, 100],
      V.str [99, 111, 117, 110, 116, 115], V.str [113, 117, 111, 116, 97], V.str [115, 116, 97, 108, 101],
      V.str [108, 101, 97, 107, 115], V.str [107, 101, 101, 112, 115]]
    T.leaf)) = (some
  (O.ro none 12
    [V.str [], V.str [109, 111, 100, 101, 108], V.str [111, 110, 99, 101], V.str [101, 110, 100, 101, 100],
      V.str [115, 116, 101, 97, 100, 121], V.str [99, 97, 117, 115, 101, 100], V.str [117, 115, 101, 100],
      V.str [99, 111, 117, 110, 116, 115], V.str [113, 117, 111, 116, 97], V.str [115, 116, 97, 108, 101],
      V.str [108, 101, 97, 107, 115], V.str [107, 101, 101, 112, 115]]
    T.leaf))) ∧
    (((some (O.cells e 12 words T.leaf)) = (some (O.cells e 12 words T.leaf))) ∧
     (((true) = (true)) ∧
      ((some [V.int IntKind.i64 y]) = (some [V.int IntKind.i64 y]))))))))) := by kernel_rfl
theorem w18B (y : Int) (k : Nat) (w : List UInt8) (f x : Int) (e e' : Option TypeId) (L : List V) : (regW GL (sp true) (cT true) iWords (cOps r18) (opsPart (cOps r18) 0 2) (envL 101 [(6, ou 1001 k), (1, .int .i64 y), (7, .str w), (9, .str w), (10, .int .i64 f), (11, .int .i64 x)]) (hR e e' L) (KZ [(58, .slice 1002 0 0 (.known 0)), (59, ou 1001 k), (1, .int .i64 y), (7, .str w), (9, .str w), (10, .int .i64 f), (11, .int .i64 x)] (hR e e' L))) = (
(((some (V.slice 1002 0 0 (Cap.known 0))) = (some (V.slice 1002 0 0 (Cap.known 0)))) ∧
 (((some (V.slice 1001 0 k (Cap.atl k 1))) = (some (V.slice 1001 0 k (Cap.atl k 1)))) ∧
  (((some (V.int IntKind.i64 y)) = (some (V.int IntKind.i64 y))) ∧
   (((some (V.str w)) = (some (V.str w))) ∧
    (((some (V.str w)) = (some (V.str w))) ∧
     (((some (V.int IntKind.i64 f)) = (some (V.int IntKind.i64 f))) ∧
      (((some (V.int IntKind.i64 x)) = (some (V.int IntKind.i64 x))) ∧
       (True)))))))) ∧
(((101) = (101)) ∧
 (((1003) = (1003)) ∧
  (((some
  (O.ro none 4
    [V.int IntKind.u8 (Int.ofNat 0), V.int IntKind.u8 (Int.ofNat 111), V.int IntKind.u8 (Int.ofNat 108),
      V.int IntKind.u8 (Int.ofNat 102)]
    T.leaf)) = (some
  (O.ro none 4
    [V.int IntKind.u8 (Int.ofNat 0), V.int IntKind.u8 (Int.ofNat 111), V.int IntKind.u8 (Int.ofNat 108),
      V.int IntKind.u8 (Int.ofNat 102)]
    T.leaf))) ∧
   (((some
  (O.ro none 12
    [V.str [], V.str [109, 111, 100, 101, 108], V.str [111, 110, 99, 101], V.str [101, 110, 100, 101, 100],
      V.str [115, 116, 101, 97, 100, 121], V.str [99, 97, 117, 115, 101, 100], V.str [117, 115, 101, 100],
      V.str [99, 111, 117, 110, 116, 115], V.str [113, 117, 111, 116, 97], V.str [115, 116, 97, 108, 101],
      V.str [108, 101, 97, 107, 115], V.str [107, 101, 101, 112, 115]]
    T.leaf)) = (some
  (O.ro none 12
    [V.str [], V.str [109, 111, 100, 101, 108], V.str [111, 110, 99, 101], V.str [101, 110, 100, 101, 100],
      V.str [115, 116, 101, 97, 100, 121], V.str [99, 97, 117, 115, 101, 100], V.str [117, 115, 101, 100],
      V.str [99, 111, 117, 110, 116, 115], V.str [113, 117, 111, 116, 97], V.str [115, 116, 97, 108, 101],
      V.str [108, 101, 97, 107, 115], V.str [107, 101, 101, 112, 115]]
    T.leaf))) ∧
    (((some (O.cells e 12 words T.leaf)) = (some (O.cells e 12 words T.leaf))) ∧
     (((some (O.cells e' L.length L T.leaf)) = (some (O.cells e' L.length L T.leaf))) ∧
      (True)))))))) := by kernel_rfl
theorem w18C (y : Int) (w : List UInt8) (f x : Int) (k : Nat) (e : Option TypeId) (L : List V) : (regW GL (sp true) (cT true) iWords (cOps r18) (opsPart (cOps r18) 3 2) (envL 101 [(60, ou 1001 k), (1, .int .i64 y), (7, .str w), (9, .str w), (10, .int .i64 f), (11, .int .i64 x)]) (hR e (some tInt) L) (KM [(60, ou 1001 k), (62, .slice 1002 0 1 (.known 1)), (1, .int .i64 y), (7, .str w), (9, .str w), (10, .int .i64 f), (11, .int .i64 x)] 1003 1002 (hR e (some tInt) L) y)) = (
(((some (V.slice 1001 0 k (Cap.atl k 1))) = (some (V.slice 1001 0 k (Cap.atl k 1)))) ∧
 (((some (V.slice 1002 0 1 (Cap.known 1))) = (some (V.slice 1002 0 1 (Cap.known 1)))) ∧
  (((some (V.int IntKind.i64 y)) = (some (V.int IntKind.i64 y))) ∧
   (((some (V.str w)) = (some (V.str w))) ∧
    (((some (V.str w)) = (some (V.str w))) ∧
     (((some (V.int IntKind.i64 f)) = (some (V.int IntKind.i64 f))) ∧
      (((some (V.int IntKind.i64 x)) = (some (V.int IntKind.i64 x))) ∧
       (True)))))))) ∧
(((101) = (101)) ∧
 (((1003) = (1003)) ∧
  (((some
  (O.ro none 4
    [V.int IntKind.u8 (Int.ofNat 0), V.int IntKind.u8 (Int.ofNat 111), V.int IntKind.u8 (Int.ofNat 108),
      V.int IntKind.u8 (Int.ofNat 102)]
    T.leaf)) = (some
  (O.ro none 4
    [V.int IntKind.u8 (Int.ofNat 0), V.int IntKind.u8 (Int.ofNat 111), V.int IntKind.u8 (Int.ofNat 108),
      V.int IntKind.u8 (Int.ofNat 102)]
    T.leaf))) ∧
   (((some
  (O.ro none 12
    [V.str [], V.str [109, 111, 100, 101, 108], V.str [111, 110, 99, 101], V.str [101, 110, 100, 101, 100],
      V.str [115, 116, 101, 97, 100, 121], V.str [99, 97, 117, 115, 101, 100], V.str [117, 115, 101, 100],
      V.str [99, 111, 117, 110, 116, 115], V.str [113, 117, 111, 116, 97], V.str [115, 116, 97, 108, 101],
      V.str [108, 101, 97, 107, 115], V.str [107, 101, 101, 112, 115]]
    T.leaf)) = (some
  (O.ro none 12
    [V.str [], V.str [109, 111, 100, 101, 108], V.str [111, 110, 99, 101], V.str [101, 110, 100, 101, 100],
      V.str [115, 116, 101, 97, 100, 121], V.str [99, 97, 117, 115, 101, 100], V.str [117, 115, 101, 100],
      V.str [99, 111, 117, 110, 116, 115], V.str [113, 117, 111, 116, 97], V.str [115, 116, 97, 108, 101],
      V.str [108, 101, 97, 107, 115], V.str [107, 101, 101, 112, 115]]
    T.leaf))) ∧
    (((some (O.cells e 12 words T.leaf)) = (some (O.cells e 12 words T.leaf))) ∧
     (((some (O.cells (some 3) L.length L T.leaf)) = (some (O.cells (some 3) L.length L T.leaf))) ∧
      (((true) = (true)) ∧
       ((some [V.int IntKind.i64 y]) = (some [V.int IntKind.i64 y])))))))))) := by kernel_rfl
theorem w18D (y : Int) (t : List UInt8) (g : Int) (w : List UInt8) (f x : Int) (h : H) : (regW GL (sp true) (cT true) iWords (cOps r18) (opsPart (cOps r18) 7 5) (envL 101 [(64, .tuple [.str t, .int .i64 g]), (1, .int .i64 y), (7, .str w), (9, .str w), (10, .int .i64 f), (11, .int .i64 x)]) h (KH [(1, .int .i64 y), (7, .str w), (9, .str w), (10, .int .i64 f), (11, .int .i64 x), (12, .str t), (13, .int .i64 g)] h)) = (
(((some (V.int IntKind.i64 y)) = (some (V.int IntKind.i64 y))) ∧
 (((some (V.str w)) = (some (V.str w))) ∧
  (((some (V.str w)) = (some (V.str w))) ∧
   (((some (V.int IntKind.i64 f)) = (some (V.int IntKind.i64 f))) ∧
    (((some (V.int IntKind.i64 x)) = (some (V.int IntKind.i64 x))) ∧
     (((some (V.str t)) = (some (V.str t))) ∧
      (((some (V.int IntKind.i64 g)) = (some (V.int IntKind.i64 g))) ∧
       (True)))))))) ∧
(((101) = (101)) ∧
 ((h) = (h)))) := by kernel_rfl
/-! the end -/
theorem w19g (y o : Int) (f : Int) (w t : List UInt8) (h : H) : (evW GL (sp true) 40 r19 none iWords (S [(1, .int .i64 o), (7, .str w), (9, .str w), (10, .int .i64 f), (11, .int .i64 y), (12, .str t), (13, .int .i64 f)] h) (KD [(1, .int .i64 o), (7, .str w), (9, .str w), (10, .int .i64 f), (12, .str t), (13, .int .i64 f), (14, .bool true)] h)) = (
(((ilt y o) = (true)) → (((!ilt (Int.ofNat 11) o) = (true)) → ((((some (V.int IntKind.i64 o)) = (some (V.int IntKind.i64 o))) ∧
    (((some (V.str w)) = (some (V.str w))) ∧
     (((some (V.str w)) = (some (V.str w))) ∧
      (((some (V.int IntKind.i64 f)) = (some (V.int IntKind.i64 f))) ∧
       (((some (V.str t)) = (some (V.str t))) ∧
        (((some (V.int IntKind.i64 f)) = (some (V.int IntKind.i64 f))) ∧
         (((some (V.bool true)) = (some (V.bool true))) ∧
          (True)))))))) ∧
   (((101) = (101)) ∧
    ((true) = (true)))) ∧
  ((h) = (h))) ∧
 (((!ilt (Int.ofNat 11) o) = (false)) → ((((some (V.int IntKind.i64 o)) = (some (V.int IntKind.i64 o))) ∧
    (((some (V.str w)) = (some (V.str w))) ∧
     (((some (V.str w)) = (some (V.str w))) ∧
      (((some (V.int IntKind.i64 f)) = (some (V.int IntKind.i64 f))) ∧
       (((some (V.str t)) = (some (V.str t))) ∧
        (((some (V.int IntKind.i64 f)) = (some (V.int IntKind.i64 f))) ∧
         (((some (V.bool false)) = (some (V.bool true))) ∧
          (True)))))))) ∧
   (((101) = (101)) ∧
    ((true) = (true)))) ∧
  ((h) = (h)))) ∧
(((ilt y o) = (false)) → ((((some (V.int IntKind.i64 o)) = (some (V.int IntKind.i64 o))) ∧
   (((some (V.str w)) = (some (V.str w))) ∧
    (((some (V.str w)) = (some (V.str w))) ∧
     (((some (V.int IntKind.i64 f)) = (some (V.int IntKind.i64 f))) ∧
      (((some (V.str t)) = (some (V.str t))) ∧
       (((some (V.int IntKind.i64 f)) = (some (V.int IntKind.i64 f))) ∧
        (((some (V.bool false)) = (some (V.bool true))) ∧
         (True)))))))) ∧
  (((101) = (101)) ∧
   ((true) = (true)))) ∧
 ((h) = (h)))) := by kernel_rfl
theorem w19b (y o : Int) (f g : Int) (w t : List UInt8) (h : H) : (evW GL (sp true) 40 r19 none iWords (S [(1, .int .i64 o), (7, .str w), (9, .str w), (10, .int .i64 f), (11, .int .i64 y), (12, .str t), (13, .int .i64 g)] h) (KD [(1, .int .i64 o), (7, .str w), (9, .str w), (10, .int .i64 f), (12, .str t), (13, .int .i64 g), (14, .bool false)] h)) = (
(((ilt y o) = (true)) → (((!ilt (Int.ofNat 11) o) = (true)) → ((((some (V.int IntKind.i64 o)) = (some (V.int IntKind.i64 o))) ∧
    (((some (V.str w)) = (some (V.str w))) ∧
     (((some (V.str w)) = (some (V.str w))) ∧
      (((some (V.int IntKind.i64 f)) = (some (V.int IntKind.i64 f))) ∧
       (((some (V.str t)) = (some (V.str t))) ∧
        (((some (V.int IntKind.i64 g)) = (some (V.int IntKind.i64 g))) ∧
         (((some (V.bool true)) = (some (V.bool false))) ∧
          (True)))))))) ∧
   (((101) = (101)) ∧
    ((true) = (true)))) ∧
  ((h) = (h))) ∧
 (((!ilt (Int.ofNat 11) o) = (false)) → ((((some (V.int IntKind.i64 o)) = (some (V.int IntKind.i64 o))) ∧
    (((some (V.str w)) = (some (V.str w))) ∧
     (((some (V.str w)) = (some (V.str w))) ∧
      (((some (V.int IntKind.i64 f)) = (some (V.int IntKind.i64 f))) ∧
       (((some (V.str t)) = (some (V.str t))) ∧
        (((some (V.int IntKind.i64 g)) = (some (V.int IntKind.i64 g))) ∧
         (((some (V.bool false)) = (some (V.bool false))) ∧
          (True)))))))) ∧
   (((101) = (101)) ∧
    ((true) = (true)))) ∧
  ((h) = (h)))) ∧
(((ilt y o) = (false)) → ((((some (V.int IntKind.i64 o)) = (some (V.int IntKind.i64 o))) ∧
   (((some (V.str w)) = (some (V.str w))) ∧
    (((some (V.str w)) = (some (V.str w))) ∧
     (((some (V.int IntKind.i64 f)) = (some (V.int IntKind.i64 f))) ∧
      (((some (V.str t)) = (some (V.str t))) ∧
       (((some (V.int IntKind.i64 g)) = (some (V.int IntKind.i64 g))) ∧
        (((some (V.bool false)) = (some (V.bool false))) ∧
         (True)))))))) ∧
  (((101) = (101)) ∧
   ((true) = (true)))) ∧
 ((h) = (h)))) := by kernel_rfl
theorem w20g (w t : List UInt8) (e : Option TypeId) (nx : Nat) : (evW GL (sp true) 40 r20 none iWords (S [(7, .str w), (9, .str w), (10, .int .i64 (Int.ofNat 0)), (12, .str t), (13, .int .i64 (Int.ofNat 0)), (14, .bool true)] (hV e nx)) (KE [(4, .bool true)] (hV e nx))) = (
((w == w) = (true)) ∧
(((((some (V.bool true)) = (some (V.bool true))) ∧
   (True)) ∧
  (((101) = (101)) ∧
   ((true) = (true)))) ∧
 (((T.leaf.node
  (some
    (O.ro none 12
      [V.str [], V.str [109, 111, 100, 101, 108], V.str [111, 110, 99, 101], V.str [101, 110, 100, 101, 100],
        V.str [115, 116, 101, 97, 100, 121], V.str [99, 97, 117, 115, 101, 100], V.str [117, 115, 101, 100],
        V.str [99, 111, 117, 110, 116, 115], V.str [113, 117, 111, 116, 97], V.str [115, 116, 97, 108, 101],
        V.str [108, 101, 97, 107, 115], V.str [107, 101, 101, 112, 115]]
      T.leaf))
  (((T.leaf.node none
            ((T.leaf.node none
                  (T.leaf.node none
                    (T.leaf.node none (T.leaf.node none (T.leaf.node (some (O.cells e 12 words T.leaf)) T.leaf))))).node
              none T.leaf)).node
        none T.leaf).node
    (some
      (O.ro none 4
        [V.int IntKind.u8 (Int.ofNat 0), V.int IntKind.u8 (Int.ofNat 111), V.int IntKind.u8 (Int.ofNat 108),
          V.int IntKind.u8 (Int.ofNat 102)]
        T.leaf))
    T.leaf)) = (T.leaf.node
  (some
    (O.ro none 12
      [V.str [], V.str [109, 111, 100, 101, 108], V.str [111, 110, 99, 101], V.str [101, 110, 100, 101, 100],
        V.str [115, 116, 101, 97, 100, 121], V.str [99, 97, 117, 115, 101, 100], V.str [117, 115, 101, 100],
        V.str [99, 111, 117, 110, 116, 115], V.str [113, 117, 111, 116, 97], V.str [115, 116, 97, 108, 101],
        V.str [108, 101, 97, 107, 115], V.str [107, 101, 101, 112, 115]]
      T.leaf))
  (((T.leaf.node none
            ((T.leaf.node none
                  (T.leaf.node none
                    (T.leaf.node none (T.leaf.node none (T.leaf.node (some (O.cells e 12 words T.leaf)) T.leaf))))).node
              none T.leaf)).node
        none T.leaf).node
    (some
      (O.ro none 4
        [V.int IntKind.u8 (Int.ofNat 0), V.int IntKind.u8 (Int.ofNat 111), V.int IntKind.u8 (Int.ofNat 108),
          V.int IntKind.u8 (Int.ofNat 102)]
        T.leaf))
    T.leaf))) ∧
  ((nx) = (nx))))) := by kernel_rfl
theorem w20b (w : List UInt8) (e : Option TypeId) (nx : Nat) : (evW GL (sp true) 40 r20 none iWords (S [(7, .str w), (9, .str w), (10, .int .i64 (Int.ofNat 0)), (12, .str []), (13, .int .i64 (Int.ofNat 2)), (14, .bool false)] (hV e nx)) (KE [(4, .bool true)] (hV e nx))) = (
((w == w) = (true)) ∧
(((((some (V.bool true)) = (some (V.bool true))) ∧
   (True)) ∧
  (((101) = (101)) ∧
   ((true) = (true)))) ∧
 (((T.leaf.node
  (some
    (O.ro none 12
      [V.str [], V.str [109, 111, 100, 101, 108], V.str [111, 110, 99, 101], V.str [101, 110, 100, 101, 100],
        V.str [115, 116, 101, 97, 100, 121], V.str [99, 97, 117, 115, 101, 100], V.str [117, 115, 101, 100],
        V.str [99, 111, 117, 110, 116, 115], V.str [113, 117, 111, 116, 97], V.str [115, 116, 97, 108, 101],
        V.str [108, 101, 97, 107, 115], V.str [107, 101, 101, 112, 115]]
      T.leaf))
  (((T.leaf.node none
            ((T.leaf.node none
                  (T.leaf.node none
                    (T.leaf.node none (T.leaf.node none (T.leaf.node (some (O.cells e 12 words T.leaf)) T.leaf))))).node
              none T.leaf)).node
        none T.leaf).node
    (some
      (O.ro none 4
        [V.int IntKind.u8 (Int.ofNat 0), V.int IntKind.u8 (Int.ofNat 111), V.int IntKind.u8 (Int.ofNat 108),
          V.int IntKind.u8 (Int.ofNat 102)]
        T.leaf))
    T.leaf)) = (T.leaf.node
  (some
    (O.ro none 12
      [V.str [], V.str [109, 111, 100, 101, 108], V.str [111, 110, 99, 101], V.str [101, 110, 100, 101, 100],
        V.str [115, 116, 101, 97, 100, 121], V.str [99, 97, 117, 115, 101, 100], V.str [117, 115, 101, 100],
        V.str [99, 111, 117, 110, 116, 115], V.str [113, 117, 111, 116, 97], V.str [115, 116, 97, 108, 101],
        V.str [108, 101, 97, 107, 115], V.str [107, 101, 101, 112, 115]]
      T.leaf))
  (((T.leaf.node none
            ((T.leaf.node none
                  (T.leaf.node none
                    (T.leaf.node none (T.leaf.node none (T.leaf.node (some (O.cells e 12 words T.leaf)) T.leaf))))).node
              none T.leaf)).node
        none T.leaf).node
    (some
      (O.ro none 4
        [V.int IntKind.u8 (Int.ofNat 0), V.int IntKind.u8 (Int.ofNat 111), V.int IntKind.u8 (Int.ofNat 108),
          V.int IntKind.u8 (Int.ofNat 102)]
        T.leaf))
    T.leaf))) ∧
  ((nx) = (nx))))) := by kernel_rfl
theorem wRet (h : H) : (evW GL (sp true) 40 .ret none iWords (S [(4, .bool true)] h) (fun x st => match x with | .ret => retIs (fun v => v = .bool true) st | _ => False)) = (
(V.bool true) = (V.bool true)) := by kernel_rfl
end WT
end Go.Proofs.YtgadijnefbmgkaaGreatDoor

/- play.Text: its parts, one round of its loop, and what lies behind. -/
import Derived.Test.YtfmcmolhkmjemaaGreatDoorRt3
import Derived.Test.YtfmcmolhkmjemaaGreatDoorEvE
namespace Go.Proofs.YtfmcmolhkmjemaaGreatDoor
set_option maxRecDepth 100000
set_option maxHeartbeats 2000000
open Go.Ev Go.RowKit
/-- the table of the library's that Itoa reads -/
def gPow : Nat := 0
noncomputable def pow10 : List V := Lib.pow10Tab.map (.int .u64)
noncomputable def gsP : List (Nat × List V) := [(gPow, pow10)]
noncomputable def roL (l : List (Nat × List V)) : List (Nat × O) := l.map fun p => (p.1, .ro (some 0) p.2.length p.2 .leaf)
namespace PT
noncomputable def kI : Known := (iItoa, fun args h => match args, Go.Ev.has h (roL gsP) with
  | [.int .i64 n], true => match DT.inB RT.big n with
    | true => some (.str (digF n))
    | false => none
  | _, _ => none)
noncomputable def kxI : KX := fun f args h => match Nat.beq f iItoa, args, Go.Ev.has h (roL gsP) with
  | true, [.int .i64 n], true => some (not (DT.inB RT.big n), (.nilf, h), (.str (digF n), h))
  | _, _, _ => none
noncomputable def extP (f : FuncId) (args : List V) (h : H) : Option (V × H) := match BT.bldX f args h with
  | some r => some r
  | none => extL [kI] f args h
noncomputable def kxP : KX := fun f args h => match BT.kxB f args h with
  | some r => some r
  | none => kxI f args h
noncomputable def GP : Γ := mkG Tryz.prog eqs rows extP
noncomputable def fn : Func := match Tryz.prog.funcs[iText]? with
  | some f => f
  | .none => default
noncomputable def code : Code := match fn.body with
  | some c => c
  | .none => .skip
noncomputable def r0 : Code := cFst code
noncomputable def x1 : Code := cSnd code
noncomputable def r1 : Code := cFst x1
noncomputable def x2 : Code := cSnd x1
noncomputable def r2 : Code := cFst x2
noncomputable def x3 : Code := cSnd x2
noncomputable def z : Code := cFst x3
noncomputable def x4 : Code := cSnd x3
noncomputable def r4 : Code := cFst z
noncomputable def bl : Code := cSnd z
noncomputable def lp : Code := cFst bl
noncomputable def bd : Code := cFst lp
theorem isFn : Tryz.prog.funcs[iText]? = some fn := by kernel_rfl
theorem body : fn.body = some code := by kernel_rfl
theorem tmps : fn.ntmps = 51 := by kernel_rfl
theorem cut : code = nest [r0, r1, r2] x3 := by kernel_rfl
theorem q3 : x3 = .seq z x4 := by kernel_rfl
theorem q4 : z = .seq r4 bl := by kernel_rfl
theorem q5 : bl = .block 0 lp := by kernel_rfl
theorem q6 : lp = .loop bd := by kernel_rfl
theorem ok0 : [r0, r1, r2].all okC = true := by kernel_rfl
theorem ok4 : okC r4 = true := by kernel_rfl
theorem ok5 : okC bd = true := by kernel_rfl
theorem ok6 : okC x4 = true := by kernel_rfl
noncomputable def sp : SpF where
  at' := fun f t => match Nat.beq f iText, t with
    | true, 9 => .both | true, 13 => .both | true, 14 => .idx | true, 15 => .ldA [.int .i64, .int .i64] | true, 18 => .both | true, 22 => .both | true, 27 => .both | true, 32 => .both | true, 36 => .both | _, _ => .keep
  kx := kxP
noncomputable def S (l : List (Nat × V)) (h : H) : St := ⟨envL 51 l, h, []⟩
noncomputable def base (L : List V) : T O := T.put (varsT gsP) 1000 (some (.ro none L.length L .leaf))
noncomputable def hI (L : List V) : H := ⟨base L, 1001⟩
/-- the fresh builder; the builder that was written -/
noncomputable def hF (L : List V) (nx : Nat) : H := ⟨T.put (base L) 1001 (some (bO .nilp .nils)), nx⟩
noncomputable def hW (L : List V) (m : Nat) (R : List V) (nx : Nat) : H := ⟨T.put (T.put (base L) 1001 (some (bO (.ptr 1001 0) (ou 1002 m)))) 1002 (some (.cells (some tByte) R.length R .leaf)), nx⟩
abbrev sl (n : Nat) (c : Cap) : V := .slice 1000 0 n c
noncomputable def hasS (l : List (Nat × V)) (st : St) : Prop := hasT st.env l ∧ st.env.sz = 51 ∧ noDefs st.defs = true
noncomputable def inv (n : Nat) (c : Cap) (i : Int) : List (Nat × V) := [(4, .ptr 1001 0), (10, sl n c), (11, .int .i64 (Int.ofNat n)), (12, .int .i64 i)]
noncomputable def retIs (Q : V → Prop) (st : St) : Prop := match takeAll st.defs st.h with
  | some h2 => match resultsO G0 h2 st.env fn with
    | some v => Q v
    | .none => False
  | .none => False
noncomputable def K0 (l : List (Nat × V)) (L : List V) (nx : Nat) (R : V → Prop) (E : Prop) (x : X) (st : St) : Prop := match x with
  | .normal => E ∧ hasS l st ∧ st.h.next = nx ∧ isB .nilp .nils (st.h.tr.get 1001) ∧ st.h.tr.get 1000 = some (.ro none L.length L .leaf) ∧ st.h.tr.get gPow = (varsT gsP).get gPow
  | .ret => retIs R st
  | _ => False
noncomputable def K5 (n : Nat) (c : Cap) (L : List V) (r : Nat) (i : Int) (Q : O → O → Prop) (R : V → Prop) (E : Prop) (hx : H) (x : X) (st : St) : Prop := match x with
  | .normal => (match st.h.tr.get 1001, st.h.tr.get r with
    | some o1, some o2 => Q o1 o2
    | _, _ => False) ∧ hasS (inv n c (wr .i64 (Int.add i (Int.ofNat 1)))) st ∧ st.h.tr.get 1000 = some (.ro none L.length L .leaf) ∧ st.h.tr.get gPow = (varsT gsP).get gPow
  | .ret => retIs R st
  | .exit k => E ∧ Nat.beq k 0 = true ∧ hasS [(4, .ptr 1001 0)] st ∧ eqH st.h hx
noncomputable def ldF (k : Nat) (L : List V) : Option V := rLoad (GP.ty tRes) (hF L 1002) (some (.ptr 1000 (Nat.add 0 (Nat.mul k 2))))
noncomputable def ldW (k : Nat) (L : List V) (m : Nat) (R : List V) : Option V := rLoad (GP.ty tRes) (hW L m R 1003) (some (.ptr 1000 (Nat.add 0 (Nat.mul k 2))))
noncomputable def K4 (l : List (Nat × V)) (h : H) (x : X) (st : St) : Prop := match x with
  | .normal => hasS l st ∧ eqH st.h h
  | _ => False
noncomputable def KH (l : List (Nat × V)) (h : H) (env : Env) (h' : H) : Prop := hasT env l ∧ env.sz = 51 ∧ h' = h
noncomputable def r11 : Code := cFst x4
theorem q11 : x4 = .seq r11 .ret := by kernel_rfl
theorem q11r : r11 = .region 11 (cOps r11) false := by kernel_rfl
theorem q11n : (cOps r11).size = 3 := by kernel_rfl
noncomputable def opAt (c : Code) (i : Nat) : Oper := match (cOps c)[i]? with
  | some o => o
  | .none => default
theorem p11 : (cOps r11)[0]? = some (opAt r11 0) := by kernel_rfl
theorem g11 : (opAt r11 0).guard = .none := by kernel_rfl
theorem d11 : (opAt r11 0).dst = some 50 := by kernel_rfl
theorem act11 : act GP (envL 51 [(4, .ptr 1001 0)]).get (opAt r11 0).op = .call (some (.fn iStr [.ptr 1001 0])) := by kernel_rfl
theorem w0 (n : Nat) (L : List V) (c : Cap) (R : V → Prop) (E : Prop) : (evL GP sp 40 iText [r0, r1, r2] (K0 [(0, sl n c), (4, .ptr 1001 0)] L 1002 R E) (S [(0, sl n c)] (hI L))) = (
(((ilt (Int.ofNat 2000) (Int.ofNat n)) = (true)) → (R (V.tuple [V.str [], V.int IntKind.i64 (Int.ofNat 11)]))) ∧
(((ilt (Int.ofNat 2000) (Int.ofNat n)) = (false)) → ((E)) ∧
 (((((some (V.slice 1000 0 n c)) = (some (V.slice 1000 0 n c))) ∧
    (((some (V.ptr 1001 0)) = (some (V.ptr 1001 0))) ∧
     (True))) ∧
   (((51) = (51)) ∧
    ((true) = (true)))) ∧
  (((1002) = (1002)) ∧
   ((((true) = (true)) ∧
     (((true) = (true)) ∧
      (((cell 2 [V.nilp, V.nils] T.leaf 0) = (some V.nilp)) ∧
       ((cell 2 [V.nilp, V.nils] T.leaf 1) = (some V.nils))))) ∧
    (((some (O.ro none L.length L T.leaf)) = (some (O.ro none L.length L T.leaf))) ∧
     ((some
  (O.ro (some 0) 20
    [V.int IntKind.u64 (Int.ofNat 1), V.int IntKind.u64 (Int.ofNat 10), V.int IntKind.u64 (Int.ofNat 100),
      V.int IntKind.u64 (Int.ofNat 1000), V.int IntKind.u64 (Int.ofNat 10000), V.int IntKind.u64 (Int.ofNat 100000),
      V.int IntKind.u64 (Int.ofNat 1000000), V.int IntKind.u64 (Int.ofNat 10000000),
      V.int IntKind.u64 (Int.ofNat 100000000), V.int IntKind.u64 (Int.ofNat 1000000000),
      V.int IntKind.u64 (Int.ofNat 10000000000), V.int IntKind.u64 (Int.ofNat 100000000000),
      V.int IntKind.u64 (Int.ofNat 1000000000000), V.int IntKind.u64 (Int.ofNat 10000000000000),
      V.int IntKind.u64 (Int.ofNat 100000000000000), V.int IntKind.u64 (Int.ofNat 1000000000000000),
      V.int IntKind.u64 (Int.ofNat 10000000000000000), V.int IntKind.u64 (Int.ofNat 100000000000000000),
      V.int IntKind.u64 (Int.ofNat 1000000000000000000), V.int IntKind.u64 (Int.ofNat 10000000000000000000)]
    T.leaf)) = (some
  (O.ro (some 0) 20
    [V.int IntKind.u64 (Int.ofNat 1), V.int IntKind.u64 (Int.ofNat 10), V.int IntKind.u64 (Int.ofNat 100),
      V.int IntKind.u64 (Int.ofNat 1000), V.int IntKind.u64 (Int.ofNat 10000), V.int IntKind.u64 (Int.ofNat 100000),
      V.int IntKind.u64 (Int.ofNat 1000000), V.int IntKind.u64 (Int.ofNat 10000000),
      V.int IntKind.u64 (Int.ofNat 100000000), V.int IntKind.u64 (Int.ofNat 1000000000),
      V.int IntKind.u64 (Int.ofNat 10000000000), V.int IntKind.u64 (Int.ofNat 100000000000),
      V.int IntKind.u64 (Int.ofNat 1000000000000), V.int IntKind.u64 (Int.ofNat 10000000000000),
      V.int IntKind.u64 (Int.ofNat 100000000000000), V.int IntKind.u64 (Int.ofNat 1000000000000000),
      V.int IntKind.u64 (Int.ofNat 10000000000000000), V.int IntKind.u64 (Int.ofNat 100000000000000000),
      V.int IntKind.u64 (Int.ofNat 1000000000000000000), V.int IntKind.u64 (Int.ofNat 10000000000000000000)]
    T.leaf))))))))) := by kernel_rfl
theorem w4 (n : Nat) (L : List V) (c : Cap) : (evW GP sp 40 r4 none iText (S [(0, sl n c), (4, .ptr 1001 0)] (hF L 1002)) (K4 (inv n c (Int.ofNat 0)) (hF L 1002))) = (
((((some (V.ptr 1001 0)) = (some (V.ptr 1001 0))) ∧
  (((some (V.slice 1000 0 n c)) = (some (V.slice 1000 0 n c))) ∧
   (((some (V.int IntKind.i64 (Int.ofNat n))) = (some (V.int IntKind.i64 (Int.ofNat n)))) ∧
    (((some (V.int IntKind.i64 (Int.ofNat 0))) = (some (V.int IntKind.i64 (Int.ofNat 0)))) ∧
     (True))))) ∧
 (((51) = (51)) ∧
  ((true) = (true)))) ∧
((((T.leaf.node none
      ((T.leaf.node none
            ((T.leaf.node none
                  (T.leaf.node none
                    (T.leaf.node none
                      (T.leaf.node none
                        (T.leaf.node (some (O.cells (some 66) 2 [V.nilp, V.nils] T.leaf)) T.leaf))))).node
              none T.leaf)).node
        none T.leaf)).node
  (some
    (O.ro (some 0) 20
      [V.int IntKind.u64 (Int.ofNat 1), V.int IntKind.u64 (Int.ofNat 10), V.int IntKind.u64 (Int.ofNat 100),
        V.int IntKind.u64 (Int.ofNat 1000), V.int IntKind.u64 (Int.ofNat 10000), V.int IntKind.u64 (Int.ofNat 100000),
        V.int IntKind.u64 (Int.ofNat 1000000), V.int IntKind.u64 (Int.ofNat 10000000),
        V.int IntKind.u64 (Int.ofNat 100000000), V.int IntKind.u64 (Int.ofNat 1000000000),
        V.int IntKind.u64 (Int.ofNat 10000000000), V.int IntKind.u64 (Int.ofNat 100000000000),
        V.int IntKind.u64 (Int.ofNat 1000000000000), V.int IntKind.u64 (Int.ofNat 10000000000000),
        V.int IntKind.u64 (Int.ofNat 100000000000000), V.int IntKind.u64 (Int.ofNat 1000000000000000),
        V.int IntKind.u64 (Int.ofNat 10000000000000000), V.int IntKind.u64 (Int.ofNat 100000000000000000),
        V.int IntKind.u64 (Int.ofNat 1000000000000000000), V.int IntKind.u64 (Int.ofNat 10000000000000000000)]
      T.leaf))
  (((T.leaf.node none
            ((T.leaf.node none
                  (T.leaf.node none
                    (T.leaf.node none
                      (T.leaf.node none (T.leaf.node (some (O.ro none L.length L T.leaf)) T.leaf))))).node
              none T.leaf)).node
        none T.leaf).node
    none T.leaf)) = ((T.leaf.node none
      ((T.leaf.node none
            ((T.leaf.node none
                  (T.leaf.node none
                    (T.leaf.node none
                      (T.leaf.node none
                        (T.leaf.node (some (O.cells (some 66) 2 [V.nilp, V.nils] T.leaf)) T.leaf))))).node
              none T.leaf)).node
        none T.leaf)).node
  (some
    (O.ro (some 0) 20
      [V.int IntKind.u64 (Int.ofNat 1), V.int IntKind.u64 (Int.ofNat 10), V.int IntKind.u64 (Int.ofNat 100),
        V.int IntKind.u64 (Int.ofNat 1000), V.int IntKind.u64 (Int.ofNat 10000), V.int IntKind.u64 (Int.ofNat 100000),
        V.int IntKind.u64 (Int.ofNat 1000000), V.int IntKind.u64 (Int.ofNat 10000000),
        V.int IntKind.u64 (Int.ofNat 100000000), V.int IntKind.u64 (Int.ofNat 1000000000),
        V.int IntKind.u64 (Int.ofNat 10000000000), V.int IntKind.u64 (Int.ofNat 100000000000),
        V.int IntKind.u64 (Int.ofNat 1000000000000), V.int IntKind.u64 (Int.ofNat 10000000000000),
        V.int IntKind.u64 (Int.ofNat 100000000000000), V.int IntKind.u64 (Int.ofNat 1000000000000000),
        V.int IntKind.u64 (Int.ofNat 10000000000000000), V.int IntKind.u64 (Int.ofNat 100000000000000000),
        V.int IntKind.u64 (Int.ofNat 1000000000000000000), V.int IntKind.u64 (Int.ofNat 10000000000000000000)]
      T.leaf))
  (((T.leaf.node none
            ((T.leaf.node none
                  (T.leaf.node none
                    (T.leaf.node none
                      (T.leaf.node none (T.leaf.node (some (O.ro none L.length L T.leaf)) T.leaf))))).node
              none T.leaf)).node
        none T.leaf).node
    none T.leaf))) ∧
 ((1002) = (1002)))) := by kernel_rfl
theorem w5A (n : Nat) (L : List V) (c : Cap) (k : Nat) (Q : O → O → Prop) (R : V → Prop) (E : Prop) : (evW GP sp 40 bd none iText (S (inv n c (Int.ofNat k)) (hF L 1002)) (K5 n c L 1013 (Int.ofNat k) Q R E (hF L 1002))) = (
(((ilt (Int.ofNat k) (Int.ofNat n)) = (true)) → ((false) = (false)) ∧
 (((ilt (Int.ofNat k) (Int.ofNat n)) = (true)) ∧
  ((∃ l, (ldF k L) = (some (V.agg 2 l T.leaf)) ∧ LK.shape [LK.int IntKind.i64, LK.int IntKind.i64] l) ∧
   (∀ y0 : Int, ∀ y1 : Int, ((ldF k L) = (some (V.agg 2 ([] ++ [V.int IntKind.i64 y0] ++ [V.int IntKind.i64 y1]) T.leaf))) → (((ilt y0 (Int.ofNat 0)) = (true)) → (R (V.tuple [V.str [], V.int IntKind.i64 (Int.ofNat 2)]))) ∧
    (((ilt y0 (Int.ofNat 0)) = (false)) → (((ilt (Int.ofNat 17) y0) = (true)) → (R (V.tuple [V.str [], V.int IntKind.i64 (Int.ofNat 2)]))) ∧
     (((ilt (Int.ofNat 17) y0) = (false)) → (((ilt y1 (Int.ofNat 0)) = (true)) → (R (V.tuple [V.str [], V.int IntKind.i64 (Int.ofNat 2)]))) ∧
      (((ilt y1 (Int.ofNat 0)) = (false)) → (((!ieq y0 (Int.ofNat 0)) = (true)) → (((!ieq y1 (Int.ofNat 0)) = (true)) → (R (V.tuple [V.str [], V.int IntKind.i64 (Int.ofNat 2)]))) ∧
        (((!ieq y1 (Int.ofNat 0)) = (false)) → ((!DT.inB 9223372036854775808 y0) = (false)) ∧
         (((((digF y0).length.add 1).ble 1000000000) = (true)) ∧
          (((!DT.inB 9223372036854775808 y1) = (false)) ∧
           (((((digF y0 ++ [32]).length.add (digF y1).length).ble 1000000000) = (true)) ∧
            (((((digF y0 ++ [32] ++ digF y1).length.add 1).ble 1000000000) = (true)) ∧
             (((!(Nat.blt 0 (digF y0 ++ [32] ++ digF y1 ++ [10]).length && (digF y0 ++ [32] ++ digF y1 ++ [10]).length.ble 100000)) = (false)) ∧
              ((((True) ∧
                 ((True) ∧
                  (((y1) = (y1)) ∧
                   ((y1) = (y1))))) ∧
                (((True) ∧
                  ((True) ∧
                   ((True) ∧
                    ((y0) = (y0))))) ∧
                 (True))) ∧
               (((Q
  (O.cells (some 66) 2
    [V.ptr 1001 0,
      V.slice 1013 0 (digF y0 ++ [32] ++ digF y1 ++ [10]).length
        (Cap.atl (digF y0 ++ [32] ++ digF y1 ++ [10]).length 1)]
    T.leaf)
  (O.cells (some 5) (byts (digF y0 ++ [32] ++ digF y1 ++ [10])).length (byts (digF y0 ++ [32] ++ digF y1 ++ [10]))
    T.leaf))) ∧
                (((((some (V.ptr 1001 0)) = (some (V.ptr 1001 0))) ∧
                   (((some (V.slice 1000 0 n c)) = (some (V.slice 1000 0 n c))) ∧
                    (((some (V.int IntKind.i64 (Int.ofNat n))) = (some (V.int IntKind.i64 (Int.ofNat n)))) ∧
                     (((some (V.int IntKind.i64 (wr IntKind.i64 ((Int.ofNat k).add (Int.ofNat 1))))) = (some (V.int IntKind.i64 (wr IntKind.i64 ((Int.ofNat k).add (Int.ofNat 1)))))) ∧
                      (True))))) ∧
                  (((51) = (51)) ∧
                   ((true) = (true)))) ∧
                 (((some (O.ro none L.length L T.leaf)) = (some (O.ro none L.length L T.leaf))) ∧
                  ((some
  (O.ro (some 0) 20
    [V.int IntKind.u64 (Int.ofNat 1), V.int IntKind.u64 (Int.ofNat 10), V.int IntKind.u64 (Int.ofNat 100),
      V.int IntKind.u64 (Int.ofNat 1000), V.int IntKind.u64 (Int.ofNat 10000), V.int IntKind.u64 (Int.ofNat 100000),
      V.int IntKind.u64 (Int.ofNat 1000000), V.int IntKind.u64 (Int.ofNat 10000000),
      V.int IntKind.u64 (Int.ofNat 100000000), V.int IntKind.u64 (Int.ofNat 1000000000),
      V.int IntKind.u64 (Int.ofNat 10000000000), V.int IntKind.u64 (Int.ofNat 100000000000),
      V.int IntKind.u64 (Int.ofNat 1000000000000), V.int IntKind.u64 (Int.ofNat 10000000000000),
      V.int IntKind.u64 (Int.ofNat 100000000000000), V.int IntKind.u64 (Int.ofNat 1000000000000000),
      V.int IntKind.u64 (Int.ofNat 10000000000000000), V.int IntKind.u64 (Int.ofNat 100000000000000000),
      V.int IntKind.u64 (Int.ofNat 1000000000000000000), V.int IntKind.u64 (Int.ofNat 10000000000000000000)]
    T.leaf)) = (some
  (O.ro (some 0) 20
    [V.int IntKind.u64 (Int.ofNat 1), V.int IntKind.u64 (Int.ofNat 10), V.int IntKind.u64 (Int.ofNat 100),
      V.int IntKind.u64 (Int.ofNat 1000), V.int IntKind.u64 (Int.ofNat 10000), V.int IntKind.u64 (Int.ofNat 100000),
      V.int IntKind.u64 (Int.ofNat 1000000), V.int IntKind.u64 (Int.ofNat 10000000),
      V.int IntKind.u64 (Int.ofNat 100000000), V.int IntKind.u64 (Int.ofNat 1000000000),
      V.int IntKind.u64 (Int.ofNat 10000000000), V.int IntKind.u64 (Int.ofNat 100000000000),
      V.int IntKind.u64 (Int.ofNat 1000000000000), V.int IntKind.u64 (Int.ofNat 10000000000000),
      V.int IntKind.u64 (Int.ofNat 100000000000000), V.int IntKind.u64 (Int.ofNat 1000000000000000),
      V.int IntKind.u64 (Int.ofNat 10000000000000000), V.int IntKind.u64 (Int.ofNat 100000000000000000),
      V.int IntKind.u64 (Int.ofNat 1000000000000000000), V.int IntKind.u64 (Int.ofNat 10000000000000000000)]
    T.leaf)))))))))))))) ∧
       (((!ieq y0 (Int.ofNat 0)) = (false)) → ((!DT.inB 9223372036854775808 y0) = (false)) ∧
        (((((digF y0).length.add 1).ble 1000000000) = (true)) ∧
         (((!DT.inB 9223372036854775808 y1) = (false)) ∧
          (((((digF y0 ++ [32]).length.add (digF y1).length).ble 1000000000) = (true)) ∧
           (((((digF y0 ++ [32] ++ digF y1).length.add 1).ble 1000000000) = (true)) ∧
            (((!(Nat.blt 0 (digF y0 ++ [32] ++ digF y1 ++ [10]).length && (digF y0 ++ [32] ++ digF y1 ++ [10]).length.ble 100000)) = (false)) ∧
             ((((True) ∧
                ((True) ∧
                 (((y1) = (y1)) ∧
                  ((y1) = (y1))))) ∧
               (((True) ∧
                 ((True) ∧
                  ((True) ∧
                   ((y0) = (y0))))) ∧
                (True))) ∧
              (((Q
  (O.cells (some 66) 2
    [V.ptr 1001 0,
      V.slice 1013 0 (digF y0 ++ [32] ++ digF y1 ++ [10]).length
        (Cap.atl (digF y0 ++ [32] ++ digF y1 ++ [10]).length 1)]
    T.leaf)
  (O.cells (some 5) (byts (digF y0 ++ [32] ++ digF y1 ++ [10])).length (byts (digF y0 ++ [32] ++ digF y1 ++ [10]))
    T.leaf))) ∧
               (((((some (V.ptr 1001 0)) = (some (V.ptr 1001 0))) ∧
                  (((some (V.slice 1000 0 n c)) = (some (V.slice 1000 0 n c))) ∧
                   (((some (V.int IntKind.i64 (Int.ofNat n))) = (some (V.int IntKind.i64 (Int.ofNat n)))) ∧
                    (((some (V.int IntKind.i64 (wr IntKind.i64 ((Int.ofNat k).add (Int.ofNat 1))))) = (some (V.int IntKind.i64 (wr IntKind.i64 ((Int.ofNat k).add (Int.ofNat 1)))))) ∧
                     (True))))) ∧
                 (((51) = (51)) ∧
                  ((true) = (true)))) ∧
                (((some (O.ro none L.length L T.leaf)) = (some (O.ro none L.length L T.leaf))) ∧
                 ((some
  (O.ro (some 0) 20
    [V.int IntKind.u64 (Int.ofNat 1), V.int IntKind.u64 (Int.ofNat 10), V.int IntKind.u64 (Int.ofNat 100),
      V.int IntKind.u64 (Int.ofNat 1000), V.int IntKind.u64 (Int.ofNat 10000), V.int IntKind.u64 (Int.ofNat 100000),
      V.int IntKind.u64 (Int.ofNat 1000000), V.int IntKind.u64 (Int.ofNat 10000000),
      V.int IntKind.u64 (Int.ofNat 100000000), V.int IntKind.u64 (Int.ofNat 1000000000),
      V.int IntKind.u64 (Int.ofNat 10000000000), V.int IntKind.u64 (Int.ofNat 100000000000),
      V.int IntKind.u64 (Int.ofNat 1000000000000), V.int IntKind.u64 (Int.ofNat 10000000000000),
      V.int IntKind.u64 (Int.ofNat 100000000000000), V.int IntKind.u64 (Int.ofNat 1000000000000000),
      V.int IntKind.u64 (Int.ofNat 10000000000000000), V.int IntKind.u64 (Int.ofNat 100000000000000000),
      V.int IntKind.u64 (Int.ofNat 1000000000000000000), V.int IntKind.u64 (Int.ofNat 10000000000000000000)]
    T.leaf)) = (some
  (O.ro (some 0) 20
    [V.int IntKind.u64 (Int.ofNat 1), V.int IntKind.u64 (Int.ofNat 10), V.int IntKind.u64 (Int.ofNat 100),
      V.int IntKind.u64 (Int.ofNat 1000), V.int IntKind.u64 (Int.ofNat 10000), V.int IntKind.u64 (Int.ofNat 100000),
      V.int IntKind.u64 (Int.ofNat 1000000), V.int IntKind.u64 (Int.ofNat 10000000),
      V.int IntKind.u64 (Int.ofNat 100000000), V.int IntKind.u64 (Int.ofNat 1000000000),
      V.int IntKind.u64 (Int.ofNat 10000000000), V.int IntKind.u64 (Int.ofNat 100000000000),
      V.int IntKind.u64 (Int.ofNat 1000000000000), V.int IntKind.u64 (Int.ofNat 10000000000000),
      V.int IntKind.u64 (Int.ofNat 100000000000000), V.int IntKind.u64 (Int.ofNat 1000000000000000),
      V.int IntKind.u64 (Int.ofNat 10000000000000000), V.int IntKind.u64 (Int.ofNat 100000000000000000),
      V.int IntKind.u64 (Int.ofNat 1000000000000000000), V.int IntKind.u64 (Int.ofNat 10000000000000000000)]
    T.leaf)))))))))))))))))))) ∧
(((ilt (Int.ofNat k) (Int.ofNat n)) = (false)) → ((E)) ∧
 (((true) = (true)) ∧
  (((((some (V.ptr 1001 0)) = (some (V.ptr 1001 0))) ∧
     (True)) ∧
    (((51) = (51)) ∧
     ((true) = (true)))) ∧
   ((((T.leaf.node none
      ((T.leaf.node none
            ((T.leaf.node none
                  (T.leaf.node none
                    (T.leaf.node none
                      (T.leaf.node none
                        (T.leaf.node (some (O.cells (some 66) 2 [V.nilp, V.nils] T.leaf)) T.leaf))))).node
              none T.leaf)).node
        none T.leaf)).node
  (some
    (O.ro (some 0) 20
      [V.int IntKind.u64 (Int.ofNat 1), V.int IntKind.u64 (Int.ofNat 10), V.int IntKind.u64 (Int.ofNat 100),
        V.int IntKind.u64 (Int.ofNat 1000), V.int IntKind.u64 (Int.ofNat 10000), V.int IntKind.u64 (Int.ofNat 100000),
        V.int IntKind.u64 (Int.ofNat 1000000), V.int IntKind.u64 (Int.ofNat 10000000),
        V.int IntKind.u64 (Int.ofNat 100000000), V.int IntKind.u64 (Int.ofNat 1000000000),
        V.int IntKind.u64 (Int.ofNat 10000000000), V.int IntKind.u64 (Int.ofNat 100000000000),
        V.int IntKind.u64 (Int.ofNat 1000000000000), V.int IntKind.u64 (Int.ofNat 10000000000000),
        V.int IntKind.u64 (Int.ofNat 100000000000000), V.int IntKind.u64 (Int.ofNat 1000000000000000),
        V.int IntKind.u64 (Int.ofNat 10000000000000000), V.int IntKind.u64 (Int.ofNat 100000000000000000),
        V.int IntKind.u64 (Int.ofNat 1000000000000000000), V.int IntKind.u64 (Int.ofNat 10000000000000000000)]
      T.leaf))
  (((T.leaf.node none
            ((T.leaf.node none
                  (T.leaf.node none
                    (T.leaf.node none
                      (T.leaf.node none (T.leaf.node (some (O.ro none L.length L T.leaf)) T.leaf))))).node
              none T.leaf)).node
        none T.leaf).node
    none T.leaf)) = ((T.leaf.node none
      ((T.leaf.node none
            ((T.leaf.node none
                  (T.leaf.node none
                    (T.leaf.node none
                      (T.leaf.node none
                        (T.leaf.node (some (O.cells (some 66) 2 [V.nilp, V.nils] T.leaf)) T.leaf))))).node
              none T.leaf)).node
        none T.leaf)).node
  (some
    (O.ro (some 0) 20
      [V.int IntKind.u64 (Int.ofNat 1), V.int IntKind.u64 (Int.ofNat 10), V.int IntKind.u64 (Int.ofNat 100),
        V.int IntKind.u64 (Int.ofNat 1000), V.int IntKind.u64 (Int.ofNat 10000), V.int IntKind.u64 (Int.ofNat 100000),
        V.int IntKind.u64 (Int.ofNat 1000000), V.int IntKind.u64 (Int.ofNat 10000000),
        V.int IntKind.u64 (Int.ofNat 100000000), V.int IntKind.u64 (Int.ofNat 1000000000),
        V.int IntKind.u64 (Int.ofNat 10000000000), V.int IntKind.u64 (Int.ofNat 100000000000),
        V.int IntKind.u64 (Int.ofNat 1000000000000), V.int IntKind.u64 (Int.ofNat 10000000000000),
        V.int IntKind.u64 (Int.ofNat 100000000000000), V.int IntKind.u64 (Int.ofNat 1000000000000000),
        V.int IntKind.u64 (Int.ofNat 10000000000000000), V.int IntKind.u64 (Int.ofNat 100000000000000000),
        V.int IntKind.u64 (Int.ofNat 1000000000000000000), V.int IntKind.u64 (Int.ofNat 10000000000000000000)]
      T.leaf))
  (((T.leaf.node none
            ((T.leaf.node none
                  (T.leaf.node none
                    (T.leaf.node none
                      (T.leaf.node none (T.leaf.node (some (O.ro none L.length L T.leaf)) T.leaf))))).node
              none T.leaf)).node
        none T.leaf).node
    none T.leaf))) ∧
    ((1002) = (1002))))))) := by kernel_rfl
theorem w5B (n : Nat) (L : List V) (c : Cap) (k m : Nat) (W : List V) (Q : O → O → Prop) (R : V → Prop) (E : Prop) : (evW GP sp 40 bd none iText (S (inv n c (Int.ofNat k)) (hW L m W 1003)) (K5 n c L 1014 (Int.ofNat k) Q R E (hW L m W 1003))) = (
(((ilt (Int.ofNat k) (Int.ofNat n)) = (true)) → ((false) = (false)) ∧
 (((ilt (Int.ofNat k) (Int.ofNat n)) = (true)) ∧
  ((∃ l, (ldW k L m W) = (some (V.agg 2 l T.leaf)) ∧ LK.shape [LK.int IntKind.i64, LK.int IntKind.i64] l) ∧
   (∀ y0 : Int, ∀ y1 : Int, ((ldW k L m W) = (some (V.agg 2 ([] ++ [V.int IntKind.i64 y0] ++ [V.int IntKind.i64 y1]) T.leaf))) → (((ilt y0 (Int.ofNat 0)) = (true)) → (R (V.tuple [V.str [], V.int IntKind.i64 (Int.ofNat 2)]))) ∧
    (((ilt y0 (Int.ofNat 0)) = (false)) → (((ilt (Int.ofNat 17) y0) = (true)) → (R (V.tuple [V.str [], V.int IntKind.i64 (Int.ofNat 2)]))) ∧
     (((ilt (Int.ofNat 17) y0) = (false)) → (((ilt y1 (Int.ofNat 0)) = (true)) → (R (V.tuple [V.str [], V.int IntKind.i64 (Int.ofNat 2)]))) ∧
      (((ilt y1 (Int.ofNat 0)) = (false)) → (((!ieq y0 (Int.ofNat 0)) = (true)) → (((!ieq y1 (Int.ofNat 0)) = (true)) → (R (V.tuple [V.str [], V.int IntKind.i64 (Int.ofNat 2)]))) ∧
        (((!ieq y1 (Int.ofNat 0)) = (false)) → ((!DT.inB 9223372036854775808 y0) = (false)) ∧
         (((((digF y0).length.add 1).ble 1000000000) = (true)) ∧
          (((!DT.inB 9223372036854775808 y1) = (false)) ∧
           (((((digF y0 ++ [32]).length.add (digF y1).length).ble 1000000000) = (true)) ∧
            (((((digF y0 ++ [32] ++ digF y1).length.add 1).ble 1000000000) = (true)) ∧
             (((!(m.beq m && W.length.beq m && W.length.beq m && Nat.blt 0 (digF y0 ++ [32] ++ digF y1 ++ [10]).length &&
    (m + (digF y0 ++ [32] ++ digF y1 ++ [10]).length).ble 100000)) = (false)) ∧
              ((((True) ∧
                 ((True) ∧
                  (((y1) = (y1)) ∧
                   ((y1) = (y1))))) ∧
                (((True) ∧
                  ((True) ∧
                   ((True) ∧
                    ((y0) = (y0))))) ∧
                 (True))) ∧
               (((Q
  (O.cells (some 66) 2
    [V.ptr 1001 0,
      V.slice 1014 0 (m + (digF y0 ++ [32] ++ digF y1 ++ [10]).length)
        (Cap.atl (m + (digF y0 ++ [32] ++ digF y1 ++ [10]).length) 1)]
    T.leaf)
  (O.cells (some 5) (W ++ byts (digF y0 ++ [32] ++ digF y1 ++ [10])).length
    (W ++ byts (digF y0 ++ [32] ++ digF y1 ++ [10])) T.leaf))) ∧
                (((((some (V.ptr 1001 0)) = (some (V.ptr 1001 0))) ∧
                   (((some (V.slice 1000 0 n c)) = (some (V.slice 1000 0 n c))) ∧
                    (((some (V.int IntKind.i64 (Int.ofNat n))) = (some (V.int IntKind.i64 (Int.ofNat n)))) ∧
                     (((some (V.int IntKind.i64 (wr IntKind.i64 ((Int.ofNat k).add (Int.ofNat 1))))) = (some (V.int IntKind.i64 (wr IntKind.i64 ((Int.ofNat k).add (Int.ofNat 1)))))) ∧
                      (True))))) ∧
                  (((51) = (51)) ∧
                   ((true) = (true)))) ∧
                 (((some (O.ro none L.length L T.leaf)) = (some (O.ro none L.length L T.leaf))) ∧
                  ((some
  (O.ro (some 0) 20
    [V.int IntKind.u64 (Int.ofNat 1), V.int IntKind.u64 (Int.ofNat 10), V.int IntKind.u64 (Int.ofNat 100),
      V.int IntKind.u64 (Int.ofNat 1000), V.int IntKind.u64 (Int.ofNat 10000), V.int IntKind.u64 (Int.ofNat 100000),
      V.int IntKind.u64 (Int.ofNat 1000000), V.int IntKind.u64 (Int.ofNat 10000000),
      V.int IntKind.u64 (Int.ofNat 100000000), V.int IntKind.u64 (Int.ofNat 1000000000),
      V.int IntKind.u64 (Int.ofNat 10000000000), V.int IntKind.u64 (Int.ofNat 100000000000),
      V.int IntKind.u64 (Int.ofNat 1000000000000), V.int IntKind.u64 (Int.ofNat 10000000000000),
      V.int IntKind.u64 (Int.ofNat 100000000000000), V.int IntKind.u64 (Int.ofNat 1000000000000000),
      V.int IntKind.u64 (Int.ofNat 10000000000000000), V.int IntKind.u64 (Int.ofNat 100000000000000000),
      V.int IntKind.u64 (Int.ofNat 1000000000000000000), V.int IntKind.u64 (Int.ofNat 10000000000000000000)]
    T.leaf)) = (some
  (O.ro (some 0) 20
    [V.int IntKind.u64 (Int.ofNat 1), V.int IntKind.u64 (Int.ofNat 10), V.int IntKind.u64 (Int.ofNat 100),
      V.int IntKind.u64 (Int.ofNat 1000), V.int IntKind.u64 (Int.ofNat 10000), V.int IntKind.u64 (Int.ofNat 100000),
      V.int IntKind.u64 (Int.ofNat 1000000), V.int IntKind.u64 (Int.ofNat 10000000),
      V.int IntKind.u64 (Int.ofNat 100000000), V.int IntKind.u64 (Int.ofNat 1000000000),
      V.int IntKind.u64 (Int.ofNat 10000000000), V.int IntKind.u64 (Int.ofNat 100000000000),
      V.int IntKind.u64 (Int.ofNat 1000000000000), V.int IntKind.u64 (Int.ofNat 10000000000000),
      V.int IntKind.u64 (Int.ofNat 100000000000000), V.int IntKind.u64 (Int.ofNat 1000000000000000),
      V.int IntKind.u64 (Int.ofNat 10000000000000000), V.int IntKind.u64 (Int.ofNat 100000000000000000),
      V.int IntKind.u64 (Int.ofNat 1000000000000000000), V.int IntKind.u64 (Int.ofNat 10000000000000000000)]
    T.leaf)))))))))))))) ∧
       (((!ieq y0 (Int.ofNat 0)) = (false)) → ((!DT.inB 9223372036854775808 y0) = (false)) ∧
        (((((digF y0).length.add 1).ble 1000000000) = (true)) ∧
         (((!DT.inB 9223372036854775808 y1) = (false)) ∧
          (((((digF y0 ++ [32]).length.add (digF y1).length).ble 1000000000) = (true)) ∧
           (((((digF y0 ++ [32] ++ digF y1).length.add 1).ble 1000000000) = (true)) ∧
            (((!(m.beq m && W.length.beq m && W.length.beq m && Nat.blt 0 (digF y0 ++ [32] ++ digF y1 ++ [10]).length &&
    (m + (digF y0 ++ [32] ++ digF y1 ++ [10]).length).ble 100000)) = (false)) ∧
             ((((True) ∧
                ((True) ∧
                 (((y1) = (y1)) ∧
                  ((y1) = (y1))))) ∧
               (((True) ∧
                 ((True) ∧
                  ((True) ∧
                   ((y0) = (y0))))) ∧
                (True))) ∧
              (((Q
  (O.cells (some 66) 2
    [V.ptr 1001 0,
      V.slice 1014 0 (m + (digF y0 ++ [32] ++ digF y1 ++ [10]).length)
        (Cap.atl (m + (digF y0 ++ [32] ++ digF y1 ++ [10]).length) 1)]
    T.leaf)
  (O.cells (some 5) (W ++ byts (digF y0 ++ [32] ++ digF y1 ++ [10])).length
    (W ++ byts (digF y0 ++ [32] ++ digF y1 ++ [10])) T.leaf))) ∧
               (((((some (V.ptr 1001 0)) = (some (V.ptr 1001 0))) ∧
                  (((some (V.slice 1000 0 n c)) = (some (V.slice 1000 0 n c))) ∧
                   (((some (V.int IntKind.i64 (Int.ofNat n))) = (some (V.int IntKind.i64 (Int.ofNat n)))) ∧
                    (((some (V.int IntKind.i64 (wr IntKind.i64 ((Int.ofNat k).add (Int.ofNat 1))))) = (some (V.int IntKind.i64 (wr IntKind.i64 ((Int.ofNat k).add (Int.ofNat 1)))))) ∧
                     (True))))) ∧
                 (((51) = (51)) ∧
                  ((true) = (true)))) ∧
                (((some (O.ro none L.length L T.leaf)) = (some (O.ro none L.length L T.leaf))) ∧
                 ((some
  (O.ro (some 0) 20
    [V.int IntKind.u64 (Int.ofNat 1), V.int IntKind.u64 (Int.ofNat 10), V.int IntKind.u64 (Int.ofNat 100),
      V.int IntKind.u64 (Int.ofNat 1000), V.int IntKind.u64 (Int.ofNat 10000), V.int IntKind.u64 (Int.ofNat 100000),
      V.int IntKind.u64 (Int.ofNat 1000000), V.int IntKind.u64 (Int.ofNat 10000000),
      V.int IntKind.u64 (Int.ofNat 100000000), V.int IntKind.u64 (Int.ofNat 1000000000),
      V.int IntKind.u64 (Int.ofNat 10000000000), V.int IntKind.u64 (Int.ofNat 100000000000),
      V.int IntKind.u64 (Int.ofNat 1000000000000), V.int IntKind.u64 (Int.ofNat 10000000000000),
      V.int IntKind.u64 (Int.ofNat 100000000000000), V.int IntKind.u64 (Int.ofNat 1000000000000000),
      V.int IntKind.u64 (Int.ofNat 10000000000000000), V.int IntKind.u64 (Int.ofNat 100000000000000000),
      V.int IntKind.u64 (Int.ofNat 1000000000000000000), V.int IntKind.u64 (Int.ofNat 10000000000000000000)]
    T.leaf)) = (some
  (O.ro (some 0) 20
    [V.int IntKind.u64 (Int.ofNat 1), V.int IntKind.u64 (Int.ofNat 10), V.int IntKind.u64 (Int.ofNat 100),
      V.int IntKind.u64 (Int.ofNat 1000), V.int IntKind.u64 (Int.ofNat 10000), V.int IntKind.u64 (Int.ofNat 100000),
      V.int IntKind.u64 (Int.ofNat 1000000), V.int IntKind.u64 (Int.ofNat 10000000),
      V.int IntKind.u64 (Int.ofNat 100000000), V.int IntKind.u64 (Int.ofNat 1000000000),
      V.int IntKind.u64 (Int.ofNat 10000000000), V.int IntKind.u64 (Int.ofNat 100000000000),
      V.int IntKind.u64 (Int.ofNat 1000000000000), V.int IntKind.u64 (Int.ofNat 10000000000000),
      V.int IntKind.u64 (Int.ofNat 100000000000000), V.int IntKind.u64 (Int.ofNat 1000000000000000),
      V.int IntKind.u64 (Int.ofNat 10000000000000000), V.int IntKind.u64 (Int.ofNat 100000000000000000),
      V.int IntKind.u64 (Int.ofNat 1000000000000000000), V.int IntKind.u64 (Int.ofNat 10000000000000000000)]
    T.leaf)))))))))))))))))))) ∧
(((ilt (Int.ofNat k) (Int.ofNat n)) = (false)) → ((E)) ∧
 (((true) = (true)) ∧
  (((((some (V.ptr 1001 0)) = (some (V.ptr 1001 0))) ∧
     (True)) ∧
    (((51) = (51)) ∧
     ((true) = (true)))) ∧
   ((((T.leaf.node none
      ((T.leaf.node none
            ((T.leaf.node none
                  (T.leaf.node none
                    (T.leaf.node none
                      (T.leaf.node none
                        (T.leaf.node (some (O.cells (some 66) 2 [V.ptr 1001 0, V.slice 1002 0 m (Cap.atl m 1)] T.leaf))
                          T.leaf))))).node
              none T.leaf)).node
        none T.leaf)).node
  (some
    (O.ro (some 0) 20
      [V.int IntKind.u64 (Int.ofNat 1), V.int IntKind.u64 (Int.ofNat 10), V.int IntKind.u64 (Int.ofNat 100),
        V.int IntKind.u64 (Int.ofNat 1000), V.int IntKind.u64 (Int.ofNat 10000), V.int IntKind.u64 (Int.ofNat 100000),
        V.int IntKind.u64 (Int.ofNat 1000000), V.int IntKind.u64 (Int.ofNat 10000000),
        V.int IntKind.u64 (Int.ofNat 100000000), V.int IntKind.u64 (Int.ofNat 1000000000),
        V.int IntKind.u64 (Int.ofNat 10000000000), V.int IntKind.u64 (Int.ofNat 100000000000),
        V.int IntKind.u64 (Int.ofNat 1000000000000), V.int IntKind.u64 (Int.ofNat 10000000000000),
        V.int IntKind.u64 (Int.ofNat 100000000000000), V.int IntKind.u64 (Int.ofNat 1000000000000000),
        V.int IntKind.u64 (Int.ofNat 10000000000000000), V.int IntKind.u64 (Int.ofNat 100000000000000000),
        V.int IntKind.u64 (Int.ofNat 1000000000000000000), V.int IntKind.u64 (Int.ofNat 10000000000000000000)]
      T.leaf))
  (((T.leaf.node none
            ((T.leaf.node none
                  (T.leaf.node none
                    (T.leaf.node none
                      (T.leaf.node none (T.leaf.node (some (O.ro none L.length L T.leaf)) T.leaf))))).node
              none T.leaf)).node
        none T.leaf).node
    none
    ((T.leaf.node none
          ((T.leaf.node none
                (T.leaf.node none
                  (T.leaf.node none
                    (T.leaf.node none (T.leaf.node (some (O.cells (some 5) W.length W T.leaf)) T.leaf))))).node
            none T.leaf)).node
      none T.leaf))) = ((T.leaf.node none
      ((T.leaf.node none
            ((T.leaf.node none
                  (T.leaf.node none
                    (T.leaf.node none
                      (T.leaf.node none
                        (T.leaf.node (some (O.cells (some 66) 2 [V.ptr 1001 0, V.slice 1002 0 m (Cap.atl m 1)] T.leaf))
                          T.leaf))))).node
              none T.leaf)).node
        none T.leaf)).node
  (some
    (O.ro (some 0) 20
      [V.int IntKind.u64 (Int.ofNat 1), V.int IntKind.u64 (Int.ofNat 10), V.int IntKind.u64 (Int.ofNat 100),
        V.int IntKind.u64 (Int.ofNat 1000), V.int IntKind.u64 (Int.ofNat 10000), V.int IntKind.u64 (Int.ofNat 100000),
        V.int IntKind.u64 (Int.ofNat 1000000), V.int IntKind.u64 (Int.ofNat 10000000),
        V.int IntKind.u64 (Int.ofNat 100000000), V.int IntKind.u64 (Int.ofNat 1000000000),
        V.int IntKind.u64 (Int.ofNat 10000000000), V.int IntKind.u64 (Int.ofNat 100000000000),
        V.int IntKind.u64 (Int.ofNat 1000000000000), V.int IntKind.u64 (Int.ofNat 10000000000000),
        V.int IntKind.u64 (Int.ofNat 100000000000000), V.int IntKind.u64 (Int.ofNat 1000000000000000),
        V.int IntKind.u64 (Int.ofNat 10000000000000000), V.int IntKind.u64 (Int.ofNat 100000000000000000),
        V.int IntKind.u64 (Int.ofNat 1000000000000000000), V.int IntKind.u64 (Int.ofNat 10000000000000000000)]
      T.leaf))
  (((T.leaf.node none
            ((T.leaf.node none
                  (T.leaf.node none
                    (T.leaf.node none
                      (T.leaf.node none (T.leaf.node (some (O.ro none L.length L T.leaf)) T.leaf))))).node
              none T.leaf)).node
        none T.leaf).node
    none
    ((T.leaf.node none
          ((T.leaf.node none
                (T.leaf.node none
                  (T.leaf.node none
                    (T.leaf.node none (T.leaf.node (some (O.cells (some 5) W.length W T.leaf)) T.leaf))))).node
            none T.leaf)).node
      none T.leaf)))) ∧
    ((1003) = (1003))))))) := by kernel_rfl
theorem w6A (L : List V) (R : V → Prop) : (evW GP sp 40 x4 none iText (S [(4, .ptr 1001 0)] (hF L 1002)) (fun x st => match x with | .ret => retIs R st | _ => False)) = (
(((True) ∧
  ((Int.ofNat 0) = (Int.ofNat 0))) ∧
 (((True) ∧
   (True)) ∧
  (((True) ∧
    (True)) ∧
   (True)))) ∧
((R (V.tuple [V.str [], V.int IntKind.i64 (Int.ofNat 0)])))) := by kernel_rfl
theorem w6B (s : List UInt8) (h : H) : (regW GP sp (callTW GP sp.kx sp.must (evW GP sp 40)) iText (cOps r11) (opsPart (cOps r11) 1 2) (envL 51 [(50, .str s)]) h (KH [(2, .str s), (3, .int .i64 (Int.ofNat 0))] h)) = (
(((some (V.str s)) = (some (V.str s))) ∧
 (((some (V.int IntKind.i64 (Int.ofNat 0))) = (some (V.int IntKind.i64 (Int.ofNat 0)))) ∧
  (True))) ∧
(((51) = (51)) ∧
 ((h) = (h)))) := by kernel_rfl
theorem w6C (s : List UInt8) (h : H) (R : V → Prop) : (evW GP sp 40 .ret none iText (S [(2, .str s), (3, .int .i64 (Int.ofNat 0))] h) (fun x st => match x with | .ret => retIs R st | _ => False)) = (
(R (V.tuple [V.str s, V.int IntKind.i64 (Int.ofNat 0)]))) := by kernel_rfl
end PT
end Go.Proofs.YtfmcmolhkmjemaaGreatDoor

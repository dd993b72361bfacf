/- judge.Text: its parts. -/
import Derived.Test.YtgadijnefbmgkaaGreatDoorJt4
namespace Go.Proofs.YtgadijnefbmgkaaGreatDoor
set_option maxRecDepth 100000
set_option maxHeartbeats 2000000
open Go.Ev Go.RowKit
namespace JT
noncomputable def fn : Func := match Tryz.prog.funcs[iText]? with
  | some f => f
  | .none => default
noncomputable def code : Code := match fn.body with
  | some c => c
  | .none => .skip
noncomputable def r0 : Code := cFst code
noncomputable def x1 : Code := cSnd code
noncomputable def y1 : Code := cFst x1
noncomputable def x2 : Code := cSnd x1
noncomputable def r3 : Code := cFst x2
noncomputable def x3 : Code := cSnd x2
noncomputable def r4 : Code := cFst x3
noncomputable def x4 : Code := cSnd x3
noncomputable def z : Code := cFst x4
noncomputable def x5 : Code := cSnd x4
noncomputable def r5 : Code := cFst z
noncomputable def bl : Code := cSnd z
noncomputable def lp : Code := cFst bl
noncomputable def bd : Code := cFst lp
noncomputable def r6 : Code := cFst bd
noncomputable def b1 : Code := cSnd bd
noncomputable def cd : Code := cFst b1
noncomputable def b2 : Code := cSnd b1
noncomputable def b3 : Code := cFst b2
noncomputable def r12 : Code := cSnd b2
noncomputable def b4 : Code := cFst b3
noncomputable def r7 : Code := cFst b4
noncomputable def b5 : Code := cSnd b4
noncomputable def y8 : Code := cFst b5
noncomputable def b6 : Code := cSnd b5
noncomputable def r10 : Code := cFst b6
noncomputable def r11 : Code := cSnd b6
theorem isFn : Tryz.prog.funcs[iText]? = some fn := by kernel_rfl
theorem body : fn.body = some code := by kernel_rfl
theorem q0 : code = .seq r0 x1 := by kernel_rfl
theorem q1 : x1 = .seq y1 x2 := by kernel_rfl
theorem q2 : x2 = .seq r3 x3 := by kernel_rfl
theorem q3 : x3 = .seq r4 x4 := by kernel_rfl
theorem q4 : x4 = .seq z x5 := by kernel_rfl
theorem q5 : z = .seq r5 bl := by kernel_rfl
theorem q6 : bl = .block 0 lp := by kernel_rfl
theorem q7 : lp = .loop bd := by kernel_rfl
theorem q8 : bd = .seq r6 b1 := by kernel_rfl
theorem q9 : b1 = .seq cd b2 := by kernel_rfl
theorem q10 : b2 = .seq b3 r12 := by kernel_rfl
theorem q11 : b3 = .block 1 b4 := by kernel_rfl
theorem q12 : b4 = .seq r7 b5 := by kernel_rfl
theorem q13 : b5 = .seq y8 b6 := by kernel_rfl
theorem q14 : b6 = .seq r10 r11 := by kernel_rfl
theorem q15 : r10 = .region 10 (cOps r10) false := by kernel_rfl
theorem q16 : (cOps r10).size = 7 := by kernel_rfl
theorem q17 : fn.ntmps = 34 := by kernel_rfl
theorem ok1 : [r0, y1, r3, r4, r5].all okC = true := by kernel_rfl
theorem ok2 : [r6, cd].all okC = true := by kernel_rfl
theorem ok3 : [r7, y8].all okC = true := by kernel_rfl
theorem ok4 : okC r10 = true := by kernel_rfl
theorem ok5 : okC r11 = true := by kernel_rfl
theorem ok6 : okC r12 = true := by kernel_rfl
theorem ok7 : okC x5 = true := by kernel_rfl
noncomputable def op5 : Oper := match (cOps r10)[5]? with
  | some o => o
  | .none => default
theorem p5 : opsPart (cOps r10) 5 1 = [op5] := by kernel_rfl
theorem p5g : op5.guard = .none := by kernel_rfl
theorem p5d : op5.dst = some 29 := by kernel_rfl
noncomputable def sp : SpF where
  at' := fun f t => match Nat.beq f iText, t with
    | true, 10 => .both | true, 14 => .both | true, 15 => .idx | true, 16 => .ldI .i64 | true, 19 => .both | true, 22 => .both | true, 26 => .idx | true, 27 => .ldS | _, _ => .keep
/-- codes, one after the other -/
noncomputable def evL (G : Γ) (sp : SpF) (N : Nat) (fn : FuncId) : List Code → (X → St → Prop) → St → Prop
  | [], K, st => K .normal st
  | c :: cs, K, st => evW G sp N c none fn st fun x st' => match x with
    | .normal => evL G sp N fn cs K st'
    | x => K x st'
def nest : List Code → Code → Code
  | [], r => r
  | c :: cs, r => .seq c (nest cs r)
noncomputable def S (l : List (Nat × V)) (h : H) : St := ⟨envL 34 l, h, []⟩
noncomputable def roB (n : Nat) (xs : List Int) : O := .ro none n (ints xs) .leaf
noncomputable def roW : O := .ro none 12 words .leaf
/-- memory: the words, the numbers -/
noncomputable def hI (n : Nat) (xs : List Int) : H := ⟨T.put (T.put .leaf gWords (some roW)) 1000 (some (roB n xs)), 1001⟩
/-- and a row of texts -/
noncomputable def hL (e : Option TypeId) (n : Nat) (xs : List Int) (L : List V) : H := ⟨T.put (T.put (T.put .leaf gWords (some roW)) 1000 (some (roB n xs))) 1001 (some (.cells e L.length L .leaf)), 1002⟩
abbrev sl (n : Nat) (c : Cap) : V := .slice 1000 0 n c
noncomputable def hasS (l : List (Nat × V)) (st : St) : Prop := hasT st.env l ∧ st.env.sz = 34 ∧ noDefs st.defs = true
noncomputable def retIs (Q : V → Prop) (st : St) : Prop := match takeAll st.defs st.h with
  | some h2 => match resultsO G0 h2 st.env fn with
    | some v => Q v
    | .none => False
  | .none => False
noncomputable def inv (n : Nat) (c : Cap) (o : V) (last : Int) (i : Int) : List (Nat × V) := [(4, o), (5, .int .i64 last), (11, sl n c), (12, .int .i64 (Int.ofNat n)), (13, .int .i64 i)]
noncomputable def inv7 (n : Nat) (c : Cap) (o : V) (x : Int) (i : Int) : List (Nat × V) := [(4, o), (7, .int .i64 x), (11, sl n c), (12, .int .i64 (Int.ofNat n)), (13, .int .i64 i)]
noncomputable def inv24 (n : Nat) (c : Cap) (o : V) (x : Int) (i : Int) (y : V) : List (Nat × V) := [(24, o), (28, y), (7, .int .i64 x), (11, sl n c), (12, .int .i64 (Int.ofNat n)), (13, .int .i64 i)]
noncomputable def inv29 (n : Nat) (c : Cap) (o : V) (x : Int) (i : Int) : List (Nat × V) := [(29, o), (7, .int .i64 x), (11, sl n c), (12, .int .i64 (Int.ofNat n)), (13, .int .i64 i)]
def eqH (a b : H) : Prop := a.tr = b.tr ∧ a.next = b.next
noncomputable def K1 (l : List (Nat × V)) (h : H) (R : V → Prop) (E : Prop) (x : X) (st : St) : Prop := match x with
  | .normal => E ∧ hasS l st ∧ eqH st.h h
  | .ret => retIs R st
  | _ => False
noncomputable def K2 (l l' : List (Nat × V)) (h : H) (E E' : Prop) (x : X) (st : St) : Prop := match x with
  | .normal => E ∧ hasS l st ∧ st.h = h
  | .exit k => E' ∧ Nat.beq k 0 = true ∧ hasS l' st ∧ st.h = h
  | _ => False
noncomputable def K3 (n : Nat) (c : Cap) (o : V) (i : Int) (h : H) (R : V → Prop) (E : Int → Prop) (x : X) (st : St) : Prop := match x with
  | .normal => match st.env.tr.get 7 with
    | some (.int _ y) => E y ∧ hasS (inv7 n c o y i) st ∧ eqH st.h h
    | _ => False
  | .ret => retIs R st
  | _ => False
noncomputable def isC (l : List V) : Option O → Prop
  | some (.cells _ n pat tr) => Nat.beq n l.length = true ∧ gather n pat tr 0 l.length = some l
  | _ => False
/-- a block of one text -/
noncomputable def isS (E : List UInt8 → Prop) : Option O → Prop
  | some (.cells _ n pat tr) => Nat.beq n 1 = true ∧ (match gather n pat tr 0 1 with
    | some [.str w] => E w
    | _ => False)
  | _ => False
abbrev ou (b m : Nat) : V := .slice b 0 m (.atl m 1)
noncomputable def KA (l : List (Nat × V)) (n : Nat) (xs : List Int) (E : List UInt8 → Prop) (x : X) (st : St) : Prop := match x with
  | .normal => hasS l st ∧ st.h.next = 1003 ∧ st.h.tr.get gWords = some roW ∧ st.h.tr.get 1000 = some (roB n xs) ∧ isS E (st.h.tr.get 1002)
  | _ => False
noncomputable def KB (l : List (Nat × V)) (n : Nat) (xs : List Int) (e : Option TypeId) (L : List V) (E : List UInt8 → Prop) (env : Env) (h : H) : Prop :=
  hasT env l ∧ env.sz = 34 ∧ h.next = 1003 ∧ h.tr.get gWords = some roW ∧ h.tr.get 1000 = some (roB n xs) ∧ h.tr.get 1001 = some (.cells e L.length L .leaf) ∧ isS E (h.tr.get 1002)
noncomputable def KC (l : List (Nat × V)) (h : H) (env : Env) (h' : H) : Prop := hasT env l ∧ env.sz = 34 ∧ eqH h' h
noncomputable def KD (l : List (Nat × V)) (h : H) (x : X) (st : St) : Prop := match x with
  | .normal => hasS l st ∧ st.h = h
  | _ => False
abbrev cT : CallK := callTW G0 sp.kx sp.must (evW G0 sp 40)
/-- what lies behind append -/
noncomputable def hN (e : Option TypeId) (n : Nat) (xs : List Int) (L : List V) : H := ⟨T.put (T.put (T.put .leaf gWords (some roW)) 1000 (some (roB n xs))) 1003 (some (.cells e L.length L .leaf)), 1004⟩
theorem w0 (n : Nat) (xs : List Int) (c : Cap) (R : V → Prop) (E : Prop) : (evL G0 sp 40 iText [r0, y1, r3, r4, r5] (K1 (inv n c .nils (Int.ofNat 0) (Int.ofNat 0)) (hI n xs) R E) (S [(0, sl n c)] (hI n xs))) = (
(((ieq (Int.ofNat n) (Int.ofNat 0)) = (true)) → (R (V.tuple [V.str [110, 111, 116, 104, 105, 110, 103], V.int IntKind.i64 (Int.ofNat 0)]))) ∧
(((ieq (Int.ofNat n) (Int.ofNat 0)) = (false)) → ((E)) ∧
 (((((some V.nils) = (some V.nils)) ∧
    (((some (V.int IntKind.i64 (Int.ofNat 0))) = (some (V.int IntKind.i64 (Int.ofNat 0)))) ∧
     (((some (V.slice 1000 0 n c)) = (some (V.slice 1000 0 n c))) ∧
      (((some (V.int IntKind.i64 (Int.ofNat n))) = (some (V.int IntKind.i64 (Int.ofNat n)))) ∧
       (((some (V.int IntKind.i64 (Int.ofNat 0))) = (some (V.int IntKind.i64 (Int.ofNat 0)))) ∧
        (True)))))) ∧
   (((34) = (34)) ∧
    ((true) = (true)))) ∧
  (((T.leaf.node (some (O.ro none 12 words T.leaf))
  (((T.leaf.node none
            ((T.leaf.node none
                  (T.leaf.node none
                    (T.leaf.node none
                      (T.leaf.node none (T.leaf.node (some (O.ro none n (ints xs) T.leaf)) T.leaf))))).node
              none T.leaf)).node
        none T.leaf).node
    none T.leaf)) = (T.leaf.node (some (O.ro none 12 words T.leaf))
  (((T.leaf.node none
            ((T.leaf.node none
                  (T.leaf.node none
                    (T.leaf.node none
                      (T.leaf.node none (T.leaf.node (some (O.ro none n (ints xs) T.leaf)) T.leaf))))).node
              none T.leaf)).node
        none T.leaf).node
    none T.leaf))) ∧
   ((1001) = (1001)))))) := by kernel_rfl
theorem w6 (n : Nat) (c : Cap) (o : V) (last : Int) (k : Nat) (h : H) (E E' : Prop) : (evL G0 sp 40 iText [r6, cd] (K2 (inv n c o last (Int.ofNat k)) [(4, o)] h E E') (S (inv n c o last (Int.ofNat k)) h)) = (
(((ilt (Int.ofNat k) (Int.ofNat n)) = (true)) → ((E)) ∧
 (((((some o) = (some o)) ∧
    (((some (V.int IntKind.i64 last)) = (some (V.int IntKind.i64 last))) ∧
     (((some (V.slice 1000 0 n c)) = (some (V.slice 1000 0 n c))) ∧
      (((some (V.int IntKind.i64 (Int.ofNat n))) = (some (V.int IntKind.i64 (Int.ofNat n)))) ∧
       (((some (V.int IntKind.i64 (Int.ofNat k))) = (some (V.int IntKind.i64 (Int.ofNat k)))) ∧
        (True)))))) ∧
   (((34) = (34)) ∧
    ((true) = (true)))) ∧
  ((h) = (h)))) ∧
(((ilt (Int.ofNat k) (Int.ofNat n)) = (false)) → ((E')) ∧
 (((true) = (true)) ∧
  (((((some o) = (some o)) ∧
     (True)) ∧
    (((34) = (34)) ∧
     ((true) = (true)))) ∧
   ((h) = (h)))))) := by kernel_rfl
theorem w7 (n : Nat) (xs : List Int) (c : Cap) (o : V) (last : Int) (k : Nat) (R : V → Prop) (E : Int → Prop) : (evL G0 sp 40 iText [r7, y8] (K3 n c o (Int.ofNat k) (hI n xs) R E) (S (inv n c o last (Int.ofNat k)) (hI n xs))) = (
((false) = (false)) ∧
(((ilt (Int.ofNat k) (Int.ofNat n)) = (true)) ∧
 ((∃ x, (cell n (ints xs) T.leaf (Nat.add 0 (k.mul 1))) = (some (V.int IntKind.i64 x))) ∧
  (∀ y0 : Int, ((cell n (ints xs) T.leaf (Nat.add 0 (k.mul 1))) = (some (V.int IntKind.i64 y0))) → (((!ilt last y0) = (true)) → (R (V.tuple [V.str [], V.int IntKind.i64 (Int.ofNat 2)]))) ∧
   (((!ilt last y0) = (false)) → (((!ilt y0 (Int.ofNat 12)) = (true)) → (R (V.tuple [V.str [], V.int IntKind.i64 (Int.ofNat 2)]))) ∧
    (((!ilt y0 (Int.ofNat 12)) = (false)) → ((E y0)) ∧
     (((((some o) = (some o)) ∧
        (((some (V.int IntKind.i64 y0)) = (some (V.int IntKind.i64 y0))) ∧
         (((some (V.slice 1000 0 n c)) = (some (V.slice 1000 0 n c))) ∧
          (((some (V.int IntKind.i64 (Int.ofNat n))) = (some (V.int IntKind.i64 (Int.ofNat n)))) ∧
           (((some (V.int IntKind.i64 (Int.ofNat k))) = (some (V.int IntKind.i64 (Int.ofNat k)))) ∧
            (True)))))) ∧
       (((34) = (34)) ∧
        ((true) = (true)))) ∧
      (((T.leaf.node (some (O.ro none 12 words T.leaf))
  (((T.leaf.node none
            ((T.leaf.node none
                  (T.leaf.node none
                    (T.leaf.node none
                      (T.leaf.node none (T.leaf.node (some (O.ro none n (ints xs) T.leaf)) T.leaf))))).node
              none T.leaf)).node
        none T.leaf).node
    none T.leaf)) = (T.leaf.node (some (O.ro none 12 words T.leaf))
  (((T.leaf.node none
            ((T.leaf.node none
                  (T.leaf.node none
                    (T.leaf.node none
                      (T.leaf.node none (T.leaf.node (some (O.ro none n (ints xs) T.leaf)) T.leaf))))).node
              none T.leaf)).node
        none T.leaf).node
    none T.leaf))) ∧
       ((1001) = (1001)))))))))) := by kernel_rfl
theorem w7s (n : Nat) (xs : List Int) (c : Cap) (o : V) (last : Int) (k : Nat) (e : Option TypeId) (L : List V) (R : V → Prop) (E : Int → Prop) : (evL G0 sp 40 iText [r7, y8] (K3 n c o (Int.ofNat k) (hL e n xs L) R E) (S (inv n c o last (Int.ofNat k)) (hL e n xs L))) = (
((false) = (false)) ∧
(((ilt (Int.ofNat k) (Int.ofNat n)) = (true)) ∧
 ((∃ x, (cell n (ints xs) T.leaf (Nat.add 0 (k.mul 1))) = (some (V.int IntKind.i64 x))) ∧
  (∀ y0 : Int, ((cell n (ints xs) T.leaf (Nat.add 0 (k.mul 1))) = (some (V.int IntKind.i64 y0))) → (((!ilt last y0) = (true)) → (R (V.tuple [V.str [], V.int IntKind.i64 (Int.ofNat 2)]))) ∧
   (((!ilt last y0) = (false)) → (((!ilt y0 (Int.ofNat 12)) = (true)) → (R (V.tuple [V.str [], V.int IntKind.i64 (Int.ofNat 2)]))) ∧
    (((!ilt y0 (Int.ofNat 12)) = (false)) → ((E y0)) ∧
     (((((some o) = (some o)) ∧
        (((some (V.int IntKind.i64 y0)) = (some (V.int IntKind.i64 y0))) ∧
         (((some (V.slice 1000 0 n c)) = (some (V.slice 1000 0 n c))) ∧
          (((some (V.int IntKind.i64 (Int.ofNat n))) = (some (V.int IntKind.i64 (Int.ofNat n)))) ∧
           (((some (V.int IntKind.i64 (Int.ofNat k))) = (some (V.int IntKind.i64 (Int.ofNat k)))) ∧
            (True)))))) ∧
       (((34) = (34)) ∧
        ((true) = (true)))) ∧
      ((((T.leaf.node none
      ((T.leaf.node none
            ((T.leaf.node none
                  (T.leaf.node none
                    (T.leaf.node none
                      (T.leaf.node none (T.leaf.node (some (O.cells e L.length L T.leaf)) T.leaf))))).node
              none T.leaf)).node
        none T.leaf)).node
  (some (O.ro none 12 words T.leaf))
  (((T.leaf.node none
            ((T.leaf.node none
                  (T.leaf.node none
                    (T.leaf.node none
                      (T.leaf.node none (T.leaf.node (some (O.ro none n (ints xs) T.leaf)) T.leaf))))).node
              none T.leaf)).node
        none T.leaf).node
    none T.leaf)) = ((T.leaf.node none
      ((T.leaf.node none
            ((T.leaf.node none
                  (T.leaf.node none
                    (T.leaf.node none
                      (T.leaf.node none (T.leaf.node (some (O.cells e L.length L T.leaf)) T.leaf))))).node
              none T.leaf)).node
        none T.leaf)).node
  (some (O.ro none 12 words T.leaf))
  (((T.leaf.node none
            ((T.leaf.node none
                  (T.leaf.node none
                    (T.leaf.node none
                      (T.leaf.node none (T.leaf.node (some (O.ro none n (ints xs) T.leaf)) T.leaf))))).node
              none T.leaf)).node
        none T.leaf).node
    none T.leaf))) ∧
       ((1002) = (1002)))))))))) := by kernel_rfl
theorem wA (n : Nat) (xs : List Int) (c : Cap) (p : Int) (k : Nat) (E : List UInt8 → Prop) : (evW G0 sp 40 r10 none iText (S (inv7 n c .nils p (Int.ofNat k)) (hI n xs)) (KA [(4, ou 1002 1), (7, .int .i64 p), (11, sl n c), (12, .int .i64 (Int.ofNat n)), (13, .int .i64 (Int.ofNat k))] n xs E)) = (
((ilt p (Int.ofNat 0)) = (false)) ∧
(((ilt p (Int.ofNat 12)) = (true)) ∧
 ((∃ x, (cell 12 words T.leaf
  (Nat.add 0
    ((match p with
        | Int.ofNat n => n
        | Int.negSucc _a => 0).mul
      1))) = (some (V.str x))) ∧
  (∀ y0 : List UInt8, ((cell 12 words T.leaf
  (Nat.add 0
    ((match p with
        | Int.ofNat n => n
        | Int.negSucc _a => 0).mul
      1))) = (some (V.str y0))) → ((((some (V.slice 1002 0 1 (Cap.atl 1 1))) = (some (V.slice 1002 0 1 (Cap.atl 1 1)))) ∧
     (((some (V.int IntKind.i64 p)) = (some (V.int IntKind.i64 p))) ∧
      (((some (V.slice 1000 0 n c)) = (some (V.slice 1000 0 n c))) ∧
       (((some (V.int IntKind.i64 (Int.ofNat n))) = (some (V.int IntKind.i64 (Int.ofNat n)))) ∧
        (((some (V.int IntKind.i64 (Int.ofNat k))) = (some (V.int IntKind.i64 (Int.ofNat k)))) ∧
         (True)))))) ∧
    (((34) = (34)) ∧
     ((true) = (true)))) ∧
   (((1003) = (1003)) ∧
    (((some (O.ro none 12 words T.leaf)) = (some (O.ro none 12 words T.leaf))) ∧
     (((some (O.ro none n (ints xs) T.leaf)) = (some (O.ro none n (ints xs) T.leaf))) ∧
      (((true) = (true)) ∧
       ((E y0)))))))))) := by kernel_rfl
theorem wB (n : Nat) (xs : List Int) (c : Cap) (p : Int) (k m : Nat) (e : Option TypeId) (L : List V) (E : List UInt8 → Prop) : (regW G0 sp cT iText (cOps r10) (opsPart (cOps r10) 0 5) (envL 34 (inv7 n c (ou 1001 m) p (Int.ofNat k))) (hL e n xs L) (KB (inv24 n c (ou 1001 m) p (Int.ofNat k) (.slice 1002 0 1 (.known 1))) n xs e L E)) = (
((ilt p (Int.ofNat 0)) = (false)) ∧
(((ilt p (Int.ofNat 12)) = (true)) ∧
 ((∃ x, (cell 12 words T.leaf
  (Nat.add 0
    ((match p with
        | Int.ofNat n => n
        | Int.negSucc _a => 0).mul
      1))) = (some (V.str x))) ∧
  (∀ y0 : List UInt8, ((cell 12 words T.leaf
  (Nat.add 0
    ((match p with
        | Int.ofNat n => n
        | Int.negSucc _a => 0).mul
      1))) = (some (V.str y0))) → (((some (V.slice 1001 0 m (Cap.atl m 1))) = (some (V.slice 1001 0 m (Cap.atl m 1)))) ∧
    (((some (V.slice 1002 0 1 (Cap.known 1))) = (some (V.slice 1002 0 1 (Cap.known 1)))) ∧
     (((some (V.int IntKind.i64 p)) = (some (V.int IntKind.i64 p))) ∧
      (((some (V.slice 1000 0 n c)) = (some (V.slice 1000 0 n c))) ∧
       (((some (V.int IntKind.i64 (Int.ofNat n))) = (some (V.int IntKind.i64 (Int.ofNat n)))) ∧
        (((some (V.int IntKind.i64 (Int.ofNat k))) = (some (V.int IntKind.i64 (Int.ofNat k)))) ∧
         (True))))))) ∧
   (((34) = (34)) ∧
    (((1003) = (1003)) ∧
     (((some (O.ro none 12 words T.leaf)) = (some (O.ro none 12 words T.leaf))) ∧
      (((some (O.ro none n (ints xs) T.leaf)) = (some (O.ro none n (ints xs) T.leaf))) ∧
       (((some (O.cells e L.length L T.leaf)) = (some (O.cells e L.length L T.leaf))) ∧
        (((true) = (true)) ∧
         ((E y0)))))))))))) := by kernel_rfl
theorem wC (n : Nat) (xs : List Int) (c : Cap) (p : Int) (k m : Nat) (e : Option TypeId) (L : List V) : (regW G0 sp cT iText (cOps r10) (opsPart (cOps r10) 6 1) (envL 34 (inv29 n c (ou 1003 m) p (Int.ofNat k))) (hN e n xs L) (KC (inv7 n c (ou 1003 m) p (Int.ofNat k)) (hN e n xs L))) = (
(((some (V.slice 1003 0 m (Cap.atl m 1))) = (some (V.slice 1003 0 m (Cap.atl m 1)))) ∧
 (((some (V.int IntKind.i64 p)) = (some (V.int IntKind.i64 p))) ∧
  (((some (V.slice 1000 0 n c)) = (some (V.slice 1000 0 n c))) ∧
   (((some (V.int IntKind.i64 (Int.ofNat n))) = (some (V.int IntKind.i64 (Int.ofNat n)))) ∧
    (((some (V.int IntKind.i64 (Int.ofNat k))) = (some (V.int IntKind.i64 (Int.ofNat k)))) ∧
     (True)))))) ∧
(((34) = (34)) ∧
 (((((T.leaf.node none
          (T.leaf.node none
            ((T.leaf.node none
                  (T.leaf.node none
                    (T.leaf.node none
                      (T.leaf.node none (T.leaf.node (some (O.cells e L.length L T.leaf)) T.leaf))))).node
              none T.leaf))).node
      none T.leaf).node
  (some (O.ro none 12 words T.leaf))
  (((T.leaf.node none
            ((T.leaf.node none
                  (T.leaf.node none
                    (T.leaf.node none
                      (T.leaf.node none (T.leaf.node (some (O.ro none n (ints xs) T.leaf)) T.leaf))))).node
              none T.leaf)).node
        none T.leaf).node
    none T.leaf)) = (((T.leaf.node none
          (T.leaf.node none
            ((T.leaf.node none
                  (T.leaf.node none
                    (T.leaf.node none
                      (T.leaf.node none (T.leaf.node (some (O.cells e L.length L T.leaf)) T.leaf))))).node
              none T.leaf))).node
      none T.leaf).node
  (some (O.ro none 12 words T.leaf))
  (((T.leaf.node none
            ((T.leaf.node none
                  (T.leaf.node none
                    (T.leaf.node none
                      (T.leaf.node none (T.leaf.node (some (O.ro none n (ints xs) T.leaf)) T.leaf))))).node
              none T.leaf)).node
        none T.leaf).node
    none T.leaf))) ∧
  ((1004) = (1004))))) := by kernel_rfl
theorem w11 (n : Nat) (c : Cap) (p : Int) (k : Nat) (o : V) (h : H) : (evW G0 sp 40 r11 none iText (S (inv7 n c o p (Int.ofNat k)) h) (KD (inv n c o p (Int.ofNat k)) h)) = (
((((some o) = (some o)) ∧
  (((some (V.int IntKind.i64 p)) = (some (V.int IntKind.i64 p))) ∧
   (((some (V.slice 1000 0 n c)) = (some (V.slice 1000 0 n c))) ∧
    (((some (V.int IntKind.i64 (Int.ofNat n))) = (some (V.int IntKind.i64 (Int.ofNat n)))) ∧
     (((some (V.int IntKind.i64 (Int.ofNat k))) = (some (V.int IntKind.i64 (Int.ofNat k)))) ∧
      (True)))))) ∧
 (((34) = (34)) ∧
  ((true) = (true)))) ∧
((h) = (h))) := by kernel_rfl
theorem w12 (n : Nat) (c : Cap) (p : Int) (k : Nat) (o : V) (h : H) : (evW G0 sp 40 r12 none iText (S (inv n c o p (Int.ofNat k)) h) (KD (inv n c o p (wr .i64 (Int.add (Int.ofNat k) (Int.ofNat 1)))) h)) = (
((((some o) = (some o)) ∧
  (((some (V.int IntKind.i64 p)) = (some (V.int IntKind.i64 p))) ∧
   (((some (V.slice 1000 0 n c)) = (some (V.slice 1000 0 n c))) ∧
    (((some (V.int IntKind.i64 (Int.ofNat n))) = (some (V.int IntKind.i64 (Int.ofNat n)))) ∧
     (((some (V.int IntKind.i64 (wr IntKind.i64 ((Int.ofNat k).add (Int.ofNat 1))))) = (some (V.int IntKind.i64 (wr IntKind.i64 ((Int.ofNat k).add (Int.ofNat 1)))))) ∧
      (True)))))) ∧
 (((34) = (34)) ∧
  ((true) = (true)))) ∧
((h) = (h))) := by kernel_rfl
end JT
end Go.Proofs.YtgadijnefbmgkaaGreatDoor

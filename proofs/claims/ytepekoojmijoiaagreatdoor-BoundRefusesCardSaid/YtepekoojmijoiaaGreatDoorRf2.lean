/- BoundRefuses: what its code does, for whatever numbers. -/
import Derived.Test.YtepekoojmijoiaaGreatDoorWk
import Derived.Test.YtepekoojmijoiaaGreatDoorRf1b
import Derived.Test.YtepekoojmijoiaaGreatDoorEvF
namespace Go.Proofs.YtepekoojmijoiaaGreatDoor
set_option maxRecDepth 100000
open Go.Ev Go.RowKit
noncomputable def Gl : Γ := mkG Tryz.prog eqs rows (extL [kCheck, kMark, kBound, kMach, kConf, kOf, kFair, kRel, kWorks])
theorem Gl_x : ExtOK Tryz.prog Gl := extL_ok (l := [kCheck, kMark, kBound, kMach, kConf, kOf, kFair, kRel, kWorks]) (fun x hx => by
  simp only [List.mem_cons, List.not_mem_nil, or_false] at hx
  rcases hx with rfl | rfl | rfl | rfl | rfl | rfl | rfl | rfl | rfl
  · exact check_ok
  · exact mark_ok
  · exact bound_ok
  · exact Mach_ok
  · exact conf_ok
  · exact of_ok
  · exact fair_ok
  · exact rel_ok
  · exact kWorks_ok) rfl
namespace Rf
/-! a code in two parts: what comes first, one after the other, and the rest -/
def splitC : Nat → Code → List Code
  | n + 1, .seq a b => a :: splitC n b
  | _, _ => []
def restC : Nat → Code → Code
  | n + 1, .seq _ b => restC n b
  | _, c => c
def nest : List Code → Code → Code
  | [], r => r
  | c :: cs, r => .seq c (nest cs r)
noncomputable def evL (G : Γ) (sp : SpF) (N : Nat) (fn : FuncId) : List Code → (X → St → Prop) → St → Prop
  | [], K, st => K .normal st
  | c :: cs, K, st => evW G sp N c none fn st fun x st' => match x with
    | .normal => evL G sp N fn cs K st'
    | x => K x st'
theorem at_list {P : Program} {G : Γ} {sp : SpF} (hG : GOk P G) (hcodes : Codes G) (hext : ExtOK P G) (hk : KxOK G sp.kx) {ρ0 : Ren} {h0 : H} {w0 : World} {k : Nat} {Q : Exit → Act → World → Prop} {N : Nat} {fn : FuncId} {K : X → St → Prop} {rest : Code}
    (hN : ∀ st' a' w', K .normal st' → At ρ0 h0 w0 st' a' w' → rest.wpIn Fence.wide k P Q a' w') (hR : ∀ st' a' w', K .ret st' → At ρ0 h0 w0 st' a' w' → Q .ret a' w') (hE : ∀ i st', ¬ K (.exit i) st') :
    ∀ {cs : List Code} {st : St} {a : Act} {w : World}, At ρ0 h0 w0 st a w → evL G sp N fn cs K st → cs.all okC = true → (nest cs rest).wpIn Fence.wide k P Q a w
  | [], st, a, w, hA, he, _ => hN st a w he hA
  | c :: cs, st, a, w, hA, he, ho => by
    simp only [List.all_cons, Bool.and_eq_true] at ho
    refine wpIn_seq (at_w hG hcodes hext hk hA he ho.1 fun x st' a' w' hK A1 => ?_)
    cases x with
    | normal => exact at_list hG hcodes hext hk hN hR hE A1 hK ho.2
    | ret => exact hR _ _ _ hK A1
    | exit i => exact absurd hK (hE i _)
noncomputable def fn : Func := match Tryz.prog.funcs[iRefuses]? with
  | some f => f
  | .none => default
noncomputable def code : Code := match fn.body with
  | some c => c
  | .none => .skip
noncomputable def pre : List Code := splitC 8 code
noncomputable def rest : Code := restC 8 code
theorem isFn : Tryz.prog.funcs[iRefuses]? = some fn := by kernel_rfl
theorem body : fn.body = some code := by kernel_rfl
theorem cut : code = nest pre rest := by kernel_rfl
theorem tmps : fn.ntmps = 271 := by kernel_rfl
theorem o1 : pre.all okC = true := by kernel_rfl
theorem o2 : okC rest = true := by kernel_rfl
noncomputable def sp : SpF where
  at' := fun f t => match Nat.beq f iRefuses, t with
    | true, 39 => .is false | true, 41 => .upto 14 | true, 121 => .is false | true, 124 => .is false | true, 128 => .is false | true, 132 => .is false | true, 137 => .is false | true, 145 => .is false | true, 177 => .is false | true, 182 => .is false | true, 221 => .is false | true, 224 => .is false | true, 267 => .is false
    | _, _ => match Nat.beq f iRelease, t with
      | true, 18 => .both | true, 22 => .both | true, 27 => .is true
      | _, _ => match Nat.beq f iChk, t with
        | true, 9 => .both | _, _ => .keep
noncomputable def S (l : List (Nat × V)) (h : H) : St := ⟨envL 271 l, h, []⟩
def noDefs : List Nat → Bool
  | [] => true
  | _ => false
theorem noDefs_eq {l : List Nat} (h : noDefs l = true) : l = [] := by
  cases l with
  | nil => rfl
  | cons => cases h
noncomputable def isC (l : List V) : Option O → Prop
  | some (.cells _ n pat tr) => Nat.beq n 10 = true ∧ gather n pat tr 0 10 = some l
  | _ => False
def cfgL (a b c d e f g h i j : Int) : List V := [.int .i64 a, .int .i64 b, .int .i64 c, .int .i64 d, .int .i64 e, .int .i64 f, .int .i64 g, .int .i64 h, .int .i64 i, .int .u32 j]
noncomputable def hC (el : Option TypeId) (a b c d e f g h i j : Int) : H := ⟨T.put (hLet letters 1000).tr 1001 (some (.cells el 10 (cfgL a b c d e f g h i j) .leaf)), 1003⟩
noncomputable def KP (a b c d e f g h i j m : Int) (x : X) (st : St) : Prop := match x with
  | .normal => hasT st.env [(7, .ptr 1001 0), (8, .int .i64 m)] ∧ st.env.sz = 271 ∧ noDefs st.defs = true ∧ st.h.next = 1003 ∧ st.h.tr.get 0 = (hLet letters 1000).tr.get 0 ∧ isC (cfgL a b c d e f g h i j) (st.h.tr.get 1001)
  | _ => False
noncomputable def retIs (st : St) : Prop := match takeAll st.defs st.h with
  | some h2 => match resultsO G0 h2 st.env fn with
    | some v => v = .bool true
    | .none => False
  | .none => False
noncomputable def KR (x : X) (st : St) : Prop := match x with
  | .ret => retIs st
  | _ => False
noncomputable def args (a b c d e f g i x y : Int) : List (Nat × V) := [(0, n8 a b c d e f g i), (1, .int .u8 x), (2, .int .u16 y)]
theorem wP (a b c d e f g i x y : Int) : (evL Gl sp 100 iRefuses pre (KP (up a 12) (up b 2) (up c 4) (up d 4) (up e 4) (up f 6) (up (wr .u8 (Int.tdiv f (Int.ofNat 6))) 3) (up g 5) (capF g i) (firstF i) y) (S (args a b c d e f g i x y) (hLet letters 1000))) = (
((!ieq
    (ofE
      (okOf (up a 12) (up b 2) (up c 4) (up d 4) (up e 4) (up f 6) (up (wr IntKind.u8 (f.tdiv (Int.ofNat 6))) 3)
        (up g 5) (capF g i) (firstF i) (Int.ofNat 5) (Int.ofNat 3)))
    (Int.ofNat 0)) = (false)) ∧
(((false) = (false)) ∧
 (((ilt (x.tmod (Int.ofNat 14)) (Int.ofNat 0)) = (false)) ∧
  (((ilt (x.tmod (Int.ofNat 14)) (Int.ofNat 14)) = (true)) ∧
   (((((((((((((((True) ∧
                 (((x.tmod (Int.ofNat 14)) = (Int.ofNat 0)) → ((!ieq
    (markF (wr IntKind.i64 ((Int.ofNat 257).add (wr IntKind.i64 y)))
      (ofV
        (okOf (up a 12) (up b 2) (up c 4) (up d 4) (up e 4) (up f 6) (up (wr IntKind.u8 (f.tdiv (Int.ofNat 6))) 3)
          (up g 5) (capF g i) (firstF i) (Int.ofNat 5) (Int.ofNat 3))
        (up b 2))
      (ofV
        (okOf (up a 12) (up b 2) (up c 4) (up d 4) (up e 4) (up f 6) (up (wr IntKind.u8 (f.tdiv (Int.ofNat 6))) 3)
          (up g 5) (capF g i) (firstF i) (Int.ofNat 5) (Int.ofNat 3))
        (up e 4))
      (ofV
        (okOf (up a 12) (up b 2) (up c 4) (up d 4) (up e 4) (up f 6) (up (wr IntKind.u8 (f.tdiv (Int.ofNat 6))) 3)
          (up g 5) (capF g i) (firstF i) (Int.ofNat 5) (Int.ofNat 3))
        (up (wr IntKind.u8 (f.tdiv (Int.ofNat 6))) 3))
      (ofV
        (okOf (up a 12) (up b 2) (up c 4) (up d 4) (up e 4) (up f 6) (up (wr IntKind.u8 (f.tdiv (Int.ofNat 6))) 3)
          (up g 5) (capF g i) (firstF i) (Int.ofNat 5) (Int.ofNat 3))
        (Int.ofNat 5))
      (ofV
        (okOf (up a 12) (up b 2) (up c 4) (up d 4) (up e 4) (up f 6) (up (wr IntKind.u8 (f.tdiv (Int.ofNat 6))) 3)
          (up g 5) (capF g i) (firstF i) (Int.ofNat 5) (Int.ofNat 3))
        (Int.ofNat 3))
      (ofV
        (okOf (up a 12) (up b 2) (up c 4) (up d 4) (up e 4) (up f 6) (up (wr IntKind.u8 (f.tdiv (Int.ofNat 6))) 3)
          (up g 5) (capF g i) (firstF i) (Int.ofNat 5) (Int.ofNat 3))
        (capF g i)))
    (Int.ofNat 0)) = (false)) ∧
                  (((!ieq
    (checkF (wr IntKind.i64 ((Int.ofNat 257).add (wr IntKind.i64 y)))
      (ofV
        (okOf (up a 12) (up b 2) (up c 4) (up d 4) (up e 4) (up f 6) (up (wr IntKind.u8 (f.tdiv (Int.ofNat 6))) 3)
          (up g 5) (capF g i) (firstF i) (Int.ofNat 5) (Int.ofNat 3))
        (up b 2))
      (ofV
        (okOf (up a 12) (up b 2) (up c 4) (up d 4) (up e 4) (up f 6) (up (wr IntKind.u8 (f.tdiv (Int.ofNat 6))) 3)
          (up g 5) (capF g i) (firstF i) (Int.ofNat 5) (Int.ofNat 3))
        (up e 4))
      (ofV
        (okOf (up a 12) (up b 2) (up c 4) (up d 4) (up e 4) (up f 6) (up (wr IntKind.u8 (f.tdiv (Int.ofNat 6))) 3)
          (up g 5) (capF g i) (firstF i) (Int.ofNat 5) (Int.ofNat 3))
        (up (wr IntKind.u8 (f.tdiv (Int.ofNat 6))) 3))
      (ofV
        (okOf (up a 12) (up b 2) (up c 4) (up d 4) (up e 4) (up f 6) (up (wr IntKind.u8 (f.tdiv (Int.ofNat 6))) 3)
          (up g 5) (capF g i) (firstF i) (Int.ofNat 5) (Int.ofNat 3))
        (Int.ofNat 5))
      (ofV
        (okOf (up a 12) (up b 2) (up c 4) (up d 4) (up e 4) (up f 6) (up (wr IntKind.u8 (f.tdiv (Int.ofNat 6))) 3)
          (up g 5) (capF g i) (firstF i) (Int.ofNat 5) (Int.ofNat 3))
        (Int.ofNat 3))
      (ofV
        (okOf (up a 12) (up b 2) (up c 4) (up d 4) (up e 4) (up f 6) (up (wr IntKind.u8 (f.tdiv (Int.ofNat 6))) 3)
          (up g 5) (capF g i) (firstF i) (Int.ofNat 5) (Int.ofNat 3))
        (capF g i)))
    (Int.ofNat 2)) = (false)) ∧
                   (((!ieq
    (boundF (wr IntKind.i64 ((Int.ofNat 257).add (wr IntKind.i64 y)))
      (ofV
        (okOf (up a 12) (up b 2) (up c 4) (up d 4) (up e 4) (up f 6) (up (wr IntKind.u8 (f.tdiv (Int.ofNat 6))) 3)
          (up g 5) (capF g i) (firstF i) (Int.ofNat 5) (Int.ofNat 3))
        (up b 2))
      (ofV
        (okOf (up a 12) (up b 2) (up c 4) (up d 4) (up e 4) (up f 6) (up (wr IntKind.u8 (f.tdiv (Int.ofNat 6))) 3)
          (up g 5) (capF g i) (firstF i) (Int.ofNat 5) (Int.ofNat 3))
        (up e 4))
      (ofV
        (okOf (up a 12) (up b 2) (up c 4) (up d 4) (up e 4) (up f 6) (up (wr IntKind.u8 (f.tdiv (Int.ofNat 6))) 3)
          (up g 5) (capF g i) (firstF i) (Int.ofNat 5) (Int.ofNat 3))
        (up (wr IntKind.u8 (f.tdiv (Int.ofNat 6))) 3))
      (ofV
        (okOf (up a 12) (up b 2) (up c 4) (up d 4) (up e 4) (up f 6) (up (wr IntKind.u8 (f.tdiv (Int.ofNat 6))) 3)
          (up g 5) (capF g i) (firstF i) (Int.ofNat 5) (Int.ofNat 3))
        (Int.ofNat 5))
      (ofV
        (okOf (up a 12) (up b 2) (up c 4) (up d 4) (up e 4) (up f 6) (up (wr IntKind.u8 (f.tdiv (Int.ofNat 6))) 3)
          (up g 5) (capF g i) (firstF i) (Int.ofNat 5) (Int.ofNat 3))
        (Int.ofNat 3))
      (ofV
        (okOf (up a 12) (up b 2) (up c 4) (up d 4) (up e 4) (up f 6) (up (wr IntKind.u8 (f.tdiv (Int.ofNat 6))) 3)
          (up g 5) (capF g i) (firstF i) (Int.ofNat 5) (Int.ofNat 3))
        (capF g i)))
    (Int.ofNat 0)) = (false)) ∧
                    (((!ieq
    (checkF (wr IntKind.i64 ((Int.ofNat 257).add (wr IntKind.i64 y)))
      (ofV
        (okOf (up a 12) (up b 2) (up c 4) (up d 4) (up e 4) (up f 6) (up (wr IntKind.u8 (f.tdiv (Int.ofNat 6))) 3)
          (up g 5) (capF g i) (firstF i) (Int.ofNat 5) (Int.ofNat 3))
        (up b 2))
      (ofV
        (okOf (up a 12) (up b 2) (up c 4) (up d 4) (up e 4) (up f 6) (up (wr IntKind.u8 (f.tdiv (Int.ofNat 6))) 3)
          (up g 5) (capF g i) (firstF i) (Int.ofNat 5) (Int.ofNat 3))
        (up e 4))
      (ofV
        (okOf (up a 12) (up b 2) (up c 4) (up d 4) (up e 4) (up f 6) (up (wr IntKind.u8 (f.tdiv (Int.ofNat 6))) 3)
          (up g 5) (capF g i) (firstF i) (Int.ofNat 5) (Int.ofNat 3))
        (up (wr IntKind.u8 (f.tdiv (Int.ofNat 6))) 3))
      (ofV
        (okOf (up a 12) (up b 2) (up c 4) (up d 4) (up e 4) (up f 6) (up (wr IntKind.u8 (f.tdiv (Int.ofNat 6))) 3)
          (up g 5) (capF g i) (firstF i) (Int.ofNat 5) (Int.ofNat 3))
        (Int.ofNat 5))
      (ofV
        (okOf (up a 12) (up b 2) (up c 4) (up d 4) (up e 4) (up f 6) (up (wr IntKind.u8 (f.tdiv (Int.ofNat 6))) 3)
          (up g 5) (capF g i) (firstF i) (Int.ofNat 5) (Int.ofNat 3))
        (Int.ofNat 3))
      (ofV
        (okOf (up a 12) (up b 2) (up c 4) (up d 4) (up e 4) (up f 6) (up (wr IntKind.u8 (f.tdiv (Int.ofNat 6))) 3)
          (up g 5) (capF g i) (firstF i) (Int.ofNat 5) (Int.ofNat 3))
        (capF g i)))
    (Int.ofNat 2)) = (false)) ∧
                     (((!ieq
    (checkF (wr IntKind.i64 ((Int.ofNat 257).add (wr IntKind.i64 y)))
      (ofV
        (okOf (up a 12) (up b 2) (up c 4) (up d 4) (up e 4) (up f 6) (up (wr IntKind.u8 (f.tdiv (Int.ofNat 6))) 3)
          (up g 5) (capF g i) (firstF i) (Int.ofNat 5) (Int.ofNat 3))
        (up b 2))
      (ofV
        (okOf (up a 12) (up b 2) (up c 4) (up d 4) (up e 4) (up f 6) (up (wr IntKind.u8 (f.tdiv (Int.ofNat 6))) 3)
          (up g 5) (capF g i) (firstF i) (Int.ofNat 5) (Int.ofNat 3))
        (up e 4))
      (ofV
        (okOf (up a 12) (up b 2) (up c 4) (up d 4) (up e 4) (up f 6) (up (wr IntKind.u8 (f.tdiv (Int.ofNat 6))) 3)
          (up g 5) (capF g i) (firstF i) (Int.ofNat 5) (Int.ofNat 3))
        (up (wr IntKind.u8 (f.tdiv (Int.ofNat 6))) 3))
      (ofV
        (okOf (up a 12) (up b 2) (up c 4) (up d 4) (up e 4) (up f 6) (up (wr IntKind.u8 (f.tdiv (Int.ofNat 6))) 3)
          (up g 5) (capF g i) (firstF i) (Int.ofNat 5) (Int.ofNat 3))
        (Int.ofNat 5))
      (ofV
        (okOf (up a 12) (up b 2) (up c 4) (up d 4) (up e 4) (up f 6) (up (wr IntKind.u8 (f.tdiv (Int.ofNat 6))) 3)
          (up g 5) (capF g i) (firstF i) (Int.ofNat 5) (Int.ofNat 3))
        (Int.ofNat 3))
      (ofV
        (okOf (up a 12) (up b 2) (up c 4) (up d 4) (up e 4) (up f 6) (up (wr IntKind.u8 (f.tdiv (Int.ofNat 6))) 3)
          (up g 5) (capF g i) (firstF i) (Int.ofNat 5) (Int.ofNat 3))
        (capF g i)))
    (Int.ofNat 2)) = (false)) ∧
                      ((((some (V.ptr 1001 0)) = (some (V.ptr 1001 0))) ∧
                        (((some (V.int IntKind.i64 (wr IntKind.i64 y))) = (some (V.int IntKind.i64 y))) ∧
                         (True))) ∧
                       (((271) = (271)) ∧
                        (((true) = (true)) ∧
                         (((1003) = (1003)) ∧
                          (((some
  (O.ro none 4
    [V.int IntKind.u8 (Int.ofNat 0), V.int IntKind.u8 (Int.ofNat 111), V.int IntKind.u8 (Int.ofNat 108),
      V.int IntKind.u8 (Int.ofNat 102)]
    T.leaf)) = (some
  (O.ro none 4
    [V.int IntKind.u8 (Int.ofNat 0), V.int IntKind.u8 (Int.ofNat 111), V.int IntKind.u8 (Int.ofNat 108),
      V.int IntKind.u8 (Int.ofNat 102)]
    T.leaf))) ∧
                           (((true) = (true)) ∧
                            ((some
  [V.int IntKind.i64 (up a 12), V.int IntKind.i64 (up b 2), V.int IntKind.i64 (up c 4), V.int IntKind.i64 (up d 4),
    V.int IntKind.i64 (up e 4), V.int IntKind.i64 (up f 6),
    V.int IntKind.i64 (up (wr IntKind.u8 (f.tdiv (Int.ofNat 6))) 3), V.int IntKind.i64 (up g 5),
    V.int IntKind.i64 (capF g i), V.int IntKind.u32 (firstF i)]) = (some
  [V.int IntKind.i64 (up a 12), V.int IntKind.i64 (up b 2), V.int IntKind.i64 (up c 4), V.int IntKind.i64 (up d 4),
    V.int IntKind.i64 (up e 4), V.int IntKind.i64 (up f 6),
    V.int IntKind.i64 (up (wr IntKind.u8 (f.tdiv (Int.ofNat 6))) 3), V.int IntKind.i64 (up g 5),
    V.int IntKind.i64 (capF g i), V.int IntKind.u32 (firstF i)])))))))))))))) ∧
                (((x.tmod (Int.ofNat 14)) = (Int.ofNat 1)) → ((!ieq
    (markF (wr IntKind.i64 ((Int.ofNat 0).sub (wr IntKind.i64 y)))
      (ofV
        (okOf (up a 12) (up b 2) (up c 4) (up d 4) (up e 4) (up f 6) (up (wr IntKind.u8 (f.tdiv (Int.ofNat 6))) 3)
          (up g 5) (capF g i) (firstF i) (Int.ofNat 5) (Int.ofNat 3))
        (up b 2))
      (ofV
        (okOf (up a 12) (up b 2) (up c 4) (up d 4) (up e 4) (up f 6) (up (wr IntKind.u8 (f.tdiv (Int.ofNat 6))) 3)
          (up g 5) (capF g i) (firstF i) (Int.ofNat 5) (Int.ofNat 3))
        (up e 4))
      (ofV
        (okOf (up a 12) (up b 2) (up c 4) (up d 4) (up e 4) (up f 6) (up (wr IntKind.u8 (f.tdiv (Int.ofNat 6))) 3)
          (up g 5) (capF g i) (firstF i) (Int.ofNat 5) (Int.ofNat 3))
        (up (wr IntKind.u8 (f.tdiv (Int.ofNat 6))) 3))
      (ofV
        (okOf (up a 12) (up b 2) (up c 4) (up d 4) (up e 4) (up f 6) (up (wr IntKind.u8 (f.tdiv (Int.ofNat 6))) 3)
          (up g 5) (capF g i) (firstF i) (Int.ofNat 5) (Int.ofNat 3))
        (Int.ofNat 5))
      (ofV
        (okOf (up a 12) (up b 2) (up c 4) (up d 4) (up e 4) (up f 6) (up (wr IntKind.u8 (f.tdiv (Int.ofNat 6))) 3)
          (up g 5) (capF g i) (firstF i) (Int.ofNat 5) (Int.ofNat 3))
        (Int.ofNat 3))
      (ofV
        (okOf (up a 12) (up b 2) (up c 4) (up d 4) (up e 4) (up f 6) (up (wr IntKind.u8 (f.tdiv (Int.ofNat 6))) 3)
          (up g 5) (capF g i) (firstF i) (Int.ofNat 5) (Int.ofNat 3))
        (capF g i)))
    (Int.ofNat 0)) = (false)) ∧
                 (((!ieq
    (checkF (wr IntKind.i64 ((Int.ofNat 0).sub (wr IntKind.i64 y)))
      (ofV
        (okOf (up a 12) (up b 2) (up c 4) (up d 4) (up e 4) (up f 6) (up (wr IntKind.u8 (f.tdiv (Int.ofNat 6))) 3)
          (up g 5) (capF g i) (firstF i) (Int.ofNat 5) (Int.ofNat 3))
        (up b 2))
      (ofV
        (okOf (up a 12) (up b 2) (up c 4) (up d 4) (up e 4) (up f 6) (up (wr IntKind.u8 (f.tdiv (Int.ofNat 6))) 3)
          (up g 5) (capF g i) (firstF i) (Int.ofNat 5) (Int.ofNat 3))
        (up e 4))
      (ofV
        (okOf (up a 12) (up b 2) (up c 4) (up d 4) (up e 4) (up f 6) (up (wr IntKind.u8 (f.tdiv (Int.ofNat 6))) 3)
          (up g 5) (capF g i) (firstF i) (Int.ofNat 5) (Int.ofNat 3))
        (up (wr IntKind.u8 (f.tdiv (Int.ofNat 6))) 3))
      (ofV
        (okOf (up a 12) (up b 2) (up c 4) (up d 4) (up e 4) (up f 6) (up (wr IntKind.u8 (f.tdiv (Int.ofNat 6))) 3)
          (up g 5) (capF g i) (firstF i) (Int.ofNat 5) (Int.ofNat 3))
        (Int.ofNat 5))
      (ofV
        (okOf (up a 12) (up b 2) (up c 4) (up d 4) (up e 4) (up f 6) (up (wr IntKind.u8 (f.tdiv (Int.ofNat 6))) 3)
          (up g 5) (capF g i) (firstF i) (Int.ofNat 5) (Int.ofNat 3))
        (Int.ofNat 3))
      (ofV
        (okOf (up a 12) (up b 2) (up c 4) (up d 4) (up e 4) (up f 6) (up (wr IntKind.u8 (f.tdiv (Int.ofNat 6))) 3)
          (up g 5) (capF g i) (firstF i) (Int.ofNat 5) (Int.ofNat 3))
        (capF g i)))
    (Int.ofNat 2)) = (false)) ∧
                  (((!ieq
    (boundF (wr IntKind.i64 ((Int.ofNat 0).sub (wr IntKind.i64 y)))
      (ofV
        (okOf (up a 12) (up b 2) (up c 4) (up d 4) (up e 4) (up f 6) (up (wr IntKind.u8 (f.tdiv (Int.ofNat 6))) 3)
          (up g 5) (capF g i) (firstF i) (Int.ofNat 5) (Int.ofNat 3))
        (up b 2))
      (ofV
        (okOf (up a 12) (up b 2) (up c 4) (up d 4) (up e 4) (up f 6) (up (wr IntKind.u8 (f.tdiv (Int.ofNat 6))) 3)
          (up g 5) (capF g i) (firstF i) (Int.ofNat 5) (Int.ofNat 3))
        (up e 4))
      (ofV
        (okOf (up a 12) (up b 2) (up c 4) (up d 4) (up e 4) (up f 6) (up (wr IntKind.u8 (f.tdiv (Int.ofNat 6))) 3)
          (up g 5) (capF g i) (firstF i) (Int.ofNat 5) (Int.ofNat 3))
        (up (wr IntKind.u8 (f.tdiv (Int.ofNat 6))) 3))
      (ofV
        (okOf (up a 12) (up b 2) (up c 4) (up d 4) (up e 4) (up f 6) (up (wr IntKind.u8 (f.tdiv (Int.ofNat 6))) 3)
          (up g 5) (capF g i) (firstF i) (Int.ofNat 5) (Int.ofNat 3))
        (Int.ofNat 5))
      (ofV
        (okOf (up a 12) (up b 2) (up c 4) (up d 4) (up e 4) (up f 6) (up (wr IntKind.u8 (f.tdiv (Int.ofNat 6))) 3)
          (up g 5) (capF g i) (firstF i) (Int.ofNat 5) (Int.ofNat 3))
        (Int.ofNat 3))
      (ofV
        (okOf (up a 12) (up b 2) (up c 4) (up d 4) (up e 4) (up f 6) (up (wr IntKind.u8 (f.tdiv (Int.ofNat 6))) 3)
          (up g 5) (capF g i) (firstF i) (Int.ofNat 5) (Int.ofNat 3))
        (capF g i)))
    (Int.ofNat 0)) = (false)) ∧
                   (((!ieq
    (checkF (wr IntKind.i64 ((Int.ofNat 0).sub (wr IntKind.i64 y)))
      (ofV
        (okOf (up a 12) (up b 2) (up c 4) (up d 4) (up e 4) (up f 6) (up (wr IntKind.u8 (f.tdiv (Int.ofNat 6))) 3)
          (up g 5) (capF g i) (firstF i) (Int.ofNat 5) (Int.ofNat 3))
        (up b 2))
      (ofV
        (okOf (up a 12) (up b 2) (up c 4) (up d 4) (up e 4) (up f 6) (up (wr IntKind.u8 (f.tdiv (Int.ofNat 6))) 3)
          (up g 5) (capF g i) (firstF i) (Int.ofNat 5) (Int.ofNat 3))
        (up e 4))
      (ofV
        (okOf (up a 12) (up b 2) (up c 4) (up d 4) (up e 4) (up f 6) (up (wr IntKind.u8 (f.tdiv (Int.ofNat 6))) 3)
          (up g 5) (capF g i) (firstF i) (Int.ofNat 5) (Int.ofNat 3))
        (up (wr IntKind.u8 (f.tdiv (Int.ofNat 6))) 3))
      (ofV
        (okOf (up a 12) (up b 2) (up c 4) (up d 4) (up e 4) (up f 6) (up (wr IntKind.u8 (f.tdiv (Int.ofNat 6))) 3)
          (up g 5) (capF g i) (firstF i) (Int.ofNat 5) (Int.ofNat 3))
        (Int.ofNat 5))
      (ofV
        (okOf (up a 12) (up b 2) (up c 4) (up d 4) (up e 4) (up f 6) (up (wr IntKind.u8 (f.tdiv (Int.ofNat 6))) 3)
          (up g 5) (capF g i) (firstF i) (Int.ofNat 5) (Int.ofNat 3))
        (Int.ofNat 3))
      (ofV
        (okOf (up a 12) (up b 2) (up c 4) (up d 4) (up e 4) (up f 6) (up (wr IntKind.u8 (f.tdiv (Int.ofNat 6))) 3)
          (up g 5) (capF g i) (firstF i) (Int.ofNat 5) (Int.ofNat 3))
        (capF g i)))
    (Int.ofNat 2)) = (false)) ∧
                    (((!ieq
    (checkF (wr IntKind.i64 ((Int.ofNat 0).sub (wr IntKind.i64 y)))
      (ofV
        (okOf (up a 12) (up b 2) (up c 4) (up d 4) (up e 4) (up f 6) (up (wr IntKind.u8 (f.tdiv (Int.ofNat 6))) 3)
          (up g 5) (capF g i) (firstF i) (Int.ofNat 5) (Int.ofNat 3))
        (up b 2))
      (ofV
        (okOf (up a 12) (up b 2) (up c 4) (up d 4) (up e 4) (up f 6) (up (wr IntKind.u8 (f.tdiv (Int.ofNat 6))) 3)
          (up g 5) (capF g i) (firstF i) (Int.ofNat 5) (Int.ofNat 3))
        (up e 4))
      (ofV
        (okOf (up a 12) (up b 2) (up c 4) (up d 4) (up e 4) (up f 6) (up (wr IntKind.u8 (f.tdiv (Int.ofNat 6))) 3)
          (up g 5) (capF g i) (firstF i) (Int.ofNat 5) (Int.ofNat 3))
        (up (wr IntKind.u8 (f.tdiv (Int.ofNat 6))) 3))
      (ofV
        (okOf (up a 12) (up b 2) (up c 4) (up d 4) (up e 4) (up f 6) (up (wr IntKind.u8 (f.tdiv (Int.ofNat 6))) 3)
          (up g 5) (capF g i) (firstF i) (Int.ofNat 5) (Int.ofNat 3))
        (Int.ofNat 5))
      (ofV
        (okOf (up a 12) (up b 2) (up c 4) (up d 4) (up e 4) (up f 6) (up (wr IntKind.u8 (f.tdiv (Int.ofNat 6))) 3)
          (up g 5) (capF g i) (firstF i) (Int.ofNat 5) (Int.ofNat 3))
        (Int.ofNat 3))
      (ofV
        (okOf (up a 12) (up b 2) (up c 4) (up d 4) (up e 4) (up f 6) (up (wr IntKind.u8 (f.tdiv (Int.ofNat 6))) 3)
          (up g 5) (capF g i) (firstF i) (Int.ofNat 5) (Int.ofNat 3))
        (capF g i)))
    (Int.ofNat 2)) = (false)) ∧
                     ((((some (V.ptr 1001 0)) = (some (V.ptr 1001 0))) ∧
                       (((some (V.int IntKind.i64 (wr IntKind.i64 y))) = (some (V.int IntKind.i64 y))) ∧
                        (True))) ∧
                      (((271) = (271)) ∧
                       (((true) = (true)) ∧
                        (((1003) = (1003)) ∧
                         (((some
  (O.ro none 4
    [V.int IntKind.u8 (Int.ofNat 0), V.int IntKind.u8 (Int.ofNat 111), V.int IntKind.u8 (Int.ofNat 108),
      V.int IntKind.u8 (Int.ofNat 102)]
    T.leaf)) = (some
  (O.ro none 4
    [V.int IntKind.u8 (Int.ofNat 0), V.int IntKind.u8 (Int.ofNat 111), V.int IntKind.u8 (Int.ofNat 108),
      V.int IntKind.u8 (Int.ofNat 102)]
    T.leaf))) ∧
                          (((true) = (true)) ∧
                           ((some
  [V.int IntKind.i64 (up a 12), V.int IntKind.i64 (up b 2), V.int IntKind.i64 (up c 4), V.int IntKind.i64 (up d 4),
    V.int IntKind.i64 (up e 4), V.int IntKind.i64 (up f 6),
    V.int IntKind.i64 (up (wr IntKind.u8 (f.tdiv (Int.ofNat 6))) 3), V.int IntKind.i64 (up g 5),
    V.int IntKind.i64 (capF g i), V.int IntKind.u32 (firstF i)]) = (some
  [V.int IntKind.i64 (up a 12), V.int IntKind.i64 (up b 2), V.int IntKind.i64 (up c 4), V.int IntKind.i64 (up d 4),
    V.int IntKind.i64 (up e 4), V.int IntKind.i64 (up f 6),
    V.int IntKind.i64 (up (wr IntKind.u8 (f.tdiv (Int.ofNat 6))) 3), V.int IntKind.i64 (up g 5),
    V.int IntKind.i64 (capF g i), V.int IntKind.u32 (firstF i)])))))))))))))) ∧
               (((x.tmod (Int.ofNat 14)) = (Int.ofNat 2)) → ((!ieq
    (markF
      (ofV
        (okOf (up a 12) (up b 2) (up c 4) (up d 4) (up e 4) (up f 6) (up (wr IntKind.u8 (f.tdiv (Int.ofNat 6))) 3)
          (up g 5) (capF g i) (firstF i) (Int.ofNat 5) (Int.ofNat 3))
        (up a 12))
      (wr IntKind.i64 ((Int.ofNat 5).add (wr IntKind.i64 y)))
      (ofV
        (okOf (up a 12) (up b 2) (up c 4) (up d 4) (up e 4) (up f 6) (up (wr IntKind.u8 (f.tdiv (Int.ofNat 6))) 3)
          (up g 5) (capF g i) (firstF i) (Int.ofNat 5) (Int.ofNat 3))
        (up e 4))
      (ofV
        (okOf (up a 12) (up b 2) (up c 4) (up d 4) (up e 4) (up f 6) (up (wr IntKind.u8 (f.tdiv (Int.ofNat 6))) 3)
          (up g 5) (capF g i) (firstF i) (Int.ofNat 5) (Int.ofNat 3))
        (up (wr IntKind.u8 (f.tdiv (Int.ofNat 6))) 3))
      (ofV
        (okOf (up a 12) (up b 2) (up c 4) (up d 4) (up e 4) (up f 6) (up (wr IntKind.u8 (f.tdiv (Int.ofNat 6))) 3)
          (up g 5) (capF g i) (firstF i) (Int.ofNat 5) (Int.ofNat 3))
        (Int.ofNat 5))
      (ofV
        (okOf (up a 12) (up b 2) (up c 4) (up d 4) (up e 4) (up f 6) (up (wr IntKind.u8 (f.tdiv (Int.ofNat 6))) 3)
          (up g 5) (capF g i) (firstF i) (Int.ofNat 5) (Int.ofNat 3))
        (Int.ofNat 3))
      (ofV
        (okOf (up a 12) (up b 2) (up c 4) (up d 4) (up e 4) (up f 6) (up (wr IntKind.u8 (f.tdiv (Int.ofNat 6))) 3)
          (up g 5) (capF g i) (firstF i) (Int.ofNat 5) (Int.ofNat 3))
        (capF g i)))
    (Int.ofNat 0)) = (false)) ∧
                (((!ieq
    (checkF
      (ofV
        (okOf (up a 12) (up b 2) (up c 4) (up d 4) (up e 4) (up f 6) (up (wr IntKind.u8 (f.tdiv (Int.ofNat 6))) 3)
          (up g 5) (capF g i) (firstF i) (Int.ofNat 5) (Int.ofNat 3))
        (up a 12))
      (wr IntKind.i64 ((Int.ofNat 5).add (wr IntKind.i64 y)))
      (ofV
        (okOf (up a 12) (up b 2) (up c 4) (up d 4) (up e 4) (up f 6) (up (wr IntKind.u8 (f.tdiv (Int.ofNat 6))) 3)
          (up g 5) (capF g i) (firstF i) (Int.ofNat 5) (Int.ofNat 3))
        (up e 4))
      (ofV
        (okOf (up a 12) (up b 2) (up c 4) (up d 4) (up e 4) (up f 6) (up (wr IntKind.u8 (f.tdiv (Int.ofNat 6))) 3)
          (up g 5) (capF g i) (firstF i) (Int.ofNat 5) (Int.ofNat 3))
        (up (wr IntKind.u8 (f.tdiv (Int.ofNat 6))) 3))
      (ofV
        (okOf (up a 12) (up b 2) (up c 4) (up d 4) (up e 4) (up f 6) (up (wr IntKind.u8 (f.tdiv (Int.ofNat 6))) 3)
          (up g 5) (capF g i) (firstF i) (Int.ofNat 5) (Int.ofNat 3))
        (Int.ofNat 5))
      (ofV
        (okOf (up a 12) (up b 2) (up c 4) (up d 4) (up e 4) (up f 6) (up (wr IntKind.u8 (f.tdiv (Int.ofNat 6))) 3)
          (up g 5) (capF g i) (firstF i) (Int.ofNat 5) (Int.ofNat 3))
        (Int.ofNat 3))
      (ofV
        (okOf (up a 12) (up b 2) (up c 4) (up d 4) (up e 4) (up f 6) (up (wr IntKind.u8 (f.tdiv (Int.ofNat 6))) 3)
          (up g 5) (capF g i) (firstF i) (Int.ofNat 5) (Int.ofNat 3))
        (capF g i)))
    (Int.ofNat 2)) = (false)) ∧
                 (((!ieq
    (boundF
      (ofV
        (okOf (up a 12) (up b 2) (up c 4) (up d 4) (up e 4) (up f 6) (up (wr IntKind.u8 (f.tdiv (Int.ofNat 6))) 3)
          (up g 5) (capF g i) (firstF i) (Int.ofNat 5) (Int.ofNat 3))
        (up a 12))
      (wr IntKind.i64 ((Int.ofNat 5).add (wr IntKind.i64 y)))
      (ofV
        (okOf (up a 12) (up b 2) (up c 4) (up d 4) (up e 4) (up f 6) (up (wr IntKind.u8 (f.tdiv (Int.ofNat 6))) 3)
          (up g 5) (capF g i) (firstF i) (Int.ofNat 5) (Int.ofNat 3))
        (up e 4))
      (ofV
        (okOf (up a 12) (up b 2) (up c 4) (up d 4) (up e 4) (up f 6) (up (wr IntKind.u8 (f.tdiv (Int.ofNat 6))) 3)
          (up g 5) (capF g i) (firstF i) (Int.ofNat 5) (Int.ofNat 3))
        (up (wr IntKind.u8 (f.tdiv (Int.ofNat 6))) 3))
      (ofV
        (okOf (up a 12) (up b 2) (up c 4) (up d 4) (up e 4) (up f 6) (up (wr IntKind.u8 (f.tdiv (Int.ofNat 6))) 3)
          (up g 5) (capF g i) (firstF i) (Int.ofNat 5) (Int.ofNat 3))
        (Int.ofNat 5))
      (ofV
        (okOf (up a 12) (up b 2) (up c 4) (up d 4) (up e 4) (up f 6) (up (wr IntKind.u8 (f.tdiv (Int.ofNat 6))) 3)
          (up g 5) (capF g i) (firstF i) (Int.ofNat 5) (Int.ofNat 3))
        (Int.ofNat 3))
      (ofV
        (okOf (up a 12) (up b 2) (up c 4) (up d 4) (up e 4) (up f 6) (up (wr IntKind.u8 (f.tdiv (Int.ofNat 6))) 3)
          (up g 5) (capF g i) (firstF i) (Int.ofNat 5) (Int.ofNat 3))
        (capF g i)))
    (Int.ofNat 0)) = (false)) ∧
                  (((!ieq
    (checkF
      (ofV
        (okOf (up a 12) (up b 2) (up c 4) (up d 4) (up e 4) (up f 6) (up (wr IntKind.u8 (f.tdiv (Int.ofNat 6))) 3)
          (up g 5) (capF g i) (firstF i) (Int.ofNat 5) (Int.ofNat 3))
        (up a 12))
      (wr IntKind.i64 ((Int.ofNat 5).add (wr IntKind.i64 y)))
      (ofV
        (okOf (up a 12) (up b 2) (up c 4) (up d 4) (up e 4) (up f 6) (up (wr IntKind.u8 (f.tdiv (Int.ofNat 6))) 3)
          (up g 5) (capF g i) (firstF i) (Int.ofNat 5) (Int.ofNat 3))
        (up e 4))
      (ofV
        (okOf (up a 12) (up b 2) (up c 4) (up d 4) (up e 4) (up f 6) (up (wr IntKind.u8 (f.tdiv (Int.ofNat 6))) 3)
          (up g 5) (capF g i) (firstF i) (Int.ofNat 5) (Int.ofNat 3))
        (up (wr IntKind.u8 (f.tdiv (Int.ofNat 6))) 3))
      (ofV
        (okOf (up a 12) (up b 2) (up c 4) (up d 4) (up e 4) (up f 6) (up (wr IntKind.u8 (f.tdiv (Int.ofNat 6))) 3)
          (up g 5) (capF g i) (firstF i) (Int.ofNat 5) (Int.ofNat 3))
        (Int.ofNat 5))
      (ofV
        (okOf (up a 12) (up b 2) (up c 4) (up d 4) (up e 4) (up f 6) (up (wr IntKind.u8 (f.tdiv (Int.ofNat 6))) 3)
          (up g 5) (capF g i) (firstF i) (Int.ofNat 5) (Int.ofNat 3))
        (Int.ofNat 3))
      (ofV
        (okOf (up a 12) (up b 2) (up c 4) (up d 4) (up e 4) (up f 6) (up (wr IntKind.u8 (f.tdiv (Int.ofNat 6))) 3)
          (up g 5) (capF g i) (firstF i) (Int.ofNat 5) (Int.ofNat 3))
        (capF g i)))
    (Int.ofNat 2)) = (false)) ∧
                   (((!ieq
    (checkF
      (ofV
        (okOf (up a 12) (up b 2) (up c 4) (up d 4) (up e 4) (up f 6) (up (wr IntKind.u8 (f.tdiv (Int.ofNat 6))) 3)
          (up g 5) (capF g i) (firstF i) (Int.ofNat 5) (Int.ofNat 3))
        (up a 12))
      (wr IntKind.i64 ((Int.ofNat 5).add (wr IntKind.i64 y)))
      (ofV
        (okOf (up a 12) (up b 2) (up c 4) (up d 4) (up e 4) (up f 6) (up (wr IntKind.u8 (f.tdiv (Int.ofNat 6))) 3)
          (up g 5) (capF g i) (firstF i) (Int.ofNat 5) (Int.ofNat 3))
        (up e 4))
      (ofV
        (okOf (up a 12) (up b 2) (up c 4) (up d 4) (up e 4) (up f 6) (up (wr IntKind.u8 (f.tdiv (Int.ofNat 6))) 3)
          (up g 5) (capF g i) (firstF i) (Int.ofNat 5) (Int.ofNat 3))
        (up (wr IntKind.u8 (f.tdiv (Int.ofNat 6))) 3))
      (ofV
        (okOf (up a 12) (up b 2) (up c 4) (up d 4) (up e 4) (up f 6) (up (wr IntKind.u8 (f.tdiv (Int.ofNat 6))) 3)
          (up g 5) (capF g i) (firstF i) (Int.ofNat 5) (Int.ofNat 3))
        (Int.ofNat 5))
      (ofV
        (okOf (up a 12) (up b 2) (up c 4) (up d 4) (up e 4) (up f 6) (up (wr IntKind.u8 (f.tdiv (Int.ofNat 6))) 3)
          (up g 5) (capF g i) (firstF i) (Int.ofNat 5) (Int.ofNat 3))
        (Int.ofNat 3))
      (ofV
        (okOf (up a 12) (up b 2) (up c 4) (up d 4) (up e 4) (up f 6) (up (wr IntKind.u8 (f.tdiv (Int.ofNat 6))) 3)
          (up g 5) (capF g i) (firstF i) (Int.ofNat 5) (Int.ofNat 3))
        (capF g i)))
    (Int.ofNat 2)) = (false)) ∧
                    ((((some (V.ptr 1001 0)) = (some (V.ptr 1001 0))) ∧
                      (((some (V.int IntKind.i64 (wr IntKind.i64 y))) = (some (V.int IntKind.i64 y))) ∧
                       (True))) ∧
                     (((271) = (271)) ∧
                      (((true) = (true)) ∧
                       (((1003) = (1003)) ∧
                        (((some
  (O.ro none 4
    [V.int IntKind.u8 (Int.ofNat 0), V.int IntKind.u8 (Int.ofNat 111), V.int IntKind.u8 (Int.ofNat 108),
      V.int IntKind.u8 (Int.ofNat 102)]
    T.leaf)) = (some
  (O.ro none 4
    [V.int IntKind.u8 (Int.ofNat 0), V.int IntKind.u8 (Int.ofNat 111), V.int IntKind.u8 (Int.ofNat 108),
      V.int IntKind.u8 (Int.ofNat 102)]
    T.leaf))) ∧
                         (((true) = (true)) ∧
                          ((some
  [V.int IntKind.i64 (up a 12), V.int IntKind.i64 (up b 2), V.int IntKind.i64 (up c 4), V.int IntKind.i64 (up d 4),
    V.int IntKind.i64 (up e 4), V.int IntKind.i64 (up f 6),
    V.int IntKind.i64 (up (wr IntKind.u8 (f.tdiv (Int.ofNat 6))) 3), V.int IntKind.i64 (up g 5),
    V.int IntKind.i64 (capF g i), V.int IntKind.u32 (firstF i)]) = (some
  [V.int IntKind.i64 (up a 12), V.int IntKind.i64 (up b 2), V.int IntKind.i64 (up c 4), V.int IntKind.i64 (up d 4),
    V.int IntKind.i64 (up e 4), V.int IntKind.i64 (up f 6),
    V.int IntKind.i64 (up (wr IntKind.u8 (f.tdiv (Int.ofNat 6))) 3), V.int IntKind.i64 (up g 5),
    V.int IntKind.i64 (capF g i), V.int IntKind.u32 (firstF i)])))))))))))))) ∧
              (((x.tmod (Int.ofNat 14)) = (Int.ofNat 3)) → ((!ieq
    (markF
      (ofV
        (okOf (up a 12) (up b 2) (up c 4) (up d 4) (up e 4) (up f 6) (up (wr IntKind.u8 (f.tdiv (Int.ofNat 6))) 3)
          (up g 5) (capF g i) (firstF i) (Int.ofNat 5) (Int.ofNat 3))
        (up a 12))
      (wr IntKind.i64 ((Int.ofNat 0).sub (wr IntKind.i64 y)))
      (ofV
        (okOf (up a 12) (up b 2) (up c 4) (up d 4) (up e 4) (up f 6) (up (wr IntKind.u8 (f.tdiv (Int.ofNat 6))) 3)
          (up g 5) (capF g i) (firstF i) (Int.ofNat 5) (Int.ofNat 3))
        (up e 4))
      (ofV
        (okOf (up a 12) (up b 2) (up c 4) (up d 4) (up e 4) (up f 6) (up (wr IntKind.u8 (f.tdiv (Int.ofNat 6))) 3)
          (up g 5) (capF g i) (firstF i) (Int.ofNat 5) (Int.ofNat 3))
        (up (wr IntKind.u8 (f.tdiv (Int.ofNat 6))) 3))
      (ofV
        (okOf (up a 12) (up b 2) (up c 4) (up d 4) (up e 4) (up f 6) (up (wr IntKind.u8 (f.tdiv (Int.ofNat 6))) 3)
          (up g 5) (capF g i) (firstF i) (Int.ofNat 5) (Int.ofNat 3))
        (Int.ofNat 5))
      (ofV
        (okOf (up a 12) (up b 2) (up c 4) (up d 4) (up e 4) (up f 6) (up (wr IntKind.u8 (f.tdiv (Int.ofNat 6))) 3)
          (up g 5) (capF g i) (firstF i) (Int.ofNat 5) (Int.ofNat 3))
        (Int.ofNat 3))
      (ofV
        (okOf (up a 12) (up b 2) (up c 4) (up d 4) (up e 4) (up f 6) (up (wr IntKind.u8 (f.tdiv (Int.ofNat 6))) 3)
          (up g 5) (capF g i) (firstF i) (Int.ofNat 5) (Int.ofNat 3))
        (capF g i)))
    (Int.ofNat 0)) = (false)) ∧
               (((!ieq
    (checkF
      (ofV
        (okOf (up a 12) (up b 2) (up c 4) (up d 4) (up e 4) (up f 6) (up (wr IntKind.u8 (f.tdiv (Int.ofNat 6))) 3)
          (up g 5) (capF g i) (firstF i) (Int.ofNat 5) (Int.ofNat 3))
        (up a 12))
      (wr IntKind.i64 ((Int.ofNat 0).sub (wr IntKind.i64 y)))
      (ofV
        (okOf (up a 12) (up b 2) (up c 4) (up d 4) (up e 4) (up f 6) (up (wr IntKind.u8 (f.tdiv (Int.ofNat 6))) 3)
          (up g 5) (capF g i) (firstF i) (Int.ofNat 5) (Int.ofNat 3))
        (up e 4))
      (ofV
        (okOf (up a 12) (up b 2) (up c 4) (up d 4) (up e 4) (up f 6) (up (wr IntKind.u8 (f.tdiv (Int.ofNat 6))) 3)
          (up g 5) (capF g i) (firstF i) (Int.ofNat 5) (Int.ofNat 3))
        (up (wr IntKind.u8 (f.tdiv (Int.ofNat 6))) 3))
      (ofV
        (okOf (up a 12) (up b 2) (up c 4) (up d 4) (up e 4) (up f 6) (up (wr IntKind.u8 (f.tdiv (Int.ofNat 6))) 3)
          (up g 5) (capF g i) (firstF i) (Int.ofNat 5) (Int.ofNat 3))
        (Int.ofNat 5))
      (ofV
        (okOf (up a 12) (up b 2) (up c 4) (up d 4) (up e 4) (up f 6) (up (wr IntKind.u8 (f.tdiv (Int.ofNat 6))) 3)
          (up g 5) (capF g i) (firstF i) (Int.ofNat 5) (Int.ofNat 3))
        (Int.ofNat 3))
      (ofV
        (okOf (up a 12) (up b 2) (up c 4) (up d 4) (up e 4) (up f 6) (up (wr IntKind.u8 (f.tdiv (Int.ofNat 6))) 3)
          (up g 5) (capF g i) (firstF i) (Int.ofNat 5) (Int.ofNat 3))
        (capF g i)))
    (Int.ofNat 2)) = (false)) ∧
                (((!ieq
    (boundF
      (ofV
        (okOf (up a 12) (up b 2) (up c 4) (up d 4) (up e 4) (up f 6) (up (wr IntKind.u8 (f.tdiv (Int.ofNat 6))) 3)
          (up g 5) (capF g i) (firstF i) (Int.ofNat 5) (Int.ofNat 3))
        (up a 12))
      (wr IntKind.i64 ((Int.ofNat 0).sub (wr IntKind.i64 y)))
      (ofV
        (okOf (up a 12) (up b 2) (up c 4) (up d 4) (up e 4) (up f 6) (up (wr IntKind.u8 (f.tdiv (Int.ofNat 6))) 3)
          (up g 5) (capF g i) (firstF i) (Int.ofNat 5) (Int.ofNat 3))
        (up e 4))
      (ofV
        (okOf (up a 12) (up b 2) (up c 4) (up d 4) (up e 4) (up f 6) (up (wr IntKind.u8 (f.tdiv (Int.ofNat 6))) 3)
          (up g 5) (capF g i) (firstF i) (Int.ofNat 5) (Int.ofNat 3))
        (up (wr IntKind.u8 (f.tdiv (Int.ofNat 6))) 3))
      (ofV
        (okOf (up a 12) (up b 2) (up c 4) (up d 4) (up e 4) (up f 6) (up (wr IntKind.u8 (f.tdiv (Int.ofNat 6))) 3)
          (up g 5) (capF g i) (firstF i) (Int.ofNat 5) (Int.ofNat 3))
        (Int.ofNat 5))
      (ofV
        (okOf (up a 12) (up b 2) (up c 4) (up d 4) (up e 4) (up f 6) (up (wr IntKind.u8 (f.tdiv (Int.ofNat 6))) 3)
          (up g 5) (capF g i) (firstF i) (Int.ofNat 5) (Int.ofNat 3))
        (Int.ofNat 3))
      (ofV
        (okOf (up a 12) (up b 2) (up c 4) (up d 4) (up e 4) (up f 6) (up (wr IntKind.u8 (f.tdiv (Int.ofNat 6))) 3)
          (up g 5) (capF g i) (firstF i) (Int.ofNat 5) (Int.ofNat 3))
        (capF g i)))
    (Int.ofNat 0)) = (false)) ∧
                 (((!ieq
    (checkF
      (ofV
        (okOf (up a 12) (up b 2) (up c 4) (up d 4) (up e 4) (up f 6) (up (wr IntKind.u8 (f.tdiv (Int.ofNat 6))) 3)
          (up g 5) (capF g i) (firstF i) (Int.ofNat 5) (Int.ofNat 3))
        (up a 12))
      (wr IntKind.i64 ((Int.ofNat 0).sub (wr IntKind.i64 y)))
      (ofV
        (okOf (up a 12) (up b 2) (up c 4) (up d 4) (up e 4) (up f 6) (up (wr IntKind.u8 (f.tdiv (Int.ofNat 6))) 3)
          (up g 5) (capF g i) (firstF i) (Int.ofNat 5) (Int.ofNat 3))
        (up e 4))
      (ofV
        (okOf (up a 12) (up b 2) (up c 4) (up d 4) (up e 4) (up f 6) (up (wr IntKind.u8 (f.tdiv (Int.ofNat 6))) 3)
          (up g 5) (capF g i) (firstF i) (Int.ofNat 5) (Int.ofNat 3))
        (up (wr IntKind.u8 (f.tdiv (Int.ofNat 6))) 3))
      (ofV
        (okOf (up a 12) (up b 2) (up c 4) (up d 4) (up e 4) (up f 6) (up (wr IntKind.u8 (f.tdiv (Int.ofNat 6))) 3)
          (up g 5) (capF g i) (firstF i) (Int.ofNat 5) (Int.ofNat 3))
        (Int.ofNat 5))
      (ofV
        (okOf (up a 12) (up b 2) (up c 4) (up d 4) (up e 4) (up f 6) (up (wr IntKind.u8 (f.tdiv (Int.ofNat 6))) 3)
          (up g 5) (capF g i) (firstF i) (Int.ofNat 5) (Int.ofNat 3))
        (Int.ofNat 3))
      (ofV
        (okOf (up a 12) (up b 2) (up c 4) (up d 4) (up e 4) (up f 6) (up (wr IntKind.u8 (f.tdiv (Int.ofNat 6))) 3)
          (up g 5) (capF g i) (firstF i) (Int.ofNat 5) (Int.ofNat 3))
        (capF g i)))
    (Int.ofNat 2)) = (false)) ∧
                  (((!ieq
    (checkF
      (ofV
        (okOf (up a 12) (up b 2) (up c 4) (up d 4) (up e 4) (up f 6) (up (wr IntKind.u8 (f.tdiv (Int.ofNat 6))) 3)
          (up g 5) (capF g i) (firstF i) (Int.ofNat 5) (Int.ofNat 3))
        (up a 12))
      (wr IntKind.i64 ((Int.ofNat 0).sub (wr IntKind.i64 y)))
      (ofV
        (okOf (up a 12) (up b 2) (up c 4) (up d 4) (up e 4) (up f 6) (up (wr IntKind.u8 (f.tdiv (Int.ofNat 6))) 3)
          (up g 5) (capF g i) (firstF i) (Int.ofNat 5) (Int.ofNat 3))
        (up e 4))
      (ofV
        (okOf (up a 12) (up b 2) (up c 4) (up d 4) (up e 4) (up f 6) (up (wr IntKind.u8 (f.tdiv (Int.ofNat 6))) 3)
          (up g 5) (capF g i) (firstF i) (Int.ofNat 5) (Int.ofNat 3))
        (up (wr IntKind.u8 (f.tdiv (Int.ofNat 6))) 3))
      (ofV
        (okOf (up a 12) (up b 2) (up c 4) (up d 4) (up e 4) (up f 6) (up (wr IntKind.u8 (f.tdiv (Int.ofNat 6))) 3)
          (up g 5) (capF g i) (firstF i) (Int.ofNat 5) (Int.ofNat 3))
        (Int.ofNat 5))
      (ofV
        (okOf (up a 12) (up b 2) (up c 4) (up d 4) (up e 4) (up f 6) (up (wr IntKind.u8 (f.tdiv (Int.ofNat 6))) 3)
          (up g 5) (capF g i) (firstF i) (Int.ofNat 5) (Int.ofNat 3))
        (Int.ofNat 3))
      (ofV
        (okOf (up a 12) (up b 2) (up c 4) (up d 4) (up e 4) (up f 6) (up (wr IntKind.u8 (f.tdiv (Int.ofNat 6))) 3)
          (up g 5) (capF g i) (firstF i) (Int.ofNat 5) (Int.ofNat 3))
        (capF g i)))
    (Int.ofNat 2)) = (false)) ∧
                   ((((some (V.ptr 1001 0)) = (some (V.ptr 1001 0))) ∧
                     (((some (V.int IntKind.i64 (wr IntKind.i64 y))) = (some (V.int IntKind.i64 y))) ∧
                      (True))) ∧
                    (((271) = (271)) ∧
                     (((true) = (true)) ∧
                      (((1003) = (1003)) ∧
                       (((some
  (O.ro none 4
    [V.int IntKind.u8 (Int.ofNat 0), V.int IntKind.u8 (Int.ofNat 111), V.int IntKind.u8 (Int.ofNat 108),
      V.int IntKind.u8 (Int.ofNat 102)]
    T.leaf)) = (some
  (O.ro none 4
    [V.int IntKind.u8 (Int.ofNat 0), V.int IntKind.u8 (Int.ofNat 111), V.int IntKind.u8 (Int.ofNat 108),
      V.int IntKind.u8 (Int.ofNat 102)]
    T.leaf))) ∧
                        (((true) = (true)) ∧
                         ((some
  [V.int IntKind.i64 (up a 12), V.int IntKind.i64 (up b 2), V.int IntKind.i64 (up c 4), V.int IntKind.i64 (up d 4),
    V.int IntKind.i64 (up e 4), V.int IntKind.i64 (up f 6),
    V.int IntKind.i64 (up (wr IntKind.u8 (f.tdiv (Int.ofNat 6))) 3), V.int IntKind.i64 (up g 5),
    V.int IntKind.i64 (capF g i), V.int IntKind.u32 (firstF i)]) = (some
  [V.int IntKind.i64 (up a 12), V.int IntKind.i64 (up b 2), V.int IntKind.i64 (up c 4), V.int IntKind.i64 (up d 4),
    V.int IntKind.i64 (up e 4), V.int IntKind.i64 (up f 6),
    V.int IntKind.i64 (up (wr IntKind.u8 (f.tdiv (Int.ofNat 6))) 3), V.int IntKind.i64 (up g 5),
    V.int IntKind.i64 (capF g i), V.int IntKind.u32 (firstF i)])))))))))))))) ∧
             (((x.tmod (Int.ofNat 14)) = (Int.ofNat 4)) → ((!ieq
    (markF
      (ofV
        (okOf (up a 12) (up b 2) (up c 4) (up d 4) (up e 4) (up f 6) (up (wr IntKind.u8 (f.tdiv (Int.ofNat 6))) 3)
          (up g 5) (capF g i) (firstF i) (Int.ofNat 5) (Int.ofNat 3))
        (up a 12))
      (ofV
        (okOf (up a 12) (up b 2) (up c 4) (up d 4) (up e 4) (up f 6) (up (wr IntKind.u8 (f.tdiv (Int.ofNat 6))) 3)
          (up g 5) (capF g i) (firstF i) (Int.ofNat 5) (Int.ofNat 3))
        (up b 2))
      (wr IntKind.i64 ((Int.ofNat 65).add (wr IntKind.i64 y)))
      (ofV
        (okOf (up a 12) (up b 2) (up c 4) (up d 4) (up e 4) (up f 6) (up (wr IntKind.u8 (f.tdiv (Int.ofNat 6))) 3)
          (up g 5) (capF g i) (firstF i) (Int.ofNat 5) (Int.ofNat 3))
        (up (wr IntKind.u8 (f.tdiv (Int.ofNat 6))) 3))
      (ofV
        (okOf (up a 12) (up b 2) (up c 4) (up d 4) (up e 4) (up f 6) (up (wr IntKind.u8 (f.tdiv (Int.ofNat 6))) 3)
          (up g 5) (capF g i) (firstF i) (Int.ofNat 5) (Int.ofNat 3))
        (Int.ofNat 5))
      (ofV
        (okOf (up a 12) (up b 2) (up c 4) (up d 4) (up e 4) (up f 6) (up (wr IntKind.u8 (f.tdiv (Int.ofNat 6))) 3)
          (up g 5) (capF g i) (firstF i) (Int.ofNat 5) (Int.ofNat 3))
        (Int.ofNat 3))
      (ofV
        (okOf (up a 12) (up b 2) (up c 4) (up d 4) (up e 4) (up f 6) (up (wr IntKind.u8 (f.tdiv (Int.ofNat 6))) 3)
          (up g 5) (capF g i) (firstF i) (Int.ofNat 5) (Int.ofNat 3))
        (capF g i)))
    (Int.ofNat 0)) = (false)) ∧
              (((!ieq
    (checkF
      (ofV
        (okOf (up a 12) (up b 2) (up c 4) (up d 4) (up e 4) (up f 6) (up (wr IntKind.u8 (f.tdiv (Int.ofNat 6))) 3)
          (up g 5) (capF g i) (firstF i) (Int.ofNat 5) (Int.ofNat 3))
        (up a 12))
      (ofV
        (okOf (up a 12) (up b 2) (up c 4) (up d 4) (up e 4) (up f 6) (up (wr IntKind.u8 (f.tdiv (Int.ofNat 6))) 3)
          (up g 5) (capF g i) (firstF i) (Int.ofNat 5) (Int.ofNat 3))
        (up b 2))
      (wr IntKind.i64 ((Int.ofNat 65).add (wr IntKind.i64 y)))
      (ofV
        (okOf (up a 12) (up b 2) (up c 4) (up d 4) (up e 4) (up f 6) (up (wr IntKind.u8 (f.tdiv (Int.ofNat 6))) 3)
          (up g 5) (capF g i) (firstF i) (Int.ofNat 5) (Int.ofNat 3))
        (up (wr IntKind.u8 (f.tdiv (Int.ofNat 6))) 3))
      (ofV
        (okOf (up a 12) (up b 2) (up c 4) (up d 4) (up e 4) (up f 6) (up (wr IntKind.u8 (f.tdiv (Int.ofNat 6))) 3)
          (up g 5) (capF g i) (firstF i) (Int.ofNat 5) (Int.ofNat 3))
        (Int.ofNat 5))
      (ofV
        (okOf (up a 12) (up b 2) (up c 4) (up d 4) (up e 4) (up f 6) (up (wr IntKind.u8 (f.tdiv (Int.ofNat 6))) 3)
          (up g 5) (capF g i) (firstF i) (Int.ofNat 5) (Int.ofNat 3))
        (Int.ofNat 3))
      (ofV
        (okOf (up a 12) (up b 2) (up c 4) (up d 4) (up e 4) (up f 6) (up (wr IntKind.u8 (f.tdiv (Int.ofNat 6))) 3)
          (up g 5) (capF g i) (firstF i) (Int.ofNat 5) (Int.ofNat 3))
        (capF g i)))
    (Int.ofNat 2)) = (false)) ∧
               (((!ieq
    (boundF
      (ofV
        (okOf (up a 12) (up b 2) (up c 4) (up d 4) (up e 4) (up f 6) (up (wr IntKind.u8 (f.tdiv (Int.ofNat 6))) 3)
          (up g 5) (capF g i) (firstF i) (Int.ofNat 5) (Int.ofNat 3))
        (up a 12))
      (ofV
        (okOf (up a 12) (up b 2) (up c 4) (up d 4) (up e 4) (up f 6) (up (wr IntKind.u8 (f.tdiv (Int.ofNat 6))) 3)
          (up g 5) (capF g i) (firstF i) (Int.ofNat 5) (Int.ofNat 3))
        (up b 2))
      (wr IntKind.i64 ((Int.ofNat 65).add (wr IntKind.i64 y)))
      (ofV
        (okOf (up a 12) (up b 2) (up c 4) (up d 4) (up e 4) (up f 6) (up (wr IntKind.u8 (f.tdiv (Int.ofNat 6))) 3)
          (up g 5) (capF g i) (firstF i) (Int.ofNat 5) (Int.ofNat 3))
        (up (wr IntKind.u8 (f.tdiv (Int.ofNat 6))) 3))
      (ofV
        (okOf (up a 12) (up b 2) (up c 4) (up d 4) (up e 4) (up f 6) (up (wr IntKind.u8 (f.tdiv (Int.ofNat 6))) 3)
          (up g 5) (capF g i) (firstF i) (Int.ofNat 5) (Int.ofNat 3))
        (Int.ofNat 5))
      (ofV
        (okOf (up a 12) (up b 2) (up c 4) (up d 4) (up e 4) (up f 6) (up (wr IntKind.u8 (f.tdiv (Int.ofNat 6))) 3)
          (up g 5) (capF g i) (firstF i) (Int.ofNat 5) (Int.ofNat 3))
        (Int.ofNat 3))
      (ofV
        (okOf (up a 12) (up b 2) (up c 4) (up d 4) (up e 4) (up f 6) (up (wr IntKind.u8 (f.tdiv (Int.ofNat 6))) 3)
          (up g 5) (capF g i) (firstF i) (Int.ofNat 5) (Int.ofNat 3))
        (capF g i)))
    (Int.ofNat 0)) = (false)) ∧
                (((!ieq
    (checkF
      (ofV
        (okOf (up a 12) (up b 2) (up c 4) (up d 4) (up e 4) (up f 6) (up (wr IntKind.u8 (f.tdiv (Int.ofNat 6))) 3)
          (up g 5) (capF g i) (firstF i) (Int.ofNat 5) (Int.ofNat 3))
        (up a 12))
      (ofV
        (okOf (up a 12) (up b 2) (up c 4) (up d 4) (up e 4) (up f 6) (up (wr IntKind.u8 (f.tdiv (Int.ofNat 6))) 3)
          (up g 5) (capF g i) (firstF i) (Int.ofNat 5) (Int.ofNat 3))
        (up b 2))
      (wr IntKind.i64 ((Int.ofNat 65).add (wr IntKind.i64 y)))
      (ofV
        (okOf (up a 12) (up b 2) (up c 4) (up d 4) (up e 4) (up f 6) (up (wr IntKind.u8 (f.tdiv (Int.ofNat 6))) 3)
          (up g 5) (capF g i) (firstF i) (Int.ofNat 5) (Int.ofNat 3))
        (up (wr IntKind.u8 (f.tdiv (Int.ofNat 6))) 3))
      (ofV
        (okOf (up a 12) (up b 2) (up c 4) (up d 4) (up e 4) (up f 6) (up (wr IntKind.u8 (f.tdiv (Int.ofNat 6))) 3)
          (up g 5) (capF g i) (firstF i) (Int.ofNat 5) (Int.ofNat 3))
        (Int.ofNat 5))
      (ofV
        (okOf (up a 12) (up b 2) (up c 4) (up d 4) (up e 4) (up f 6) (up (wr IntKind.u8 (f.tdiv (Int.ofNat 6))) 3)
          (up g 5) (capF g i) (firstF i) (Int.ofNat 5) (Int.ofNat 3))
        (Int.ofNat 3))
      (ofV
        (okOf (up a 12) (up b 2) (up c 4) (up d 4) (up e 4) (up f 6) (up (wr IntKind.u8 (f.tdiv (Int.ofNat 6))) 3)
          (up g 5) (capF g i) (firstF i) (Int.ofNat 5) (Int.ofNat 3))
        (capF g i)))
    (Int.ofNat 2)) = (false)) ∧
                 (((!ieq
    (checkF
      (ofV
        (okOf (up a 12) (up b 2) (up c 4) (up d 4) (up e 4) (up f 6) (up (wr IntKind.u8 (f.tdiv (Int.ofNat 6))) 3)
          (up g 5) (capF g i) (firstF i) (Int.ofNat 5) (Int.ofNat 3))
        (up a 12))
      (ofV
        (okOf (up a 12) (up b 2) (up c 4) (up d 4) (up e 4) (up f 6) (up (wr IntKind.u8 (f.tdiv (Int.ofNat 6))) 3)
          (up g 5) (capF g i) (firstF i) (Int.ofNat 5) (Int.ofNat 3))
        (up b 2))
      (wr IntKind.i64 ((Int.ofNat 65).add (wr IntKind.i64 y)))
      (ofV
        (okOf (up a 12) (up b 2) (up c 4) (up d 4) (up e 4) (up f 6) (up (wr IntKind.u8 (f.tdiv (Int.ofNat 6))) 3)
          (up g 5) (capF g i) (firstF i) (Int.ofNat 5) (Int.ofNat 3))
        (up (wr IntKind.u8 (f.tdiv (Int.ofNat 6))) 3))
      (ofV
        (okOf (up a 12) (up b 2) (up c 4) (up d 4) (up e 4) (up f 6) (up (wr IntKind.u8 (f.tdiv (Int.ofNat 6))) 3)
          (up g 5) (capF g i) (firstF i) (Int.ofNat 5) (Int.ofNat 3))
        (Int.ofNat 5))
      (ofV
        (okOf (up a 12) (up b 2) (up c 4) (up d 4) (up e 4) (up f 6) (up (wr IntKind.u8 (f.tdiv (Int.ofNat 6))) 3)
          (up g 5) (capF g i) (firstF i) (Int.ofNat 5) (Int.ofNat 3))
        (Int.ofNat 3))
      (ofV
        (okOf (up a 12) (up b 2) (up c 4) (up d 4) (up e 4) (up f 6) (up (wr IntKind.u8 (f.tdiv (Int.ofNat 6))) 3)
          (up g 5) (capF g i) (firstF i) (Int.ofNat 5) (Int.ofNat 3))
        (capF g i)))
    (Int.ofNat 2)) = (false)) ∧
                  ((((some (V.ptr 1001 0)) = (some (V.ptr 1001 0))) ∧
                    (((some (V.int IntKind.i64 (wr IntKind.i64 y))) = (some (V.int IntKind.i64 y))) ∧
                     (True))) ∧
                   (((271) = (271)) ∧
                    (((true) = (true)) ∧
                     (((1003) = (1003)) ∧
                      (((some
  (O.ro none 4
    [V.int IntKind.u8 (Int.ofNat 0), V.int IntKind.u8 (Int.ofNat 111), V.int IntKind.u8 (Int.ofNat 108),
      V.int IntKind.u8 (Int.ofNat 102)]
    T.leaf)) = (some
  (O.ro none 4
    [V.int IntKind.u8 (Int.ofNat 0), V.int IntKind.u8 (Int.ofNat 111), V.int IntKind.u8 (Int.ofNat 108),
      V.int IntKind.u8 (Int.ofNat 102)]
    T.leaf))) ∧
                       (((true) = (true)) ∧
                        ((some
  [V.int IntKind.i64 (up a 12), V.int IntKind.i64 (up b 2), V.int IntKind.i64 (up c 4), V.int IntKind.i64 (up d 4),
    V.int IntKind.i64 (up e 4), V.int IntKind.i64 (up f 6),
    V.int IntKind.i64 (up (wr IntKind.u8 (f.tdiv (Int.ofNat 6))) 3), V.int IntKind.i64 (up g 5),
    V.int IntKind.i64 (capF g i), V.int IntKind.u32 (firstF i)]) = (some
  [V.int IntKind.i64 (up a 12), V.int IntKind.i64 (up b 2), V.int IntKind.i64 (up c 4), V.int IntKind.i64 (up d 4),
    V.int IntKind.i64 (up e 4), V.int IntKind.i64 (up f 6),
    V.int IntKind.i64 (up (wr IntKind.u8 (f.tdiv (Int.ofNat 6))) 3), V.int IntKind.i64 (up g 5),
    V.int IntKind.i64 (capF g i), V.int IntKind.u32 (firstF i)])))))))))))))) ∧
            (((x.tmod (Int.ofNat 14)) = (Int.ofNat 5)) → ((!ieq
    (markF
      (ofV
        (okOf (up a 12) (up b 2) (up c 4) (up d 4) (up e 4) (up f 6) (up (wr IntKind.u8 (f.tdiv (Int.ofNat 6))) 3)
          (up g 5) (capF g i) (firstF i) (Int.ofNat 5) (Int.ofNat 3))
        (up a 12))
      (ofV
        (okOf (up a 12) (up b 2) (up c 4) (up d 4) (up e 4) (up f 6) (up (wr IntKind.u8 (f.tdiv (Int.ofNat 6))) 3)
          (up g 5) (capF g i) (firstF i) (Int.ofNat 5) (Int.ofNat 3))
        (up b 2))
      (wr IntKind.i64 ((Int.ofNat 0).sub (wr IntKind.i64 y)))
      (ofV
        (okOf (up a 12) (up b 2) (up c 4) (up d 4) (up e 4) (up f 6) (up (wr IntKind.u8 (f.tdiv (Int.ofNat 6))) 3)
          (up g 5) (capF g i) (firstF i) (Int.ofNat 5) (Int.ofNat 3))
        (up (wr IntKind.u8 (f.tdiv (Int.ofNat 6))) 3))
      (ofV
        (okOf (up a 12) (up b 2) (up c 4) (up d 4) (up e 4) (up f 6) (up (wr IntKind.u8 (f.tdiv (Int.ofNat 6))) 3)
          (up g 5) (capF g i) (firstF i) (Int.ofNat 5) (Int.ofNat 3))
        (Int.ofNat 5))
      (ofV
        (okOf (up a 12) (up b 2) (up c 4) (up d 4) (up e 4) (up f 6) (up (wr IntKind.u8 (f.tdiv (Int.ofNat 6))) 3)
          (up g 5) (capF g i) (firstF i) (Int.ofNat 5) (Int.ofNat 3))
        (Int.ofNat 3))
      (ofV
        (okOf (up a 12) (up b 2) (up c 4) (up d 4) (up e 4) (up f 6) (up (wr IntKind.u8 (f.tdiv (Int.ofNat 6))) 3)
          (up g 5) (capF g i) (firstF i) (Int.ofNat 5) (Int.ofNat 3))
        (capF g i)))
    (Int.ofNat 0)) = (false)) ∧
             (((!ieq
    (checkF
      (ofV
        (okOf (up a 12) (up b 2) (up c 4) (up d 4) (up e 4) (up f 6) (up (wr IntKind.u8 (f.tdiv (Int.ofNat 6))) 3)
          (up g 5) (capF g i) (firstF i) (Int.ofNat 5) (Int.ofNat 3))
        (up a 12))
      (ofV
        (okOf (up a 12) (up b 2) (up c 4) (up d 4) (up e 4) (up f 6) (up (wr IntKind.u8 (f.tdiv (Int.ofNat 6))) 3)
          (up g 5) (capF g i) (firstF i) (Int.ofNat 5) (Int.ofNat 3))
        (up b 2))
      (wr IntKind.i64 ((Int.ofNat 0).sub (wr IntKind.i64 y)))
      (ofV
        (okOf (up a 12) (up b 2) (up c 4) (up d 4) (up e 4) (up f 6) (up (wr IntKind.u8 (f.tdiv (Int.ofNat 6))) 3)
          (up g 5) (capF g i) (firstF i) (Int.ofNat 5) (Int.ofNat 3))
        (up (wr IntKind.u8 (f.tdiv (Int.ofNat 6))) 3))
      (ofV
        (okOf (up a 12) (up b 2) (up c 4) (up d 4) (up e 4) (up f 6) (up (wr IntKind.u8 (f.tdiv (Int.ofNat 6))) 3)
          (up g 5) (capF g i) (firstF i) (Int.ofNat 5) (Int.ofNat 3))
        (Int.ofNat 5))
      (ofV
        (okOf (up a 12) (up b 2) (up c 4) (up d 4) (up e 4) (up f 6) (up (wr IntKind.u8 (f.tdiv (Int.ofNat 6))) 3)
          (up g 5) (capF g i) (firstF i) (Int.ofNat 5) (Int.ofNat 3))
        (Int.ofNat 3))
      (ofV
        (okOf (up a 12) (up b 2) (up c 4) (up d 4) (up e 4) (up f 6) (up (wr IntKind.u8 (f.tdiv (Int.ofNat 6))) 3)
          (up g 5) (capF g i) (firstF i) (Int.ofNat 5) (Int.ofNat 3))
        (capF g i)))
    (Int.ofNat 2)) = (false)) ∧
              (((!ieq
    (boundF
      (ofV
        (okOf (up a 12) (up b 2) (up c 4) (up d 4) (up e 4) (up f 6) (up (wr IntKind.u8 (f.tdiv (Int.ofNat 6))) 3)
          (up g 5) (capF g i) (firstF i) (Int.ofNat 5) (Int.ofNat 3))
        (up a 12))
      (ofV
        (okOf (up a 12) (up b 2) (up c 4) (up d 4) (up e 4) (up f 6) (up (wr IntKind.u8 (f.tdiv (Int.ofNat 6))) 3)
          (up g 5) (capF g i) (firstF i) (Int.ofNat 5) (Int.ofNat 3))
        (up b 2))
      (wr IntKind.i64 ((Int.ofNat 0).sub (wr IntKind.i64 y)))
      (ofV
        (okOf (up a 12) (up b 2) (up c 4) (up d 4) (up e 4) (up f 6) (up (wr IntKind.u8 (f.tdiv (Int.ofNat 6))) 3)
          (up g 5) (capF g i) (firstF i) (Int.ofNat 5) (Int.ofNat 3))
        (up (wr IntKind.u8 (f.tdiv (Int.ofNat 6))) 3))
      (ofV
        (okOf (up a 12) (up b 2) (up c 4) (up d 4) (up e 4) (up f 6) (up (wr IntKind.u8 (f.tdiv (Int.ofNat 6))) 3)
          (up g 5) (capF g i) (firstF i) (Int.ofNat 5) (Int.ofNat 3))
        (Int.ofNat 5))
      (ofV
        (okOf (up a 12) (up b 2) (up c 4) (up d 4) (up e 4) (up f 6) (up (wr IntKind.u8 (f.tdiv (Int.ofNat 6))) 3)
          (up g 5) (capF g i) (firstF i) (Int.ofNat 5) (Int.ofNat 3))
        (Int.ofNat 3))
      (ofV
        (okOf (up a 12) (up b 2) (up c 4) (up d 4) (up e 4) (up f 6) (up (wr IntKind.u8 (f.tdiv (Int.ofNat 6))) 3)
          (up g 5) (capF g i) (firstF i) (Int.ofNat 5) (Int.ofNat 3))
        (capF g i)))
    (Int.ofNat 0)) = (false)) ∧
               (((!ieq
    (checkF
      (ofV
        (okOf (up a 12) (up b 2) (up c 4) (up d 4) (up e 4) (up f 6) (up (wr IntKind.u8 (f.tdiv (Int.ofNat 6))) 3)
          (up g 5) (capF g i) (firstF i) (Int.ofNat 5) (Int.ofNat 3))
        (up a 12))
      (ofV
        (okOf (up a 12) (up b 2) (up c 4) (up d 4) (up e 4) (up f 6) (up (wr IntKind.u8 (f.tdiv (Int.ofNat 6))) 3)
          (up g 5) (capF g i) (firstF i) (Int.ofNat 5) (Int.ofNat 3))
        (up b 2))
      (wr IntKind.i64 ((Int.ofNat 0).sub (wr IntKind.i64 y)))
      (ofV
        (okOf (up a 12) (up b 2) (up c 4) (up d 4) (up e 4) (up f 6) (up (wr IntKind.u8 (f.tdiv (Int.ofNat 6))) 3)
          (up g 5) (capF g i) (firstF i) (Int.ofNat 5) (Int.ofNat 3))
        (up (wr IntKind.u8 (f.tdiv (Int.ofNat 6))) 3))
      (ofV
        (okOf (up a 12) (up b 2) (up c 4) (up d 4) (up e 4) (up f 6) (up (wr IntKind.u8 (f.tdiv (Int.ofNat 6))) 3)
          (up g 5) (capF g i) (firstF i) (Int.ofNat 5) (Int.ofNat 3))
        (Int.ofNat 5))
      (ofV
        (okOf (up a 12) (up b 2) (up c 4) (up d 4) (up e 4) (up f 6) (up (wr IntKind.u8 (f.tdiv (Int.ofNat 6))) 3)
          (up g 5) (capF g i) (firstF i) (Int.ofNat 5) (Int.ofNat 3))
        (Int.ofNat 3))
      (ofV
        (okOf (up a 12) (up b 2) (up c 4) (up d 4) (up e 4) (up f 6) (up (wr IntKind.u8 (f.tdiv (Int.ofNat 6))) 3)
          (up g 5) (capF g i) (firstF i) (Int.ofNat 5) (Int.ofNat 3))
        (capF g i)))
    (Int.ofNat 2)) = (false)) ∧
                (((!ieq
    (checkF
      (ofV
        (okOf (up a 12) (up b 2) (up c 4) (up d 4) (up e 4) (up f 6) (up (wr IntKind.u8 (f.tdiv (Int.ofNat 6))) 3)
          (up g 5) (capF g i) (firstF i) (Int.ofNat 5) (Int.ofNat 3))
        (up a 12))
      (ofV
        (okOf (up a 12) (up b 2) (up c 4) (up d 4) (up e 4) (up f 6) (up (wr IntKind.u8 (f.tdiv (Int.ofNat 6))) 3)
          (up g 5) (capF g i) (firstF i) (Int.ofNat 5) (Int.ofNat 3))
        (up b 2))
      (wr IntKind.i64 ((Int.ofNat 0).sub (wr IntKind.i64 y)))
      (ofV
        (okOf (up a 12) (up b 2) (up c 4) (up d 4) (up e 4) (up f 6) (up (wr IntKind.u8 (f.tdiv (Int.ofNat 6))) 3)
          (up g 5) (capF g i) (firstF i) (Int.ofNat 5) (Int.ofNat 3))
        (up (wr IntKind.u8 (f.tdiv (Int.ofNat 6))) 3))
      (ofV
        (okOf (up a 12) (up b 2) (up c 4) (up d 4) (up e 4) (up f 6) (up (wr IntKind.u8 (f.tdiv (Int.ofNat 6))) 3)
          (up g 5) (capF g i) (firstF i) (Int.ofNat 5) (Int.ofNat 3))
        (Int.ofNat 5))
      (ofV
        (okOf (up a 12) (up b 2) (up c 4) (up d 4) (up e 4) (up f 6) (up (wr IntKind.u8 (f.tdiv (Int.ofNat 6))) 3)
          (up g 5) (capF g i) (firstF i) (Int.ofNat 5) (Int.ofNat 3))
        (Int.ofNat 3))
      (ofV
        (okOf (up a 12) (up b 2) (up c 4) (up d 4) (up e 4) (up f 6) (up (wr IntKind.u8 (f.tdiv (Int.ofNat 6))) 3)
          (up g 5) (capF g i) (firstF i) (Int.ofNat 5) (Int.ofNat 3))
        (capF g i)))
    (Int.ofNat 2)) = (false)) ∧
                 ((((some (V.ptr 1001 0)) = (some (V.ptr 1001 0))) ∧
                   (((some (V.int IntKind.i64 (wr IntKind.i64 y))) = (some (V.int IntKind.i64 y))) ∧
                    (True))) ∧
                  (((271) = (271)) ∧
                   (((true) = (true)) ∧
                    (((1003) = (1003)) ∧
                     (((some
  (O.ro none 4
    [V.int IntKind.u8 (Int.ofNat 0), V.int IntKind.u8 (Int.ofNat 111), V.int IntKind.u8 (Int.ofNat 108),
      V.int IntKind.u8 (Int.ofNat 102)]
    T.leaf)) = (some
  (O.ro none 4
    [V.int IntKind.u8 (Int.ofNat 0), V.int IntKind.u8 (Int.ofNat 111), V.int IntKind.u8 (Int.ofNat 108),
      V.int IntKind.u8 (Int.ofNat 102)]
    T.leaf))) ∧
                      (((true) = (true)) ∧
                       ((some
  [V.int IntKind.i64 (up a 12), V.int IntKind.i64 (up b 2), V.int IntKind.i64 (up c 4), V.int IntKind.i64 (up d 4),
    V.int IntKind.i64 (up e 4), V.int IntKind.i64 (up f 6),
    V.int IntKind.i64 (up (wr IntKind.u8 (f.tdiv (Int.ofNat 6))) 3), V.int IntKind.i64 (up g 5),
    V.int IntKind.i64 (capF g i), V.int IntKind.u32 (firstF i)]) = (some
  [V.int IntKind.i64 (up a 12), V.int IntKind.i64 (up b 2), V.int IntKind.i64 (up c 4), V.int IntKind.i64 (up d 4),
    V.int IntKind.i64 (up e 4), V.int IntKind.i64 (up f 6),
    V.int IntKind.i64 (up (wr IntKind.u8 (f.tdiv (Int.ofNat 6))) 3), V.int IntKind.i64 (up g 5),
    V.int IntKind.i64 (capF g i), V.int IntKind.u32 (firstF i)])))))))))))))) ∧
           (((x.tmod (Int.ofNat 14)) = (Int.ofNat 6)) → ((!ieq
    (markF
      (ofV
        (okOf (up a 12) (up b 2) (up c 4) (up d 4) (up e 4) (up f 6) (up (wr IntKind.u8 (f.tdiv (Int.ofNat 6))) 3)
          (up g 5) (capF g i) (firstF i) (Int.ofNat 5) (Int.ofNat 3))
        (up a 12))
      (ofV
        (okOf (up a 12) (up b 2) (up c 4) (up d 4) (up e 4) (up f 6) (up (wr IntKind.u8 (f.tdiv (Int.ofNat 6))) 3)
          (up g 5) (capF g i) (firstF i) (Int.ofNat 5) (Int.ofNat 3))
        (up b 2))
      (ofV
        (okOf (up a 12) (up b 2) (up c 4) (up d 4) (up e 4) (up f 6) (up (wr IntKind.u8 (f.tdiv (Int.ofNat 6))) 3)
          (up g 5) (capF g i) (firstF i) (Int.ofNat 5) (Int.ofNat 3))
        (up e 4))
      (wr IntKind.i64 ((Int.ofNat 65).add (wr IntKind.i64 y)))
      (ofV
        (okOf (up a 12) (up b 2) (up c 4) (up d 4) (up e 4) (up f 6) (up (wr IntKind.u8 (f.tdiv (Int.ofNat 6))) 3)
          (up g 5) (capF g i) (firstF i) (Int.ofNat 5) (Int.ofNat 3))
        (Int.ofNat 5))
      (ofV
        (okOf (up a 12) (up b 2) (up c 4) (up d 4) (up e 4) (up f 6) (up (wr IntKind.u8 (f.tdiv (Int.ofNat 6))) 3)
          (up g 5) (capF g i) (firstF i) (Int.ofNat 5) (Int.ofNat 3))
        (Int.ofNat 3))
      (ofV
        (okOf (up a 12) (up b 2) (up c 4) (up d 4) (up e 4) (up f 6) (up (wr IntKind.u8 (f.tdiv (Int.ofNat 6))) 3)
          (up g 5) (capF g i) (firstF i) (Int.ofNat 5) (Int.ofNat 3))
        (capF g i)))
    (Int.ofNat 0)) = (false)) ∧
            (((!ieq
    (checkF
      (ofV
        (okOf (up a 12) (up b 2) (up c 4) (up d 4) (up e 4) (up f 6) (up (wr IntKind.u8 (f.tdiv (Int.ofNat 6))) 3)
          (up g 5) (capF g i) (firstF i) (Int.ofNat 5) (Int.ofNat 3))
        (up a 12))
      (ofV
        (okOf (up a 12) (up b 2) (up c 4) (up d 4) (up e 4) (up f 6) (up (wr IntKind.u8 (f.tdiv (Int.ofNat 6))) 3)
          (up g 5) (capF g i) (firstF i) (Int.ofNat 5) (Int.ofNat 3))
        (up b 2))
      (ofV
        (okOf (up a 12) (up b 2) (up c 4) (up d 4) (up e 4) (up f 6) (up (wr IntKind.u8 (f.tdiv (Int.ofNat 6))) 3)
          (up g 5) (capF g i) (firstF i) (Int.ofNat 5) (Int.ofNat 3))
        (up e 4))
      (wr IntKind.i64 ((Int.ofNat 65).add (wr IntKind.i64 y)))
      (ofV
        (okOf (up a 12) (up b 2) (up c 4) (up d 4) (up e 4) (up f 6) (up (wr IntKind.u8 (f.tdiv (Int.ofNat 6))) 3)
          (up g 5) (capF g i) (firstF i) (Int.ofNat 5) (Int.ofNat 3))
        (Int.ofNat 5))
      (ofV
        (okOf (up a 12) (up b 2) (up c 4) (up d 4) (up e 4) (up f 6) (up (wr IntKind.u8 (f.tdiv (Int.ofNat 6))) 3)
          (up g 5) (capF g i) (firstF i) (Int.ofNat 5) (Int.ofNat 3))
        (Int.ofNat 3))
      (ofV
        (okOf (up a 12) (up b 2) (up c 4) (up d 4) (up e 4) (up f 6) (up (wr IntKind.u8 (f.tdiv (Int.ofNat 6))) 3)
          (up g 5) (capF g i) (firstF i) (Int.ofNat 5) (Int.ofNat 3))
        (capF g i)))
    (Int.ofNat 2)) = (false)) ∧
             (((!ieq
    (boundF
      (ofV
        (okOf (up a 12) (up b 2) (up c 4) (up d 4) (up e 4) (up f 6) (up (wr IntKind.u8 (f.tdiv (Int.ofNat 6))) 3)
          (up g 5) (capF g i) (firstF i) (Int.ofNat 5) (Int.ofNat 3))
        (up a 12))
      (ofV
        (okOf (up a 12) (up b 2) (up c 4) (up d 4) (up e 4) (up f 6) (up (wr IntKind.u8 (f.tdiv (Int.ofNat 6))) 3)
          (up g 5) (capF g i) (firstF i) (Int.ofNat 5) (Int.ofNat 3))
        (up b 2))
      (ofV
        (okOf (up a 12) (up b 2) (up c 4) (up d 4) (up e 4) (up f 6) (up (wr IntKind.u8 (f.tdiv (Int.ofNat 6))) 3)
          (up g 5) (capF g i) (firstF i) (Int.ofNat 5) (Int.ofNat 3))
        (up e 4))
      (wr IntKind.i64 ((Int.ofNat 65).add (wr IntKind.i64 y)))
      (ofV
        (okOf (up a 12) (up b 2) (up c 4) (up d 4) (up e 4) (up f 6) (up (wr IntKind.u8 (f.tdiv (Int.ofNat 6))) 3)
          (up g 5) (capF g i) (firstF i) (Int.ofNat 5) (Int.ofNat 3))
        (Int.ofNat 5))
      (ofV
        (okOf (up a 12) (up b 2) (up c 4) (up d 4) (up e 4) (up f 6) (up (wr IntKind.u8 (f.tdiv (Int.ofNat 6))) 3)
          (up g 5) (capF g i) (firstF i) (Int.ofNat 5) (Int.ofNat 3))
        (Int.ofNat 3))
      (ofV
        (okOf (up a 12) (up b 2) (up c 4) (up d 4) (up e 4) (up f 6) (up (wr IntKind.u8 (f.tdiv (Int.ofNat 6))) 3)
          (up g 5) (capF g i) (firstF i) (Int.ofNat 5) (Int.ofNat 3))
        (capF g i)))
    (Int.ofNat 0)) = (false)) ∧
              (((!ieq
    (checkF
      (ofV
        (okOf (up a 12) (up b 2) (up c 4) (up d 4) (up e 4) (up f 6) (up (wr IntKind.u8 (f.tdiv (Int.ofNat 6))) 3)
          (up g 5) (capF g i) (firstF i) (Int.ofNat 5) (Int.ofNat 3))
        (up a 12))
      (ofV
        (okOf (up a 12) (up b 2) (up c 4) (up d 4) (up e 4) (up f 6) (up (wr IntKind.u8 (f.tdiv (Int.ofNat 6))) 3)
          (up g 5) (capF g i) (firstF i) (Int.ofNat 5) (Int.ofNat 3))
        (up b 2))
      (ofV
        (okOf (up a 12) (up b 2) (up c 4) (up d 4) (up e 4) (up f 6) (up (wr IntKind.u8 (f.tdiv (Int.ofNat 6))) 3)
          (up g 5) (capF g i) (firstF i) (Int.ofNat 5) (Int.ofNat 3))
        (up e 4))
      (wr IntKind.i64 ((Int.ofNat 65).add (wr IntKind.i64 y)))
      (ofV
        (okOf (up a 12) (up b 2) (up c 4) (up d 4) (up e 4) (up f 6) (up (wr IntKind.u8 (f.tdiv (Int.ofNat 6))) 3)
          (up g 5) (capF g i) (firstF i) (Int.ofNat 5) (Int.ofNat 3))
        (Int.ofNat 5))
      (ofV
        (okOf (up a 12) (up b 2) (up c 4) (up d 4) (up e 4) (up f 6) (up (wr IntKind.u8 (f.tdiv (Int.ofNat 6))) 3)
          (up g 5) (capF g i) (firstF i) (Int.ofNat 5) (Int.ofNat 3))
        (Int.ofNat 3))
      (ofV
        (okOf (up a 12) (up b 2) (up c 4) (up d 4) (up e 4) (up f 6) (up (wr IntKind.u8 (f.tdiv (Int.ofNat 6))) 3)
          (up g 5) (capF g i) (firstF i) (Int.ofNat 5) (Int.ofNat 3))
        (capF g i)))
    (Int.ofNat 2)) = (false)) ∧
               (((!ieq
    (checkF
      (ofV
        (okOf (up a 12) (up b 2) (up c 4) (up d 4) (up e 4) (up f 6) (up (wr IntKind.u8 (f.tdiv (Int.ofNat 6))) 3)
          (up g 5) (capF g i) (firstF i) (Int.ofNat 5) (Int.ofNat 3))
        (up a 12))
      (ofV
        (okOf (up a 12) (up b 2) (up c 4) (up d 4) (up e 4) (up f 6) (up (wr IntKind.u8 (f.tdiv (Int.ofNat 6))) 3)
          (up g 5) (capF g i) (firstF i) (Int.ofNat 5) (Int.ofNat 3))
        (up b 2))
      (ofV
        (okOf (up a 12) (up b 2) (up c 4) (up d 4) (up e 4) (up f 6) (up (wr IntKind.u8 (f.tdiv (Int.ofNat 6))) 3)
          (up g 5) (capF g i) (firstF i) (Int.ofNat 5) (Int.ofNat 3))
        (up e 4))
      (wr IntKind.i64 ((Int.ofNat 65).add (wr IntKind.i64 y)))
      (ofV
        (okOf (up a 12) (up b 2) (up c 4) (up d 4) (up e 4) (up f 6) (up (wr IntKind.u8 (f.tdiv (Int.ofNat 6))) 3)
          (up g 5) (capF g i) (firstF i) (Int.ofNat 5) (Int.ofNat 3))
        (Int.ofNat 5))
      (ofV
        (okOf (up a 12) (up b 2) (up c 4) (up d 4) (up e 4) (up f 6) (up (wr IntKind.u8 (f.tdiv (Int.ofNat 6))) 3)
          (up g 5) (capF g i) (firstF i) (Int.ofNat 5) (Int.ofNat 3))
        (Int.ofNat 3))
      (ofV
        (okOf (up a 12) (up b 2) (up c 4) (up d 4) (up e 4) (up f 6) (up (wr IntKind.u8 (f.tdiv (Int.ofNat 6))) 3)
          (up g 5) (capF g i) (firstF i) (Int.ofNat 5) (Int.ofNat 3))
        (capF g i)))
    (Int.ofNat 2)) = (false)) ∧
                ((((some (V.ptr 1001 0)) = (some (V.ptr 1001 0))) ∧
                  (((some (V.int IntKind.i64 (wr IntKind.i64 y))) = (some (V.int IntKind.i64 y))) ∧
                   (True))) ∧
                 (((271) = (271)) ∧
                  (((true) = (true)) ∧
                   (((1003) = (1003)) ∧
                    (((some
  (O.ro none 4
    [V.int IntKind.u8 (Int.ofNat 0), V.int IntKind.u8 (Int.ofNat 111), V.int IntKind.u8 (Int.ofNat 108),
      V.int IntKind.u8 (Int.ofNat 102)]
    T.leaf)) = (some
  (O.ro none 4
    [V.int IntKind.u8 (Int.ofNat 0), V.int IntKind.u8 (Int.ofNat 111), V.int IntKind.u8 (Int.ofNat 108),
      V.int IntKind.u8 (Int.ofNat 102)]
    T.leaf))) ∧
                     (((true) = (true)) ∧
                      ((some
  [V.int IntKind.i64 (up a 12), V.int IntKind.i64 (up b 2), V.int IntKind.i64 (up c 4), V.int IntKind.i64 (up d 4),
    V.int IntKind.i64 (up e 4), V.int IntKind.i64 (up f 6),
    V.int IntKind.i64 (up (wr IntKind.u8 (f.tdiv (Int.ofNat 6))) 3), V.int IntKind.i64 (up g 5),
    V.int IntKind.i64 (capF g i), V.int IntKind.u32 (firstF i)]) = (some
  [V.int IntKind.i64 (up a 12), V.int IntKind.i64 (up b 2), V.int IntKind.i64 (up c 4), V.int IntKind.i64 (up d 4),
    V.int IntKind.i64 (up e 4), V.int IntKind.i64 (up f 6),
    V.int IntKind.i64 (up (wr IntKind.u8 (f.tdiv (Int.ofNat 6))) 3), V.int IntKind.i64 (up g 5),
    V.int IntKind.i64 (capF g i), V.int IntKind.u32 (firstF i)])))))))))))))) ∧
          (((x.tmod (Int.ofNat 14)) = (Int.ofNat 7)) → ((!ieq
    (markF
      (ofV
        (okOf (up a 12) (up b 2) (up c 4) (up d 4) (up e 4) (up f 6) (up (wr IntKind.u8 (f.tdiv (Int.ofNat 6))) 3)
          (up g 5) (capF g i) (firstF i) (Int.ofNat 5) (Int.ofNat 3))
        (up a 12))
      (ofV
        (okOf (up a 12) (up b 2) (up c 4) (up d 4) (up e 4) (up f 6) (up (wr IntKind.u8 (f.tdiv (Int.ofNat 6))) 3)
          (up g 5) (capF g i) (firstF i) (Int.ofNat 5) (Int.ofNat 3))
        (up b 2))
      (ofV
        (okOf (up a 12) (up b 2) (up c 4) (up d 4) (up e 4) (up f 6) (up (wr IntKind.u8 (f.tdiv (Int.ofNat 6))) 3)
          (up g 5) (capF g i) (firstF i) (Int.ofNat 5) (Int.ofNat 3))
        (up e 4))
      (wr IntKind.i64 ((Int.ofNat 0).sub (wr IntKind.i64 y)))
      (ofV
        (okOf (up a 12) (up b 2) (up c 4) (up d 4) (up e 4) (up f 6) (up (wr IntKind.u8 (f.tdiv (Int.ofNat 6))) 3)
          (up g 5) (capF g i) (firstF i) (Int.ofNat 5) (Int.ofNat 3))
        (Int.ofNat 5))
      (ofV
        (okOf (up a 12) (up b 2) (up c 4) (up d 4) (up e 4) (up f 6) (up (wr IntKind.u8 (f.tdiv (Int.ofNat 6))) 3)
          (up g 5) (capF g i) (firstF i) (Int.ofNat 5) (Int.ofNat 3))
        (Int.ofNat 3))
      (ofV
        (okOf (up a 12) (up b 2) (up c 4) (up d 4) (up e 4) (up f 6) (up (wr IntKind.u8 (f.tdiv (Int.ofNat 6))) 3)
          (up g 5) (capF g i) (firstF i) (Int.ofNat 5) (Int.ofNat 3))
        (capF g i)))
    (Int.ofNat 0)) = (false)) ∧
           (((!ieq
    (checkF
      (ofV
        (okOf (up a 12) (up b 2) (up c 4) (up d 4) (up e 4) (up f 6) (up (wr IntKind.u8 (f.tdiv (Int.ofNat 6))) 3)
          (up g 5) (capF g i) (firstF i) (Int.ofNat 5) (Int.ofNat 3))
        (up a 12))
      (ofV
        (okOf (up a 12) (up b 2) (up c 4) (up d 4) (up e 4) (up f 6) (up (wr IntKind.u8 (f.tdiv (Int.ofNat 6))) 3)
          (up g 5) (capF g i) (firstF i) (Int.ofNat 5) (Int.ofNat 3))
        (up b 2))
      (ofV
        (okOf (up a 12) (up b 2) (up c 4) (up d 4) (up e 4) (up f 6) (up (wr IntKind.u8 (f.tdiv (Int.ofNat 6))) 3)
          (up g 5) (capF g i) (firstF i) (Int.ofNat 5) (Int.ofNat 3))
        (up e 4))
      (wr IntKind.i64 ((Int.ofNat 0).sub (wr IntKind.i64 y)))
      (ofV
        (okOf (up a 12) (up b 2) (up c 4) (up d 4) (up e 4) (up f 6) (up (wr IntKind.u8 (f.tdiv (Int.ofNat 6))) 3)
          (up g 5) (capF g i) (firstF i) (Int.ofNat 5) (Int.ofNat 3))
        (Int.ofNat 5))
      (ofV
        (okOf (up a 12) (up b 2) (up c 4) (up d 4) (up e 4) (up f 6) (up (wr IntKind.u8 (f.tdiv (Int.ofNat 6))) 3)
          (up g 5) (capF g i) (firstF i) (Int.ofNat 5) (Int.ofNat 3))
        (Int.ofNat 3))
      (ofV
        (okOf (up a 12) (up b 2) (up c 4) (up d 4) (up e 4) (up f 6) (up (wr IntKind.u8 (f.tdiv (Int.ofNat 6))) 3)
          (up g 5) (capF g i) (firstF i) (Int.ofNat 5) (Int.ofNat 3))
        (capF g i)))
    (Int.ofNat 2)) = (false)) ∧
            (((!ieq
    (boundF
      (ofV
        (okOf (up a 12) (up b 2) (up c 4) (up d 4) (up e 4) (up f 6) (up (wr IntKind.u8 (f.tdiv (Int.ofNat 6))) 3)
          (up g 5) (capF g i) (firstF i) (Int.ofNat 5) (Int.ofNat 3))
        (up a 12))
      (ofV
        (okOf (up a 12) (up b 2) (up c 4) (up d 4) (up e 4) (up f 6) (up (wr IntKind.u8 (f.tdiv (Int.ofNat 6))) 3)
          (up g 5) (capF g i) (firstF i) (Int.ofNat 5) (Int.ofNat 3))
        (up b 2))
      (ofV
        (okOf (up a 12) (up b 2) (up c 4) (up d 4) (up e 4) (up f 6) (up (wr IntKind.u8 (f.tdiv (Int.ofNat 6))) 3)
          (up g 5) (capF g i) (firstF i) (Int.ofNat 5) (Int.ofNat 3))
        (up e 4))
      (wr IntKind.i64 ((Int.ofNat 0).sub (wr IntKind.i64 y)))
      (ofV
        (okOf (up a 12) (up b 2) (up c 4) (up d 4) (up e 4) (up f 6) (up (wr IntKind.u8 (f.tdiv (Int.ofNat 6))) 3)
          (up g 5) (capF g i) (firstF i) (Int.ofNat 5) (Int.ofNat 3))
        (Int.ofNat 5))
      (ofV
        (okOf (up a 12) (up b 2) (up c 4) (up d 4) (up e 4) (up f 6) (up (wr IntKind.u8 (f.tdiv (Int.ofNat 6))) 3)
          (up g 5) (capF g i) (firstF i) (Int.ofNat 5) (Int.ofNat 3))
        (Int.ofNat 3))
      (ofV
        (okOf (up a 12) (up b 2) (up c 4) (up d 4) (up e 4) (up f 6) (up (wr IntKind.u8 (f.tdiv (Int.ofNat 6))) 3)
          (up g 5) (capF g i) (firstF i) (Int.ofNat 5) (Int.ofNat 3))
        (capF g i)))
    (Int.ofNat 0)) = (false)) ∧
             (((!ieq
    (checkF
      (ofV
        (okOf (up a 12) (up b 2) (up c 4) (up d 4) (up e 4) (up f 6) (up (wr IntKind.u8 (f.tdiv (Int.ofNat 6))) 3)
          (up g 5) (capF g i) (firstF i) (Int.ofNat 5) (Int.ofNat 3))
        (up a 12))
      (ofV
        (okOf (up a 12) (up b 2) (up c 4) (up d 4) (up e 4) (up f 6) (up (wr IntKind.u8 (f.tdiv (Int.ofNat 6))) 3)
          (up g 5) (capF g i) (firstF i) (Int.ofNat 5) (Int.ofNat 3))
        (up b 2))
      (ofV
        (okOf (up a 12) (up b 2) (up c 4) (up d 4) (up e 4) (up f 6) (up (wr IntKind.u8 (f.tdiv (Int.ofNat 6))) 3)
          (up g 5) (capF g i) (firstF i) (Int.ofNat 5) (Int.ofNat 3))
        (up e 4))
      (wr IntKind.i64 ((Int.ofNat 0).sub (wr IntKind.i64 y)))
      (ofV
        (okOf (up a 12) (up b 2) (up c 4) (up d 4) (up e 4) (up f 6) (up (wr IntKind.u8 (f.tdiv (Int.ofNat 6))) 3)
          (up g 5) (capF g i) (firstF i) (Int.ofNat 5) (Int.ofNat 3))
        (Int.ofNat 5))
      (ofV
        (okOf (up a 12) (up b 2) (up c 4) (up d 4) (up e 4) (up f 6) (up (wr IntKind.u8 (f.tdiv (Int.ofNat 6))) 3)
          (up g 5) (capF g i) (firstF i) (Int.ofNat 5) (Int.ofNat 3))
        (Int.ofNat 3))
      (ofV
        (okOf (up a 12) (up b 2) (up c 4) (up d 4) (up e 4) (up f 6) (up (wr IntKind.u8 (f.tdiv (Int.ofNat 6))) 3)
          (up g 5) (capF g i) (firstF i) (Int.ofNat 5) (Int.ofNat 3))
        (capF g i)))
    (Int.ofNat 2)) = (false)) ∧
              (((!ieq
    (checkF
      (ofV
        (okOf (up a 12) (up b 2) (up c 4) (up d 4) (up e 4) (up f 6) (up (wr IntKind.u8 (f.tdiv (Int.ofNat 6))) 3)
          (up g 5) (capF g i) (firstF i) (Int.ofNat 5) (Int.ofNat 3))
        (up a 12))
      (ofV
        (okOf (up a 12) (up b 2) (up c 4) (up d 4) (up e 4) (up f 6) (up (wr IntKind.u8 (f.tdiv (Int.ofNat 6))) 3)
          (up g 5) (capF g i) (firstF i) (Int.ofNat 5) (Int.ofNat 3))
        (up b 2))
      (ofV
        (okOf (up a 12) (up b 2) (up c 4) (up d 4) (up e 4) (up f 6) (up (wr IntKind.u8 (f.tdiv (Int.ofNat 6))) 3)
          (up g 5) (capF g i) (firstF i) (Int.ofNat 5) (Int.ofNat 3))
        (up e 4))
      (wr IntKind.i64 ((Int.ofNat 0).sub (wr IntKind.i64 y)))
      (ofV
        (okOf (up a 12) (up b 2) (up c 4) (up d 4) (up e 4) (up f 6) (up (wr IntKind.u8 (f.tdiv (Int.ofNat 6))) 3)
          (up g 5) (capF g i) (firstF i) (Int.ofNat 5) (Int.ofNat 3))
        (Int.ofNat 5))
      (ofV
        (okOf (up a 12) (up b 2) (up c 4) (up d 4) (up e 4) (up f 6) (up (wr IntKind.u8 (f.tdiv (Int.ofNat 6))) 3)
          (up g 5) (capF g i) (firstF i) (Int.ofNat 5) (Int.ofNat 3))
        (Int.ofNat 3))
      (ofV
        (okOf (up a 12) (up b 2) (up c 4) (up d 4) (up e 4) (up f 6) (up (wr IntKind.u8 (f.tdiv (Int.ofNat 6))) 3)
          (up g 5) (capF g i) (firstF i) (Int.ofNat 5) (Int.ofNat 3))
        (capF g i)))
    (Int.ofNat 2)) = (false)) ∧
               ((((some (V.ptr 1001 0)) = (some (V.ptr 1001 0))) ∧
                 (((some (V.int IntKind.i64 (wr IntKind.i64 y))) = (some (V.int IntKind.i64 y))) ∧
                  (True))) ∧
                (((271) = (271)) ∧
                 (((true) = (true)) ∧
                  (((1003) = (1003)) ∧
                   (((some
  (O.ro none 4
    [V.int IntKind.u8 (Int.ofNat 0), V.int IntKind.u8 (Int.ofNat 111), V.int IntKind.u8 (Int.ofNat 108),
      V.int IntKind.u8 (Int.ofNat 102)]
    T.leaf)) = (some
  (O.ro none 4
    [V.int IntKind.u8 (Int.ofNat 0), V.int IntKind.u8 (Int.ofNat 111), V.int IntKind.u8 (Int.ofNat 108),
      V.int IntKind.u8 (Int.ofNat 102)]
    T.leaf))) ∧
                    (((true) = (true)) ∧
                     ((some
  [V.int IntKind.i64 (up a 12), V.int IntKind.i64 (up b 2), V.int IntKind.i64 (up c 4), V.int IntKind.i64 (up d 4),
    V.int IntKind.i64 (up e 4), V.int IntKind.i64 (up f 6),
    V.int IntKind.i64 (up (wr IntKind.u8 (f.tdiv (Int.ofNat 6))) 3), V.int IntKind.i64 (up g 5),
    V.int IntKind.i64 (capF g i), V.int IntKind.u32 (firstF i)]) = (some
  [V.int IntKind.i64 (up a 12), V.int IntKind.i64 (up b 2), V.int IntKind.i64 (up c 4), V.int IntKind.i64 (up d 4),
    V.int IntKind.i64 (up e 4), V.int IntKind.i64 (up f 6),
    V.int IntKind.i64 (up (wr IntKind.u8 (f.tdiv (Int.ofNat 6))) 3), V.int IntKind.i64 (up g 5),
    V.int IntKind.i64 (capF g i), V.int IntKind.u32 (firstF i)])))))))))))))) ∧
         (((x.tmod (Int.ofNat 14)) = (Int.ofNat 8)) → ((!ieq
    (markF
      (ofV
        (okOf (up a 12) (up b 2) (up c 4) (up d 4) (up e 4) (up f 6) (up (wr IntKind.u8 (f.tdiv (Int.ofNat 6))) 3)
          (up g 5) (capF g i) (firstF i) (Int.ofNat 5) (Int.ofNat 3))
        (up a 12))
      (ofV
        (okOf (up a 12) (up b 2) (up c 4) (up d 4) (up e 4) (up f 6) (up (wr IntKind.u8 (f.tdiv (Int.ofNat 6))) 3)
          (up g 5) (capF g i) (firstF i) (Int.ofNat 5) (Int.ofNat 3))
        (up b 2))
      (ofV
        (okOf (up a 12) (up b 2) (up c 4) (up d 4) (up e 4) (up f 6) (up (wr IntKind.u8 (f.tdiv (Int.ofNat 6))) 3)
          (up g 5) (capF g i) (firstF i) (Int.ofNat 5) (Int.ofNat 3))
        (up e 4))
      (ofV
        (okOf (up a 12) (up b 2) (up c 4) (up d 4) (up e 4) (up f 6) (up (wr IntKind.u8 (f.tdiv (Int.ofNat 6))) 3)
          (up g 5) (capF g i) (firstF i) (Int.ofNat 5) (Int.ofNat 3))
        (up (wr IntKind.u8 (f.tdiv (Int.ofNat 6))) 3))
      (wr IntKind.i64 ((Int.ofNat 2001).add (wr IntKind.i64 y)))
      (ofV
        (okOf (up a 12) (up b 2) (up c 4) (up d 4) (up e 4) (up f 6) (up (wr IntKind.u8 (f.tdiv (Int.ofNat 6))) 3)
          (up g 5) (capF g i) (firstF i) (Int.ofNat 5) (Int.ofNat 3))
        (Int.ofNat 3))
      (ofV
        (okOf (up a 12) (up b 2) (up c 4) (up d 4) (up e 4) (up f 6) (up (wr IntKind.u8 (f.tdiv (Int.ofNat 6))) 3)
          (up g 5) (capF g i) (firstF i) (Int.ofNat 5) (Int.ofNat 3))
        (capF g i)))
    (Int.ofNat 0)) = (false)) ∧
          (((!ieq
    (checkF
      (ofV
        (okOf (up a 12) (up b 2) (up c 4) (up d 4) (up e 4) (up f 6) (up (wr IntKind.u8 (f.tdiv (Int.ofNat 6))) 3)
          (up g 5) (capF g i) (firstF i) (Int.ofNat 5) (Int.ofNat 3))
        (up a 12))
      (ofV
        (okOf (up a 12) (up b 2) (up c 4) (up d 4) (up e 4) (up f 6) (up (wr IntKind.u8 (f.tdiv (Int.ofNat 6))) 3)
          (up g 5) (capF g i) (firstF i) (Int.ofNat 5) (Int.ofNat 3))
        (up b 2))
      (ofV
        (okOf (up a 12) (up b 2) (up c 4) (up d 4) (up e 4) (up f 6) (up (wr IntKind.u8 (f.tdiv (Int.ofNat 6))) 3)
          (up g 5) (capF g i) (firstF i) (Int.ofNat 5) (Int.ofNat 3))
        (up e 4))
      (ofV
        (okOf (up a 12) (up b 2) (up c 4) (up d 4) (up e 4) (up f 6) (up (wr IntKind.u8 (f.tdiv (Int.ofNat 6))) 3)
          (up g 5) (capF g i) (firstF i) (Int.ofNat 5) (Int.ofNat 3))
        (up (wr IntKind.u8 (f.tdiv (Int.ofNat 6))) 3))
      (wr IntKind.i64 ((Int.ofNat 2001).add (wr IntKind.i64 y)))
      (ofV
        (okOf (up a 12) (up b 2) (up c 4) (up d 4) (up e 4) (up f 6) (up (wr IntKind.u8 (f.tdiv (Int.ofNat 6))) 3)
          (up g 5) (capF g i) (firstF i) (Int.ofNat 5) (Int.ofNat 3))
        (Int.ofNat 3))
      (ofV
        (okOf (up a 12) (up b 2) (up c 4) (up d 4) (up e 4) (up f 6) (up (wr IntKind.u8 (f.tdiv (Int.ofNat 6))) 3)
          (up g 5) (capF g i) (firstF i) (Int.ofNat 5) (Int.ofNat 3))
        (capF g i)))
    (Int.ofNat 2)) = (false)) ∧
           (((!ieq
    (boundF
      (ofV
        (okOf (up a 12) (up b 2) (up c 4) (up d 4) (up e 4) (up f 6) (up (wr IntKind.u8 (f.tdiv (Int.ofNat 6))) 3)
          (up g 5) (capF g i) (firstF i) (Int.ofNat 5) (Int.ofNat 3))
        (up a 12))
      (ofV
        (okOf (up a 12) (up b 2) (up c 4) (up d 4) (up e 4) (up f 6) (up (wr IntKind.u8 (f.tdiv (Int.ofNat 6))) 3)
          (up g 5) (capF g i) (firstF i) (Int.ofNat 5) (Int.ofNat 3))
        (up b 2))
      (ofV
        (okOf (up a 12) (up b 2) (up c 4) (up d 4) (up e 4) (up f 6) (up (wr IntKind.u8 (f.tdiv (Int.ofNat 6))) 3)
          (up g 5) (capF g i) (firstF i) (Int.ofNat 5) (Int.ofNat 3))
        (up e 4))
      (ofV
        (okOf (up a 12) (up b 2) (up c 4) (up d 4) (up e 4) (up f 6) (up (wr IntKind.u8 (f.tdiv (Int.ofNat 6))) 3)
          (up g 5) (capF g i) (firstF i) (Int.ofNat 5) (Int.ofNat 3))
        (up (wr IntKind.u8 (f.tdiv (Int.ofNat 6))) 3))
      (wr IntKind.i64 ((Int.ofNat 2001).add (wr IntKind.i64 y)))
      (ofV
        (okOf (up a 12) (up b 2) (up c 4) (up d 4) (up e 4) (up f 6) (up (wr IntKind.u8 (f.tdiv (Int.ofNat 6))) 3)
          (up g 5) (capF g i) (firstF i) (Int.ofNat 5) (Int.ofNat 3))
        (Int.ofNat 3))
      (ofV
        (okOf (up a 12) (up b 2) (up c 4) (up d 4) (up e 4) (up f 6) (up (wr IntKind.u8 (f.tdiv (Int.ofNat 6))) 3)
          (up g 5) (capF g i) (firstF i) (Int.ofNat 5) (Int.ofNat 3))
        (capF g i)))
    (Int.ofNat 0)) = (false)) ∧
            (((!ieq
    (checkF
      (ofV
        (okOf (up a 12) (up b 2) (up c 4) (up d 4) (up e 4) (up f 6) (up (wr IntKind.u8 (f.tdiv (Int.ofNat 6))) 3)
          (up g 5) (capF g i) (firstF i) (Int.ofNat 5) (Int.ofNat 3))
        (up a 12))
      (ofV
        (okOf (up a 12) (up b 2) (up c 4) (up d 4) (up e 4) (up f 6) (up (wr IntKind.u8 (f.tdiv (Int.ofNat 6))) 3)
          (up g 5) (capF g i) (firstF i) (Int.ofNat 5) (Int.ofNat 3))
        (up b 2))
      (ofV
        (okOf (up a 12) (up b 2) (up c 4) (up d 4) (up e 4) (up f 6) (up (wr IntKind.u8 (f.tdiv (Int.ofNat 6))) 3)
          (up g 5) (capF g i) (firstF i) (Int.ofNat 5) (Int.ofNat 3))
        (up e 4))
      (ofV
        (okOf (up a 12) (up b 2) (up c 4) (up d 4) (up e 4) (up f 6) (up (wr IntKind.u8 (f.tdiv (Int.ofNat 6))) 3)
          (up g 5) (capF g i) (firstF i) (Int.ofNat 5) (Int.ofNat 3))
        (up (wr IntKind.u8 (f.tdiv (Int.ofNat 6))) 3))
      (wr IntKind.i64 ((Int.ofNat 2001).add (wr IntKind.i64 y)))
      (ofV
        (okOf (up a 12) (up b 2) (up c 4) (up d 4) (up e 4) (up f 6) (up (wr IntKind.u8 (f.tdiv (Int.ofNat 6))) 3)
          (up g 5) (capF g i) (firstF i) (Int.ofNat 5) (Int.ofNat 3))
        (Int.ofNat 3))
      (ofV
        (okOf (up a 12) (up b 2) (up c 4) (up d 4) (up e 4) (up f 6) (up (wr IntKind.u8 (f.tdiv (Int.ofNat 6))) 3)
          (up g 5) (capF g i) (firstF i) (Int.ofNat 5) (Int.ofNat 3))
        (capF g i)))
    (Int.ofNat 2)) = (false)) ∧
             (((!ieq
    (checkF
      (ofV
        (okOf (up a 12) (up b 2) (up c 4) (up d 4) (up e 4) (up f 6) (up (wr IntKind.u8 (f.tdiv (Int.ofNat 6))) 3)
          (up g 5) (capF g i) (firstF i) (Int.ofNat 5) (Int.ofNat 3))
        (up a 12))
      (ofV
        (okOf (up a 12) (up b 2) (up c 4) (up d 4) (up e 4) (up f 6) (up (wr IntKind.u8 (f.tdiv (Int.ofNat 6))) 3)
          (up g 5) (capF g i) (firstF i) (Int.ofNat 5) (Int.ofNat 3))
        (up b 2))
      (ofV
        (okOf (up a 12) (up b 2) (up c 4) (up d 4) (up e 4) (up f 6) (up (wr IntKind.u8 (f.tdiv (Int.ofNat 6))) 3)
          (up g 5) (capF g i) (firstF i) (Int.ofNat 5) (Int.ofNat 3))
        (up e 4))
      (ofV
        (okOf (up a 12) (up b 2) (up c 4) (up d 4) (up e 4) (up f 6) (up (wr IntKind.u8 (f.tdiv (Int.ofNat 6))) 3)
          (up g 5) (capF g i) (firstF i) (Int.ofNat 5) (Int.ofNat 3))
        (up (wr IntKind.u8 (f.tdiv (Int.ofNat 6))) 3))
      (wr IntKind.i64 ((Int.ofNat 2001).add (wr IntKind.i64 y)))
      (ofV
        (okOf (up a 12) (up b 2) (up c 4) (up d 4) (up e 4) (up f 6) (up (wr IntKind.u8 (f.tdiv (Int.ofNat 6))) 3)
          (up g 5) (capF g i) (firstF i) (Int.ofNat 5) (Int.ofNat 3))
        (Int.ofNat 3))
      (ofV
        (okOf (up a 12) (up b 2) (up c 4) (up d 4) (up e 4) (up f 6) (up (wr IntKind.u8 (f.tdiv (Int.ofNat 6))) 3)
          (up g 5) (capF g i) (firstF i) (Int.ofNat 5) (Int.ofNat 3))
        (capF g i)))
    (Int.ofNat 2)) = (false)) ∧
              ((((some (V.ptr 1001 0)) = (some (V.ptr 1001 0))) ∧
                (((some (V.int IntKind.i64 (wr IntKind.i64 y))) = (some (V.int IntKind.i64 y))) ∧
                 (True))) ∧
               (((271) = (271)) ∧
                (((true) = (true)) ∧
                 (((1003) = (1003)) ∧
                  (((some
  (O.ro none 4
    [V.int IntKind.u8 (Int.ofNat 0), V.int IntKind.u8 (Int.ofNat 111), V.int IntKind.u8 (Int.ofNat 108),
      V.int IntKind.u8 (Int.ofNat 102)]
    T.leaf)) = (some
  (O.ro none 4
    [V.int IntKind.u8 (Int.ofNat 0), V.int IntKind.u8 (Int.ofNat 111), V.int IntKind.u8 (Int.ofNat 108),
      V.int IntKind.u8 (Int.ofNat 102)]
    T.leaf))) ∧
                   (((true) = (true)) ∧
                    ((some
  [V.int IntKind.i64 (up a 12), V.int IntKind.i64 (up b 2), V.int IntKind.i64 (up c 4), V.int IntKind.i64 (up d 4),
    V.int IntKind.i64 (up e 4), V.int IntKind.i64 (up f 6),
    V.int IntKind.i64 (up (wr IntKind.u8 (f.tdiv (Int.ofNat 6))) 3), V.int IntKind.i64 (up g 5),
    V.int IntKind.i64 (capF g i), V.int IntKind.u32 (firstF i)]) = (some
  [V.int IntKind.i64 (up a 12), V.int IntKind.i64 (up b 2), V.int IntKind.i64 (up c 4), V.int IntKind.i64 (up d 4),
    V.int IntKind.i64 (up e 4), V.int IntKind.i64 (up f 6),
    V.int IntKind.i64 (up (wr IntKind.u8 (f.tdiv (Int.ofNat 6))) 3), V.int IntKind.i64 (up g 5),
    V.int IntKind.i64 (capF g i), V.int IntKind.u32 (firstF i)])))))))))))))) ∧
        (((x.tmod (Int.ofNat 14)) = (Int.ofNat 9)) → ((!ieq
    (markF
      (ofV
        (okOf (up a 12) (up b 2) (up c 4) (up d 4) (up e 4) (up f 6) (up (wr IntKind.u8 (f.tdiv (Int.ofNat 6))) 3)
          (up g 5) (capF g i) (firstF i) (Int.ofNat 5) (Int.ofNat 3))
        (up a 12))
      (ofV
        (okOf (up a 12) (up b 2) (up c 4) (up d 4) (up e 4) (up f 6) (up (wr IntKind.u8 (f.tdiv (Int.ofNat 6))) 3)
          (up g 5) (capF g i) (firstF i) (Int.ofNat 5) (Int.ofNat 3))
        (up b 2))
      (ofV
        (okOf (up a 12) (up b 2) (up c 4) (up d 4) (up e 4) (up f 6) (up (wr IntKind.u8 (f.tdiv (Int.ofNat 6))) 3)
          (up g 5) (capF g i) (firstF i) (Int.ofNat 5) (Int.ofNat 3))
        (up e 4))
      (ofV
        (okOf (up a 12) (up b 2) (up c 4) (up d 4) (up e 4) (up f 6) (up (wr IntKind.u8 (f.tdiv (Int.ofNat 6))) 3)
          (up g 5) (capF g i) (firstF i) (Int.ofNat 5) (Int.ofNat 3))
        (up (wr IntKind.u8 (f.tdiv (Int.ofNat 6))) 3))
      (wr IntKind.i64 ((Int.ofNat 0).sub (wr IntKind.i64 y)))
      (ofV
        (okOf (up a 12) (up b 2) (up c 4) (up d 4) (up e 4) (up f 6) (up (wr IntKind.u8 (f.tdiv (Int.ofNat 6))) 3)
          (up g 5) (capF g i) (firstF i) (Int.ofNat 5) (Int.ofNat 3))
        (Int.ofNat 3))
      (ofV
        (okOf (up a 12) (up b 2) (up c 4) (up d 4) (up e 4) (up f 6) (up (wr IntKind.u8 (f.tdiv (Int.ofNat 6))) 3)
          (up g 5) (capF g i) (firstF i) (Int.ofNat 5) (Int.ofNat 3))
        (capF g i)))
    (Int.ofNat 0)) = (false)) ∧
         (((!ieq
    (checkF
      (ofV
        (okOf (up a 12) (up b 2) (up c 4) (up d 4) (up e 4) (up f 6) (up (wr IntKind.u8 (f.tdiv (Int.ofNat 6))) 3)
          (up g 5) (capF g i) (firstF i) (Int.ofNat 5) (Int.ofNat 3))
        (up a 12))
      (ofV
        (okOf (up a 12) (up b 2) (up c 4) (up d 4) (up e 4) (up f 6) (up (wr IntKind.u8 (f.tdiv (Int.ofNat 6))) 3)
          (up g 5) (capF g i) (firstF i) (Int.ofNat 5) (Int.ofNat 3))
        (up b 2))
      (ofV
        (okOf (up a 12) (up b 2) (up c 4) (up d 4) (up e 4) (up f 6) (up (wr IntKind.u8 (f.tdiv (Int.ofNat 6))) 3)
          (up g 5) (capF g i) (firstF i) (Int.ofNat 5) (Int.ofNat 3))
        (up e 4))
      (ofV
        (okOf (up a 12) (up b 2) (up c 4) (up d 4) (up e 4) (up f 6) (up (wr IntKind.u8 (f.tdiv (Int.ofNat 6))) 3)
          (up g 5) (capF g i) (firstF i) (Int.ofNat 5) (Int.ofNat 3))
        (up (wr IntKind.u8 (f.tdiv (Int.ofNat 6))) 3))
      (wr IntKind.i64 ((Int.ofNat 0).sub (wr IntKind.i64 y)))
      (ofV
        (okOf (up a 12) (up b 2) (up c 4) (up d 4) (up e 4) (up f 6) (up (wr IntKind.u8 (f.tdiv (Int.ofNat 6))) 3)
          (up g 5) (capF g i) (firstF i) (Int.ofNat 5) (Int.ofNat 3))
        (Int.ofNat 3))
      (ofV
        (okOf (up a 12) (up b 2) (up c 4) (up d 4) (up e 4) (up f 6) (up (wr IntKind.u8 (f.tdiv (Int.ofNat 6))) 3)
          (up g 5) (capF g i) (firstF i) (Int.ofNat 5) (Int.ofNat 3))
        (capF g i)))
    (Int.ofNat 2)) = (false)) ∧
          (((!ieq
    (boundF
      (ofV
        (okOf (up a 12) (up b 2) (up c 4) (up d 4) (up e 4) (up f 6) (up (wr IntKind.u8 (f.tdiv (Int.ofNat 6))) 3)
          (up g 5) (capF g i) (firstF i) (Int.ofNat 5) (Int.ofNat 3))
        (up a 12))
      (ofV
        (okOf (up a 12) (up b 2) (up c 4) (up d 4) (up e 4) (up f 6) (up (wr IntKind.u8 (f.tdiv (Int.ofNat 6))) 3)
          (up g 5) (capF g i) (firstF i) (Int.ofNat 5) (Int.ofNat 3))
        (up b 2))
      (ofV
        (okOf (up a 12) (up b 2) (up c 4) (up d 4) (up e 4) (up f 6) (up (wr IntKind.u8 (f.tdiv (Int.ofNat 6))) 3)
          (up g 5) (capF g i) (firstF i) (Int.ofNat 5) (Int.ofNat 3))
        (up e 4))
      (ofV
        (okOf (up a 12) (up b 2) (up c 4) (up d 4) (up e 4) (up f 6) (up (wr IntKind.u8 (f.tdiv (Int.ofNat 6))) 3)
          (up g 5) (capF g i) (firstF i) (Int.ofNat 5) (Int.ofNat 3))
        (up (wr IntKind.u8 (f.tdiv (Int.ofNat 6))) 3))
      (wr IntKind.i64 ((Int.ofNat 0).sub (wr IntKind.i64 y)))
      (ofV
        (okOf (up a 12) (up b 2) (up c 4) (up d 4) (up e 4) (up f 6) (up (wr IntKind.u8 (f.tdiv (Int.ofNat 6))) 3)
          (up g 5) (capF g i) (firstF i) (Int.ofNat 5) (Int.ofNat 3))
        (Int.ofNat 3))
      (ofV
        (okOf (up a 12) (up b 2) (up c 4) (up d 4) (up e 4) (up f 6) (up (wr IntKind.u8 (f.tdiv (Int.ofNat 6))) 3)
          (up g 5) (capF g i) (firstF i) (Int.ofNat 5) (Int.ofNat 3))
        (capF g i)))
    (Int.ofNat 0)) = (false)) ∧
           (((!ieq
    (checkF
      (ofV
        (okOf (up a 12) (up b 2) (up c 4) (up d 4) (up e 4) (up f 6) (up (wr IntKind.u8 (f.tdiv (Int.ofNat 6))) 3)
          (up g 5) (capF g i) (firstF i) (Int.ofNat 5) (Int.ofNat 3))
        (up a 12))
      (ofV
        (okOf (up a 12) (up b 2) (up c 4) (up d 4) (up e 4) (up f 6) (up (wr IntKind.u8 (f.tdiv (Int.ofNat 6))) 3)
          (up g 5) (capF g i) (firstF i) (Int.ofNat 5) (Int.ofNat 3))
        (up b 2))
      (ofV
        (okOf (up a 12) (up b 2) (up c 4) (up d 4) (up e 4) (up f 6) (up (wr IntKind.u8 (f.tdiv (Int.ofNat 6))) 3)
          (up g 5) (capF g i) (firstF i) (Int.ofNat 5) (Int.ofNat 3))
        (up e 4))
      (ofV
        (okOf (up a 12) (up b 2) (up c 4) (up d 4) (up e 4) (up f 6) (up (wr IntKind.u8 (f.tdiv (Int.ofNat 6))) 3)
          (up g 5) (capF g i) (firstF i) (Int.ofNat 5) (Int.ofNat 3))
        (up (wr IntKind.u8 (f.tdiv (Int.ofNat 6))) 3))
      (wr IntKind.i64 ((Int.ofNat 0).sub (wr IntKind.i64 y)))
      (ofV
        (okOf (up a 12) (up b 2) (up c 4) (up d 4) (up e 4) (up f 6) (up (wr IntKind.u8 (f.tdiv (Int.ofNat 6))) 3)
          (up g 5) (capF g i) (firstF i) (Int.ofNat 5) (Int.ofNat 3))
        (Int.ofNat 3))
      (ofV
        (okOf (up a 12) (up b 2) (up c 4) (up d 4) (up e 4) (up f 6) (up (wr IntKind.u8 (f.tdiv (Int.ofNat 6))) 3)
          (up g 5) (capF g i) (firstF i) (Int.ofNat 5) (Int.ofNat 3))
        (capF g i)))
    (Int.ofNat 2)) = (false)) ∧
            (((!ieq
    (checkF
      (ofV
        (okOf (up a 12) (up b 2) (up c 4) (up d 4) (up e 4) (up f 6) (up (wr IntKind.u8 (f.tdiv (Int.ofNat 6))) 3)
          (up g 5) (capF g i) (firstF i) (Int.ofNat 5) (Int.ofNat 3))
        (up a 12))
      (ofV
        (okOf (up a 12) (up b 2) (up c 4) (up d 4) (up e 4) (up f 6) (up (wr IntKind.u8 (f.tdiv (Int.ofNat 6))) 3)
          (up g 5) (capF g i) (firstF i) (Int.ofNat 5) (Int.ofNat 3))
        (up b 2))
      (ofV
        (okOf (up a 12) (up b 2) (up c 4) (up d 4) (up e 4) (up f 6) (up (wr IntKind.u8 (f.tdiv (Int.ofNat 6))) 3)
          (up g 5) (capF g i) (firstF i) (Int.ofNat 5) (Int.ofNat 3))
        (up e 4))
      (ofV
        (okOf (up a 12) (up b 2) (up c 4) (up d 4) (up e 4) (up f 6) (up (wr IntKind.u8 (f.tdiv (Int.ofNat 6))) 3)
          (up g 5) (capF g i) (firstF i) (Int.ofNat 5) (Int.ofNat 3))
        (up (wr IntKind.u8 (f.tdiv (Int.ofNat 6))) 3))
      (wr IntKind.i64 ((Int.ofNat 0).sub (wr IntKind.i64 y)))
      (ofV
        (okOf (up a 12) (up b 2) (up c 4) (up d 4) (up e 4) (up f 6) (up (wr IntKind.u8 (f.tdiv (Int.ofNat 6))) 3)
          (up g 5) (capF g i) (firstF i) (Int.ofNat 5) (Int.ofNat 3))
        (Int.ofNat 3))
      (ofV
        (okOf (up a 12) (up b 2) (up c 4) (up d 4) (up e 4) (up f 6) (up (wr IntKind.u8 (f.tdiv (Int.ofNat 6))) 3)
          (up g 5) (capF g i) (firstF i) (Int.ofNat 5) (Int.ofNat 3))
        (capF g i)))
    (Int.ofNat 2)) = (false)) ∧
             ((((some (V.ptr 1001 0)) = (some (V.ptr 1001 0))) ∧
               (((some (V.int IntKind.i64 (wr IntKind.i64 y))) = (some (V.int IntKind.i64 y))) ∧
                (True))) ∧
              (((271) = (271)) ∧
               (((true) = (true)) ∧
                (((1003) = (1003)) ∧
                 (((some
  (O.ro none 4
    [V.int IntKind.u8 (Int.ofNat 0), V.int IntKind.u8 (Int.ofNat 111), V.int IntKind.u8 (Int.ofNat 108),
      V.int IntKind.u8 (Int.ofNat 102)]
    T.leaf)) = (some
  (O.ro none 4
    [V.int IntKind.u8 (Int.ofNat 0), V.int IntKind.u8 (Int.ofNat 111), V.int IntKind.u8 (Int.ofNat 108),
      V.int IntKind.u8 (Int.ofNat 102)]
    T.leaf))) ∧
                  (((true) = (true)) ∧
                   ((some
  [V.int IntKind.i64 (up a 12), V.int IntKind.i64 (up b 2), V.int IntKind.i64 (up c 4), V.int IntKind.i64 (up d 4),
    V.int IntKind.i64 (up e 4), V.int IntKind.i64 (up f 6),
    V.int IntKind.i64 (up (wr IntKind.u8 (f.tdiv (Int.ofNat 6))) 3), V.int IntKind.i64 (up g 5),
    V.int IntKind.i64 (capF g i), V.int IntKind.u32 (firstF i)]) = (some
  [V.int IntKind.i64 (up a 12), V.int IntKind.i64 (up b 2), V.int IntKind.i64 (up c 4), V.int IntKind.i64 (up d 4),
    V.int IntKind.i64 (up e 4), V.int IntKind.i64 (up f 6),
    V.int IntKind.i64 (up (wr IntKind.u8 (f.tdiv (Int.ofNat 6))) 3), V.int IntKind.i64 (up g 5),
    V.int IntKind.i64 (capF g i), V.int IntKind.u32 (firstF i)])))))))))))))) ∧
       (((x.tmod (Int.ofNat 14)) = (Int.ofNat 10)) → ((!ieq
    (markF
      (ofV
        (okOf (up a 12) (up b 2) (up c 4) (up d 4) (up e 4) (up f 6) (up (wr IntKind.u8 (f.tdiv (Int.ofNat 6))) 3)
          (up g 5) (capF g i) (firstF i) (Int.ofNat 5) (Int.ofNat 3))
        (up a 12))
      (ofV
        (okOf (up a 12) (up b 2) (up c 4) (up d 4) (up e 4) (up f 6) (up (wr IntKind.u8 (f.tdiv (Int.ofNat 6))) 3)
          (up g 5) (capF g i) (firstF i) (Int.ofNat 5) (Int.ofNat 3))
        (up b 2))
      (ofV
        (okOf (up a 12) (up b 2) (up c 4) (up d 4) (up e 4) (up f 6) (up (wr IntKind.u8 (f.tdiv (Int.ofNat 6))) 3)
          (up g 5) (capF g i) (firstF i) (Int.ofNat 5) (Int.ofNat 3))
        (up e 4))
      (ofV
        (okOf (up a 12) (up b 2) (up c 4) (up d 4) (up e 4) (up f 6) (up (wr IntKind.u8 (f.tdiv (Int.ofNat 6))) 3)
          (up g 5) (capF g i) (firstF i) (Int.ofNat 5) (Int.ofNat 3))
        (up (wr IntKind.u8 (f.tdiv (Int.ofNat 6))) 3))
      (ofV
        (okOf (up a 12) (up b 2) (up c 4) (up d 4) (up e 4) (up f 6) (up (wr IntKind.u8 (f.tdiv (Int.ofNat 6))) 3)
          (up g 5) (capF g i) (firstF i) (Int.ofNat 5) (Int.ofNat 3))
        (Int.ofNat 5))
      (wr IntKind.i64 ((Int.ofNat 2001).add (wr IntKind.i64 y)))
      (ofV
        (okOf (up a 12) (up b 2) (up c 4) (up d 4) (up e 4) (up f 6) (up (wr IntKind.u8 (f.tdiv (Int.ofNat 6))) 3)
          (up g 5) (capF g i) (firstF i) (Int.ofNat 5) (Int.ofNat 3))
        (capF g i)))
    (Int.ofNat 0)) = (false)) ∧
        (((!ieq
    (checkF
      (ofV
        (okOf (up a 12) (up b 2) (up c 4) (up d 4) (up e 4) (up f 6) (up (wr IntKind.u8 (f.tdiv (Int.ofNat 6))) 3)
          (up g 5) (capF g i) (firstF i) (Int.ofNat 5) (Int.ofNat 3))
        (up a 12))
      (ofV
        (okOf (up a 12) (up b 2) (up c 4) (up d 4) (up e 4) (up f 6) (up (wr IntKind.u8 (f.tdiv (Int.ofNat 6))) 3)
          (up g 5) (capF g i) (firstF i) (Int.ofNat 5) (Int.ofNat 3))
        (up b 2))
      (ofV
        (okOf (up a 12) (up b 2) (up c 4) (up d 4) (up e 4) (up f 6) (up (wr IntKind.u8 (f.tdiv (Int.ofNat 6))) 3)
          (up g 5) (capF g i) (firstF i) (Int.ofNat 5) (Int.ofNat 3))
        (up e 4))
      (ofV
        (okOf (up a 12) (up b 2) (up c 4) (up d 4) (up e 4) (up f 6) (up (wr IntKind.u8 (f.tdiv (Int.ofNat 6))) 3)
          (up g 5) (capF g i) (firstF i) (Int.ofNat 5) (Int.ofNat 3))
        (up (wr IntKind.u8 (f.tdiv (Int.ofNat 6))) 3))
      (ofV
        (okOf (up a 12) (up b 2) (up c 4) (up d 4) (up e 4) (up f 6) (up (wr IntKind.u8 (f.tdiv (Int.ofNat 6))) 3)
          (up g 5) (capF g i) (firstF i) (Int.ofNat 5) (Int.ofNat 3))
        (Int.ofNat 5))
      (wr IntKind.i64 ((Int.ofNat 2001).add (wr IntKind.i64 y)))
      (ofV
        (okOf (up a 12) (up b 2) (up c 4) (up d 4) (up e 4) (up f 6) (up (wr IntKind.u8 (f.tdiv (Int.ofNat 6))) 3)
          (up g 5) (capF g i) (firstF i) (Int.ofNat 5) (Int.ofNat 3))
        (capF g i)))
    (Int.ofNat 2)) = (false)) ∧
         (((!ieq
    (boundF
      (ofV
        (okOf (up a 12) (up b 2) (up c 4) (up d 4) (up e 4) (up f 6) (up (wr IntKind.u8 (f.tdiv (Int.ofNat 6))) 3)
          (up g 5) (capF g i) (firstF i) (Int.ofNat 5) (Int.ofNat 3))
        (up a 12))
      (ofV
        (okOf (up a 12) (up b 2) (up c 4) (up d 4) (up e 4) (up f 6) (up (wr IntKind.u8 (f.tdiv (Int.ofNat 6))) 3)
          (up g 5) (capF g i) (firstF i) (Int.ofNat 5) (Int.ofNat 3))
        (up b 2))
      (ofV
        (okOf (up a 12) (up b 2) (up c 4) (up d 4) (up e 4) (up f 6) (up (wr IntKind.u8 (f.tdiv (Int.ofNat 6))) 3)
          (up g 5) (capF g i) (firstF i) (Int.ofNat 5) (Int.ofNat 3))
        (up e 4))
      (ofV
        (okOf (up a 12) (up b 2) (up c 4) (up d 4) (up e 4) (up f 6) (up (wr IntKind.u8 (f.tdiv (Int.ofNat 6))) 3)
          (up g 5) (capF g i) (firstF i) (Int.ofNat 5) (Int.ofNat 3))
        (up (wr IntKind.u8 (f.tdiv (Int.ofNat 6))) 3))
      (ofV
        (okOf (up a 12) (up b 2) (up c 4) (up d 4) (up e 4) (up f 6) (up (wr IntKind.u8 (f.tdiv (Int.ofNat 6))) 3)
          (up g 5) (capF g i) (firstF i) (Int.ofNat 5) (Int.ofNat 3))
        (Int.ofNat 5))
      (wr IntKind.i64 ((Int.ofNat 2001).add (wr IntKind.i64 y)))
      (ofV
        (okOf (up a 12) (up b 2) (up c 4) (up d 4) (up e 4) (up f 6) (up (wr IntKind.u8 (f.tdiv (Int.ofNat 6))) 3)
          (up g 5) (capF g i) (firstF i) (Int.ofNat 5) (Int.ofNat 3))
        (capF g i)))
    (Int.ofNat 0)) = (false)) ∧
          (((!ieq
    (checkF
      (ofV
        (okOf (up a 12) (up b 2) (up c 4) (up d 4) (up e 4) (up f 6) (up (wr IntKind.u8 (f.tdiv (Int.ofNat 6))) 3)
          (up g 5) (capF g i) (firstF i) (Int.ofNat 5) (Int.ofNat 3))
        (up a 12))
      (ofV
        (okOf (up a 12) (up b 2) (up c 4) (up d 4) (up e 4) (up f 6) (up (wr IntKind.u8 (f.tdiv (Int.ofNat 6))) 3)
          (up g 5) (capF g i) (firstF i) (Int.ofNat 5) (Int.ofNat 3))
        (up b 2))
      (ofV
        (okOf (up a 12) (up b 2) (up c 4) (up d 4) (up e 4) (up f 6) (up (wr IntKind.u8 (f.tdiv (Int.ofNat 6))) 3)
          (up g 5) (capF g i) (firstF i) (Int.ofNat 5) (Int.ofNat 3))
        (up e 4))
      (ofV
        (okOf (up a 12) (up b 2) (up c 4) (up d 4) (up e 4) (up f 6) (up (wr IntKind.u8 (f.tdiv (Int.ofNat 6))) 3)
          (up g 5) (capF g i) (firstF i) (Int.ofNat 5) (Int.ofNat 3))
        (up (wr IntKind.u8 (f.tdiv (Int.ofNat 6))) 3))
      (ofV
        (okOf (up a 12) (up b 2) (up c 4) (up d 4) (up e 4) (up f 6) (up (wr IntKind.u8 (f.tdiv (Int.ofNat 6))) 3)
          (up g 5) (capF g i) (firstF i) (Int.ofNat 5) (Int.ofNat 3))
        (Int.ofNat 5))
      (wr IntKind.i64 ((Int.ofNat 2001).add (wr IntKind.i64 y)))
      (ofV
        (okOf (up a 12) (up b 2) (up c 4) (up d 4) (up e 4) (up f 6) (up (wr IntKind.u8 (f.tdiv (Int.ofNat 6))) 3)
          (up g 5) (capF g i) (firstF i) (Int.ofNat 5) (Int.ofNat 3))
        (capF g i)))
    (Int.ofNat 2)) = (false)) ∧
           (((!ieq
    (checkF
      (ofV
        (okOf (up a 12) (up b 2) (up c 4) (up d 4) (up e 4) (up f 6) (up (wr IntKind.u8 (f.tdiv (Int.ofNat 6))) 3)
          (up g 5) (capF g i) (firstF i) (Int.ofNat 5) (Int.ofNat 3))
        (up a 12))
      (ofV
        (okOf (up a 12) (up b 2) (up c 4) (up d 4) (up e 4) (up f 6) (up (wr IntKind.u8 (f.tdiv (Int.ofNat 6))) 3)
          (up g 5) (capF g i) (firstF i) (Int.ofNat 5) (Int.ofNat 3))
        (up b 2))
      (ofV
        (okOf (up a 12) (up b 2) (up c 4) (up d 4) (up e 4) (up f 6) (up (wr IntKind.u8 (f.tdiv (Int.ofNat 6))) 3)
          (up g 5) (capF g i) (firstF i) (Int.ofNat 5) (Int.ofNat 3))
        (up e 4))
      (ofV
        (okOf (up a 12) (up b 2) (up c 4) (up d 4) (up e 4) (up f 6) (up (wr IntKind.u8 (f.tdiv (Int.ofNat 6))) 3)
          (up g 5) (capF g i) (firstF i) (Int.ofNat 5) (Int.ofNat 3))
        (up (wr IntKind.u8 (f.tdiv (Int.ofNat 6))) 3))
      (ofV
        (okOf (up a 12) (up b 2) (up c 4) (up d 4) (up e 4) (up f 6) (up (wr IntKind.u8 (f.tdiv (Int.ofNat 6))) 3)
          (up g 5) (capF g i) (firstF i) (Int.ofNat 5) (Int.ofNat 3))
        (Int.ofNat 5))
      (wr IntKind.i64 ((Int.ofNat 2001).add (wr IntKind.i64 y)))
      (ofV
        (okOf (up a 12) (up b 2) (up c 4) (up d 4) (up e 4) (up f 6) (up (wr IntKind.u8 (f.tdiv (Int.ofNat 6))) 3)
          (up g 5) (capF g i) (firstF i) (Int.ofNat 5) (Int.ofNat 3))
        (capF g i)))
    (Int.ofNat 2)) = (false)) ∧
            ((((some (V.ptr 1001 0)) = (some (V.ptr 1001 0))) ∧
              (((some (V.int IntKind.i64 (wr IntKind.i64 y))) = (some (V.int IntKind.i64 y))) ∧
               (True))) ∧
             (((271) = (271)) ∧
              (((true) = (true)) ∧
               (((1003) = (1003)) ∧
                (((some
  (O.ro none 4
    [V.int IntKind.u8 (Int.ofNat 0), V.int IntKind.u8 (Int.ofNat 111), V.int IntKind.u8 (Int.ofNat 108),
      V.int IntKind.u8 (Int.ofNat 102)]
    T.leaf)) = (some
  (O.ro none 4
    [V.int IntKind.u8 (Int.ofNat 0), V.int IntKind.u8 (Int.ofNat 111), V.int IntKind.u8 (Int.ofNat 108),
      V.int IntKind.u8 (Int.ofNat 102)]
    T.leaf))) ∧
                 (((true) = (true)) ∧
                  ((some
  [V.int IntKind.i64 (up a 12), V.int IntKind.i64 (up b 2), V.int IntKind.i64 (up c 4), V.int IntKind.i64 (up d 4),
    V.int IntKind.i64 (up e 4), V.int IntKind.i64 (up f 6),
    V.int IntKind.i64 (up (wr IntKind.u8 (f.tdiv (Int.ofNat 6))) 3), V.int IntKind.i64 (up g 5),
    V.int IntKind.i64 (capF g i), V.int IntKind.u32 (firstF i)]) = (some
  [V.int IntKind.i64 (up a 12), V.int IntKind.i64 (up b 2), V.int IntKind.i64 (up c 4), V.int IntKind.i64 (up d 4),
    V.int IntKind.i64 (up e 4), V.int IntKind.i64 (up f 6),
    V.int IntKind.i64 (up (wr IntKind.u8 (f.tdiv (Int.ofNat 6))) 3), V.int IntKind.i64 (up g 5),
    V.int IntKind.i64 (capF g i), V.int IntKind.u32 (firstF i)])))))))))))))) ∧
      (((x.tmod (Int.ofNat 14)) = (Int.ofNat 11)) → ((!ieq
    (markF
      (ofV
        (okOf (up a 12) (up b 2) (up c 4) (up d 4) (up e 4) (up f 6) (up (wr IntKind.u8 (f.tdiv (Int.ofNat 6))) 3)
          (up g 5) (capF g i) (firstF i) (Int.ofNat 5) (Int.ofNat 3))
        (up a 12))
      (ofV
        (okOf (up a 12) (up b 2) (up c 4) (up d 4) (up e 4) (up f 6) (up (wr IntKind.u8 (f.tdiv (Int.ofNat 6))) 3)
          (up g 5) (capF g i) (firstF i) (Int.ofNat 5) (Int.ofNat 3))
        (up b 2))
      (ofV
        (okOf (up a 12) (up b 2) (up c 4) (up d 4) (up e 4) (up f 6) (up (wr IntKind.u8 (f.tdiv (Int.ofNat 6))) 3)
          (up g 5) (capF g i) (firstF i) (Int.ofNat 5) (Int.ofNat 3))
        (up e 4))
      (ofV
        (okOf (up a 12) (up b 2) (up c 4) (up d 4) (up e 4) (up f 6) (up (wr IntKind.u8 (f.tdiv (Int.ofNat 6))) 3)
          (up g 5) (capF g i) (firstF i) (Int.ofNat 5) (Int.ofNat 3))
        (up (wr IntKind.u8 (f.tdiv (Int.ofNat 6))) 3))
      (ofV
        (okOf (up a 12) (up b 2) (up c 4) (up d 4) (up e 4) (up f 6) (up (wr IntKind.u8 (f.tdiv (Int.ofNat 6))) 3)
          (up g 5) (capF g i) (firstF i) (Int.ofNat 5) (Int.ofNat 3))
        (Int.ofNat 5))
      (wr IntKind.i64 ((Int.negSucc 0).sub (wr IntKind.i64 y)))
      (ofV
        (okOf (up a 12) (up b 2) (up c 4) (up d 4) (up e 4) (up f 6) (up (wr IntKind.u8 (f.tdiv (Int.ofNat 6))) 3)
          (up g 5) (capF g i) (firstF i) (Int.ofNat 5) (Int.ofNat 3))
        (capF g i)))
    (Int.ofNat 0)) = (false)) ∧
       (((!ieq
    (checkF
      (ofV
        (okOf (up a 12) (up b 2) (up c 4) (up d 4) (up e 4) (up f 6) (up (wr IntKind.u8 (f.tdiv (Int.ofNat 6))) 3)
          (up g 5) (capF g i) (firstF i) (Int.ofNat 5) (Int.ofNat 3))
        (up a 12))
      (ofV
        (okOf (up a 12) (up b 2) (up c 4) (up d 4) (up e 4) (up f 6) (up (wr IntKind.u8 (f.tdiv (Int.ofNat 6))) 3)
          (up g 5) (capF g i) (firstF i) (Int.ofNat 5) (Int.ofNat 3))
        (up b 2))
      (ofV
        (okOf (up a 12) (up b 2) (up c 4) (up d 4) (up e 4) (up f 6) (up (wr IntKind.u8 (f.tdiv (Int.ofNat 6))) 3)
          (up g 5) (capF g i) (firstF i) (Int.ofNat 5) (Int.ofNat 3))
        (up e 4))
      (ofV
        (okOf (up a 12) (up b 2) (up c 4) (up d 4) (up e 4) (up f 6) (up (wr IntKind.u8 (f.tdiv (Int.ofNat 6))) 3)
          (up g 5) (capF g i) (firstF i) (Int.ofNat 5) (Int.ofNat 3))
        (up (wr IntKind.u8 (f.tdiv (Int.ofNat 6))) 3))
      (ofV
        (okOf (up a 12) (up b 2) (up c 4) (up d 4) (up e 4) (up f 6) (up (wr IntKind.u8 (f.tdiv (Int.ofNat 6))) 3)
          (up g 5) (capF g i) (firstF i) (Int.ofNat 5) (Int.ofNat 3))
        (Int.ofNat 5))
      (wr IntKind.i64 ((Int.negSucc 0).sub (wr IntKind.i64 y)))
      (ofV
        (okOf (up a 12) (up b 2) (up c 4) (up d 4) (up e 4) (up f 6) (up (wr IntKind.u8 (f.tdiv (Int.ofNat 6))) 3)
          (up g 5) (capF g i) (firstF i) (Int.ofNat 5) (Int.ofNat 3))
        (capF g i)))
    (Int.ofNat 2)) = (false)) ∧
        (((!ieq
    (boundF
      (ofV
        (okOf (up a 12) (up b 2) (up c 4) (up d 4) (up e 4) (up f 6) (up (wr IntKind.u8 (f.tdiv (Int.ofNat 6))) 3)
          (up g 5) (capF g i) (firstF i) (Int.ofNat 5) (Int.ofNat 3))
        (up a 12))
      (ofV
        (okOf (up a 12) (up b 2) (up c 4) (up d 4) (up e 4) (up f 6) (up (wr IntKind.u8 (f.tdiv (Int.ofNat 6))) 3)
          (up g 5) (capF g i) (firstF i) (Int.ofNat 5) (Int.ofNat 3))
        (up b 2))
      (ofV
        (okOf (up a 12) (up b 2) (up c 4) (up d 4) (up e 4) (up f 6) (up (wr IntKind.u8 (f.tdiv (Int.ofNat 6))) 3)
          (up g 5) (capF g i) (firstF i) (Int.ofNat 5) (Int.ofNat 3))
        (up e 4))
      (ofV
        (okOf (up a 12) (up b 2) (up c 4) (up d 4) (up e 4) (up f 6) (up (wr IntKind.u8 (f.tdiv (Int.ofNat 6))) 3)
          (up g 5) (capF g i) (firstF i) (Int.ofNat 5) (Int.ofNat 3))
        (up (wr IntKind.u8 (f.tdiv (Int.ofNat 6))) 3))
      (ofV
        (okOf (up a 12) (up b 2) (up c 4) (up d 4) (up e 4) (up f 6) (up (wr IntKind.u8 (f.tdiv (Int.ofNat 6))) 3)
          (up g 5) (capF g i) (firstF i) (Int.ofNat 5) (Int.ofNat 3))
        (Int.ofNat 5))
      (wr IntKind.i64 ((Int.negSucc 0).sub (wr IntKind.i64 y)))
      (ofV
        (okOf (up a 12) (up b 2) (up c 4) (up d 4) (up e 4) (up f 6) (up (wr IntKind.u8 (f.tdiv (Int.ofNat 6))) 3)
          (up g 5) (capF g i) (firstF i) (Int.ofNat 5) (Int.ofNat 3))
        (capF g i)))
    (Int.ofNat 0)) = (false)) ∧
         (((!ieq
    (checkF
      (ofV
        (okOf (up a 12) (up b 2) (up c 4) (up d 4) (up e 4) (up f 6) (up (wr IntKind.u8 (f.tdiv (Int.ofNat 6))) 3)
          (up g 5) (capF g i) (firstF i) (Int.ofNat 5) (Int.ofNat 3))
        (up a 12))
      (ofV
        (okOf (up a 12) (up b 2) (up c 4) (up d 4) (up e 4) (up f 6) (up (wr IntKind.u8 (f.tdiv (Int.ofNat 6))) 3)
          (up g 5) (capF g i) (firstF i) (Int.ofNat 5) (Int.ofNat 3))
        (up b 2))
      (ofV
        (okOf (up a 12) (up b 2) (up c 4) (up d 4) (up e 4) (up f 6) (up (wr IntKind.u8 (f.tdiv (Int.ofNat 6))) 3)
          (up g 5) (capF g i) (firstF i) (Int.ofNat 5) (Int.ofNat 3))
        (up e 4))
      (ofV
        (okOf (up a 12) (up b 2) (up c 4) (up d 4) (up e 4) (up f 6) (up (wr IntKind.u8 (f.tdiv (Int.ofNat 6))) 3)
          (up g 5) (capF g i) (firstF i) (Int.ofNat 5) (Int.ofNat 3))
        (up (wr IntKind.u8 (f.tdiv (Int.ofNat 6))) 3))
      (ofV
        (okOf (up a 12) (up b 2) (up c 4) (up d 4) (up e 4) (up f 6) (up (wr IntKind.u8 (f.tdiv (Int.ofNat 6))) 3)
          (up g 5) (capF g i) (firstF i) (Int.ofNat 5) (Int.ofNat 3))
        (Int.ofNat 5))
      (wr IntKind.i64 ((Int.negSucc 0).sub (wr IntKind.i64 y)))
      (ofV
        (okOf (up a 12) (up b 2) (up c 4) (up d 4) (up e 4) (up f 6) (up (wr IntKind.u8 (f.tdiv (Int.ofNat 6))) 3)
          (up g 5) (capF g i) (firstF i) (Int.ofNat 5) (Int.ofNat 3))
        (capF g i)))
    (Int.ofNat 2)) = (false)) ∧
          (((!ieq
    (checkF
      (ofV
        (okOf (up a 12) (up b 2) (up c 4) (up d 4) (up e 4) (up f 6) (up (wr IntKind.u8 (f.tdiv (Int.ofNat 6))) 3)
          (up g 5) (capF g i) (firstF i) (Int.ofNat 5) (Int.ofNat 3))
        (up a 12))
      (ofV
        (okOf (up a 12) (up b 2) (up c 4) (up d 4) (up e 4) (up f 6) (up (wr IntKind.u8 (f.tdiv (Int.ofNat 6))) 3)
          (up g 5) (capF g i) (firstF i) (Int.ofNat 5) (Int.ofNat 3))
        (up b 2))
      (ofV
        (okOf (up a 12) (up b 2) (up c 4) (up d 4) (up e 4) (up f 6) (up (wr IntKind.u8 (f.tdiv (Int.ofNat 6))) 3)
          (up g 5) (capF g i) (firstF i) (Int.ofNat 5) (Int.ofNat 3))
        (up e 4))
      (ofV
        (okOf (up a 12) (up b 2) (up c 4) (up d 4) (up e 4) (up f 6) (up (wr IntKind.u8 (f.tdiv (Int.ofNat 6))) 3)
          (up g 5) (capF g i) (firstF i) (Int.ofNat 5) (Int.ofNat 3))
        (up (wr IntKind.u8 (f.tdiv (Int.ofNat 6))) 3))
      (ofV
        (okOf (up a 12) (up b 2) (up c 4) (up d 4) (up e 4) (up f 6) (up (wr IntKind.u8 (f.tdiv (Int.ofNat 6))) 3)
          (up g 5) (capF g i) (firstF i) (Int.ofNat 5) (Int.ofNat 3))
        (Int.ofNat 5))
      (wr IntKind.i64 ((Int.negSucc 0).sub (wr IntKind.i64 y)))
      (ofV
        (okOf (up a 12) (up b 2) (up c 4) (up d 4) (up e 4) (up f 6) (up (wr IntKind.u8 (f.tdiv (Int.ofNat 6))) 3)
          (up g 5) (capF g i) (firstF i) (Int.ofNat 5) (Int.ofNat 3))
        (capF g i)))
    (Int.ofNat 2)) = (false)) ∧
           ((((some (V.ptr 1001 0)) = (some (V.ptr 1001 0))) ∧
             (((some (V.int IntKind.i64 (wr IntKind.i64 y))) = (some (V.int IntKind.i64 y))) ∧
              (True))) ∧
            (((271) = (271)) ∧
             (((true) = (true)) ∧
              (((1003) = (1003)) ∧
               (((some
  (O.ro none 4
    [V.int IntKind.u8 (Int.ofNat 0), V.int IntKind.u8 (Int.ofNat 111), V.int IntKind.u8 (Int.ofNat 108),
      V.int IntKind.u8 (Int.ofNat 102)]
    T.leaf)) = (some
  (O.ro none 4
    [V.int IntKind.u8 (Int.ofNat 0), V.int IntKind.u8 (Int.ofNat 111), V.int IntKind.u8 (Int.ofNat 108),
      V.int IntKind.u8 (Int.ofNat 102)]
    T.leaf))) ∧
                (((true) = (true)) ∧
                 ((some
  [V.int IntKind.i64 (up a 12), V.int IntKind.i64 (up b 2), V.int IntKind.i64 (up c 4), V.int IntKind.i64 (up d 4),
    V.int IntKind.i64 (up e 4), V.int IntKind.i64 (up f 6),
    V.int IntKind.i64 (up (wr IntKind.u8 (f.tdiv (Int.ofNat 6))) 3), V.int IntKind.i64 (up g 5),
    V.int IntKind.i64 (capF g i), V.int IntKind.u32 (firstF i)]) = (some
  [V.int IntKind.i64 (up a 12), V.int IntKind.i64 (up b 2), V.int IntKind.i64 (up c 4), V.int IntKind.i64 (up d 4),
    V.int IntKind.i64 (up e 4), V.int IntKind.i64 (up f 6),
    V.int IntKind.i64 (up (wr IntKind.u8 (f.tdiv (Int.ofNat 6))) 3), V.int IntKind.i64 (up g 5),
    V.int IntKind.i64 (capF g i), V.int IntKind.u32 (firstF i)])))))))))))))) ∧
     (((x.tmod (Int.ofNat 14)) = (Int.ofNat 12)) → ((!ieq
    (markF
      (ofV
        (okOf (up a 12) (up b 2) (up c 4) (up d 4) (up e 4) (up f 6) (up (wr IntKind.u8 (f.tdiv (Int.ofNat 6))) 3)
          (up g 5) (capF g i) (firstF i) (Int.ofNat 5) (Int.ofNat 3))
        (up a 12))
      (ofV
        (okOf (up a 12) (up b 2) (up c 4) (up d 4) (up e 4) (up f 6) (up (wr IntKind.u8 (f.tdiv (Int.ofNat 6))) 3)
          (up g 5) (capF g i) (firstF i) (Int.ofNat 5) (Int.ofNat 3))
        (up b 2))
      (ofV
        (okOf (up a 12) (up b 2) (up c 4) (up d 4) (up e 4) (up f 6) (up (wr IntKind.u8 (f.tdiv (Int.ofNat 6))) 3)
          (up g 5) (capF g i) (firstF i) (Int.ofNat 5) (Int.ofNat 3))
        (up e 4))
      (ofV
        (okOf (up a 12) (up b 2) (up c 4) (up d 4) (up e 4) (up f 6) (up (wr IntKind.u8 (f.tdiv (Int.ofNat 6))) 3)
          (up g 5) (capF g i) (firstF i) (Int.ofNat 5) (Int.ofNat 3))
        (up (wr IntKind.u8 (f.tdiv (Int.ofNat 6))) 3))
      (ofV
        (okOf (up a 12) (up b 2) (up c 4) (up d 4) (up e 4) (up f 6) (up (wr IntKind.u8 (f.tdiv (Int.ofNat 6))) 3)
          (up g 5) (capF g i) (firstF i) (Int.ofNat 5) (Int.ofNat 3))
        (Int.ofNat 5))
      (ofV
        (okOf (up a 12) (up b 2) (up c 4) (up d 4) (up e 4) (up f 6) (up (wr IntKind.u8 (f.tdiv (Int.ofNat 6))) 3)
          (up g 5) (capF g i) (firstF i) (Int.ofNat 5) (Int.ofNat 3))
        (Int.ofNat 3))
      (wr IntKind.i64 ((Int.ofNat 1048577).add (wr IntKind.i64 y))))
    (Int.ofNat 0)) = (false)) ∧
      (((!ieq
    (checkF
      (ofV
        (okOf (up a 12) (up b 2) (up c 4) (up d 4) (up e 4) (up f 6) (up (wr IntKind.u8 (f.tdiv (Int.ofNat 6))) 3)
          (up g 5) (capF g i) (firstF i) (Int.ofNat 5) (Int.ofNat 3))
        (up a 12))
      (ofV
        (okOf (up a 12) (up b 2) (up c 4) (up d 4) (up e 4) (up f 6) (up (wr IntKind.u8 (f.tdiv (Int.ofNat 6))) 3)
          (up g 5) (capF g i) (firstF i) (Int.ofNat 5) (Int.ofNat 3))
        (up b 2))
      (ofV
        (okOf (up a 12) (up b 2) (up c 4) (up d 4) (up e 4) (up f 6) (up (wr IntKind.u8 (f.tdiv (Int.ofNat 6))) 3)
          (up g 5) (capF g i) (firstF i) (Int.ofNat 5) (Int.ofNat 3))
        (up e 4))
      (ofV
        (okOf (up a 12) (up b 2) (up c 4) (up d 4) (up e 4) (up f 6) (up (wr IntKind.u8 (f.tdiv (Int.ofNat 6))) 3)
          (up g 5) (capF g i) (firstF i) (Int.ofNat 5) (Int.ofNat 3))
        (up (wr IntKind.u8 (f.tdiv (Int.ofNat 6))) 3))
      (ofV
        (okOf (up a 12) (up b 2) (up c 4) (up d 4) (up e 4) (up f 6) (up (wr IntKind.u8 (f.tdiv (Int.ofNat 6))) 3)
          (up g 5) (capF g i) (firstF i) (Int.ofNat 5) (Int.ofNat 3))
        (Int.ofNat 5))
      (ofV
        (okOf (up a 12) (up b 2) (up c 4) (up d 4) (up e 4) (up f 6) (up (wr IntKind.u8 (f.tdiv (Int.ofNat 6))) 3)
          (up g 5) (capF g i) (firstF i) (Int.ofNat 5) (Int.ofNat 3))
        (Int.ofNat 3))
      (wr IntKind.i64 ((Int.ofNat 1048577).add (wr IntKind.i64 y))))
    (Int.ofNat 2)) = (false)) ∧
       (((!ieq
    (boundF
      (ofV
        (okOf (up a 12) (up b 2) (up c 4) (up d 4) (up e 4) (up f 6) (up (wr IntKind.u8 (f.tdiv (Int.ofNat 6))) 3)
          (up g 5) (capF g i) (firstF i) (Int.ofNat 5) (Int.ofNat 3))
        (up a 12))
      (ofV
        (okOf (up a 12) (up b 2) (up c 4) (up d 4) (up e 4) (up f 6) (up (wr IntKind.u8 (f.tdiv (Int.ofNat 6))) 3)
          (up g 5) (capF g i) (firstF i) (Int.ofNat 5) (Int.ofNat 3))
        (up b 2))
      (ofV
        (okOf (up a 12) (up b 2) (up c 4) (up d 4) (up e 4) (up f 6) (up (wr IntKind.u8 (f.tdiv (Int.ofNat 6))) 3)
          (up g 5) (capF g i) (firstF i) (Int.ofNat 5) (Int.ofNat 3))
        (up e 4))
      (ofV
        (okOf (up a 12) (up b 2) (up c 4) (up d 4) (up e 4) (up f 6) (up (wr IntKind.u8 (f.tdiv (Int.ofNat 6))) 3)
          (up g 5) (capF g i) (firstF i) (Int.ofNat 5) (Int.ofNat 3))
        (up (wr IntKind.u8 (f.tdiv (Int.ofNat 6))) 3))
      (ofV
        (okOf (up a 12) (up b 2) (up c 4) (up d 4) (up e 4) (up f 6) (up (wr IntKind.u8 (f.tdiv (Int.ofNat 6))) 3)
          (up g 5) (capF g i) (firstF i) (Int.ofNat 5) (Int.ofNat 3))
        (Int.ofNat 5))
      (ofV
        (okOf (up a 12) (up b 2) (up c 4) (up d 4) (up e 4) (up f 6) (up (wr IntKind.u8 (f.tdiv (Int.ofNat 6))) 3)
          (up g 5) (capF g i) (firstF i) (Int.ofNat 5) (Int.ofNat 3))
        (Int.ofNat 3))
      (wr IntKind.i64 ((Int.ofNat 1048577).add (wr IntKind.i64 y))))
    (Int.ofNat 0)) = (false)) ∧
        (((!ieq
    (checkF
      (ofV
        (okOf (up a 12) (up b 2) (up c 4) (up d 4) (up e 4) (up f 6) (up (wr IntKind.u8 (f.tdiv (Int.ofNat 6))) 3)
          (up g 5) (capF g i) (firstF i) (Int.ofNat 5) (Int.ofNat 3))
        (up a 12))
      (ofV
        (okOf (up a 12) (up b 2) (up c 4) (up d 4) (up e 4) (up f 6) (up (wr IntKind.u8 (f.tdiv (Int.ofNat 6))) 3)
          (up g 5) (capF g i) (firstF i) (Int.ofNat 5) (Int.ofNat 3))
        (up b 2))
      (ofV
        (okOf (up a 12) (up b 2) (up c 4) (up d 4) (up e 4) (up f 6) (up (wr IntKind.u8 (f.tdiv (Int.ofNat 6))) 3)
          (up g 5) (capF g i) (firstF i) (Int.ofNat 5) (Int.ofNat 3))
        (up e 4))
      (ofV
        (okOf (up a 12) (up b 2) (up c 4) (up d 4) (up e 4) (up f 6) (up (wr IntKind.u8 (f.tdiv (Int.ofNat 6))) 3)
          (up g 5) (capF g i) (firstF i) (Int.ofNat 5) (Int.ofNat 3))
        (up (wr IntKind.u8 (f.tdiv (Int.ofNat 6))) 3))
      (ofV
        (okOf (up a 12) (up b 2) (up c 4) (up d 4) (up e 4) (up f 6) (up (wr IntKind.u8 (f.tdiv (Int.ofNat 6))) 3)
          (up g 5) (capF g i) (firstF i) (Int.ofNat 5) (Int.ofNat 3))
        (Int.ofNat 5))
      (ofV
        (okOf (up a 12) (up b 2) (up c 4) (up d 4) (up e 4) (up f 6) (up (wr IntKind.u8 (f.tdiv (Int.ofNat 6))) 3)
          (up g 5) (capF g i) (firstF i) (Int.ofNat 5) (Int.ofNat 3))
        (Int.ofNat 3))
      (wr IntKind.i64 ((Int.ofNat 1048577).add (wr IntKind.i64 y))))
    (Int.ofNat 2)) = (false)) ∧
         (((!ieq
    (checkF
      (ofV
        (okOf (up a 12) (up b 2) (up c 4) (up d 4) (up e 4) (up f 6) (up (wr IntKind.u8 (f.tdiv (Int.ofNat 6))) 3)
          (up g 5) (capF g i) (firstF i) (Int.ofNat 5) (Int.ofNat 3))
        (up a 12))
      (ofV
        (okOf (up a 12) (up b 2) (up c 4) (up d 4) (up e 4) (up f 6) (up (wr IntKind.u8 (f.tdiv (Int.ofNat 6))) 3)
          (up g 5) (capF g i) (firstF i) (Int.ofNat 5) (Int.ofNat 3))
        (up b 2))
      (ofV
        (okOf (up a 12) (up b 2) (up c 4) (up d 4) (up e 4) (up f 6) (up (wr IntKind.u8 (f.tdiv (Int.ofNat 6))) 3)
          (up g 5) (capF g i) (firstF i) (Int.ofNat 5) (Int.ofNat 3))
        (up e 4))
      (ofV
        (okOf (up a 12) (up b 2) (up c 4) (up d 4) (up e 4) (up f 6) (up (wr IntKind.u8 (f.tdiv (Int.ofNat 6))) 3)
          (up g 5) (capF g i) (firstF i) (Int.ofNat 5) (Int.ofNat 3))
        (up (wr IntKind.u8 (f.tdiv (Int.ofNat 6))) 3))
      (ofV
        (okOf (up a 12) (up b 2) (up c 4) (up d 4) (up e 4) (up f 6) (up (wr IntKind.u8 (f.tdiv (Int.ofNat 6))) 3)
          (up g 5) (capF g i) (firstF i) (Int.ofNat 5) (Int.ofNat 3))
        (Int.ofNat 5))
      (ofV
        (okOf (up a 12) (up b 2) (up c 4) (up d 4) (up e 4) (up f 6) (up (wr IntKind.u8 (f.tdiv (Int.ofNat 6))) 3)
          (up g 5) (capF g i) (firstF i) (Int.ofNat 5) (Int.ofNat 3))
        (Int.ofNat 3))
      (wr IntKind.i64 ((Int.ofNat 1048577).add (wr IntKind.i64 y))))
    (Int.ofNat 2)) = (false)) ∧
          ((((some (V.ptr 1001 0)) = (some (V.ptr 1001 0))) ∧
            (((some (V.int IntKind.i64 (wr IntKind.i64 y))) = (some (V.int IntKind.i64 y))) ∧
             (True))) ∧
           (((271) = (271)) ∧
            (((true) = (true)) ∧
             (((1003) = (1003)) ∧
              (((some
  (O.ro none 4
    [V.int IntKind.u8 (Int.ofNat 0), V.int IntKind.u8 (Int.ofNat 111), V.int IntKind.u8 (Int.ofNat 108),
      V.int IntKind.u8 (Int.ofNat 102)]
    T.leaf)) = (some
  (O.ro none 4
    [V.int IntKind.u8 (Int.ofNat 0), V.int IntKind.u8 (Int.ofNat 111), V.int IntKind.u8 (Int.ofNat 108),
      V.int IntKind.u8 (Int.ofNat 102)]
    T.leaf))) ∧
               (((true) = (true)) ∧
                ((some
  [V.int IntKind.i64 (up a 12), V.int IntKind.i64 (up b 2), V.int IntKind.i64 (up c 4), V.int IntKind.i64 (up d 4),
    V.int IntKind.i64 (up e 4), V.int IntKind.i64 (up f 6),
    V.int IntKind.i64 (up (wr IntKind.u8 (f.tdiv (Int.ofNat 6))) 3), V.int IntKind.i64 (up g 5),
    V.int IntKind.i64 (capF g i), V.int IntKind.u32 (firstF i)]) = (some
  [V.int IntKind.i64 (up a 12), V.int IntKind.i64 (up b 2), V.int IntKind.i64 (up c 4), V.int IntKind.i64 (up d 4),
    V.int IntKind.i64 (up e 4), V.int IntKind.i64 (up f 6),
    V.int IntKind.i64 (up (wr IntKind.u8 (f.tdiv (Int.ofNat 6))) 3), V.int IntKind.i64 (up g 5),
    V.int IntKind.i64 (capF g i), V.int IntKind.u32 (firstF i)])))))))))))))) ∧
    (((x.tmod (Int.ofNat 14)) = (Int.ofNat 13)) → ((!ieq
    (markF
      (ofV
        (okOf (up a 12) (up b 2) (up c 4) (up d 4) (up e 4) (up f 6) (up (wr IntKind.u8 (f.tdiv (Int.ofNat 6))) 3)
          (up g 5) (capF g i) (firstF i) (Int.ofNat 5) (Int.ofNat 3))
        (up a 12))
      (ofV
        (okOf (up a 12) (up b 2) (up c 4) (up d 4) (up e 4) (up f 6) (up (wr IntKind.u8 (f.tdiv (Int.ofNat 6))) 3)
          (up g 5) (capF g i) (firstF i) (Int.ofNat 5) (Int.ofNat 3))
        (up b 2))
      (ofV
        (okOf (up a 12) (up b 2) (up c 4) (up d 4) (up e 4) (up f 6) (up (wr IntKind.u8 (f.tdiv (Int.ofNat 6))) 3)
          (up g 5) (capF g i) (firstF i) (Int.ofNat 5) (Int.ofNat 3))
        (up e 4))
      (ofV
        (okOf (up a 12) (up b 2) (up c 4) (up d 4) (up e 4) (up f 6) (up (wr IntKind.u8 (f.tdiv (Int.ofNat 6))) 3)
          (up g 5) (capF g i) (firstF i) (Int.ofNat 5) (Int.ofNat 3))
        (up (wr IntKind.u8 (f.tdiv (Int.ofNat 6))) 3))
      (ofV
        (okOf (up a 12) (up b 2) (up c 4) (up d 4) (up e 4) (up f 6) (up (wr IntKind.u8 (f.tdiv (Int.ofNat 6))) 3)
          (up g 5) (capF g i) (firstF i) (Int.ofNat 5) (Int.ofNat 3))
        (Int.ofNat 5))
      (ofV
        (okOf (up a 12) (up b 2) (up c 4) (up d 4) (up e 4) (up f 6) (up (wr IntKind.u8 (f.tdiv (Int.ofNat 6))) 3)
          (up g 5) (capF g i) (firstF i) (Int.ofNat 5) (Int.ofNat 3))
        (Int.ofNat 3))
      (wr IntKind.i64 ((Int.ofNat 0).sub (wr IntKind.i64 y))))
    (Int.ofNat 0)) = (false)) ∧
     (((!ieq
    (checkF
      (ofV
        (okOf (up a 12) (up b 2) (up c 4) (up d 4) (up e 4) (up f 6) (up (wr IntKind.u8 (f.tdiv (Int.ofNat 6))) 3)
          (up g 5) (capF g i) (firstF i) (Int.ofNat 5) (Int.ofNat 3))
        (up a 12))
      (ofV
        (okOf (up a 12) (up b 2) (up c 4) (up d 4) (up e 4) (up f 6) (up (wr IntKind.u8 (f.tdiv (Int.ofNat 6))) 3)
          (up g 5) (capF g i) (firstF i) (Int.ofNat 5) (Int.ofNat 3))
        (up b 2))
      (ofV
        (okOf (up a 12) (up b 2) (up c 4) (up d 4) (up e 4) (up f 6) (up (wr IntKind.u8 (f.tdiv (Int.ofNat 6))) 3)
          (up g 5) (capF g i) (firstF i) (Int.ofNat 5) (Int.ofNat 3))
        (up e 4))
      (ofV
        (okOf (up a 12) (up b 2) (up c 4) (up d 4) (up e 4) (up f 6) (up (wr IntKind.u8 (f.tdiv (Int.ofNat 6))) 3)
          (up g 5) (capF g i) (firstF i) (Int.ofNat 5) (Int.ofNat 3))
        (up (wr IntKind.u8 (f.tdiv (Int.ofNat 6))) 3))
      (ofV
        (okOf (up a 12) (up b 2) (up c 4) (up d 4) (up e 4) (up f 6) (up (wr IntKind.u8 (f.tdiv (Int.ofNat 6))) 3)
          (up g 5) (capF g i) (firstF i) (Int.ofNat 5) (Int.ofNat 3))
        (Int.ofNat 5))
      (ofV
        (okOf (up a 12) (up b 2) (up c 4) (up d 4) (up e 4) (up f 6) (up (wr IntKind.u8 (f.tdiv (Int.ofNat 6))) 3)
          (up g 5) (capF g i) (firstF i) (Int.ofNat 5) (Int.ofNat 3))
        (Int.ofNat 3))
      (wr IntKind.i64 ((Int.ofNat 0).sub (wr IntKind.i64 y))))
    (Int.ofNat 2)) = (false)) ∧
      (((!ieq
    (boundF
      (ofV
        (okOf (up a 12) (up b 2) (up c 4) (up d 4) (up e 4) (up f 6) (up (wr IntKind.u8 (f.tdiv (Int.ofNat 6))) 3)
          (up g 5) (capF g i) (firstF i) (Int.ofNat 5) (Int.ofNat 3))
        (up a 12))
      (ofV
        (okOf (up a 12) (up b 2) (up c 4) (up d 4) (up e 4) (up f 6) (up (wr IntKind.u8 (f.tdiv (Int.ofNat 6))) 3)
          (up g 5) (capF g i) (firstF i) (Int.ofNat 5) (Int.ofNat 3))
        (up b 2))
      (ofV
        (okOf (up a 12) (up b 2) (up c 4) (up d 4) (up e 4) (up f 6) (up (wr IntKind.u8 (f.tdiv (Int.ofNat 6))) 3)
          (up g 5) (capF g i) (firstF i) (Int.ofNat 5) (Int.ofNat 3))
        (up e 4))
      (ofV
        (okOf (up a 12) (up b 2) (up c 4) (up d 4) (up e 4) (up f 6) (up (wr IntKind.u8 (f.tdiv (Int.ofNat 6))) 3)
          (up g 5) (capF g i) (firstF i) (Int.ofNat 5) (Int.ofNat 3))
        (up (wr IntKind.u8 (f.tdiv (Int.ofNat 6))) 3))
      (ofV
        (okOf (up a 12) (up b 2) (up c 4) (up d 4) (up e 4) (up f 6) (up (wr IntKind.u8 (f.tdiv (Int.ofNat 6))) 3)
          (up g 5) (capF g i) (firstF i) (Int.ofNat 5) (Int.ofNat 3))
        (Int.ofNat 5))
      (ofV
        (okOf (up a 12) (up b 2) (up c 4) (up d 4) (up e 4) (up f 6) (up (wr IntKind.u8 (f.tdiv (Int.ofNat 6))) 3)
          (up g 5) (capF g i) (firstF i) (Int.ofNat 5) (Int.ofNat 3))
        (Int.ofNat 3))
      (wr IntKind.i64 ((Int.ofNat 0).sub (wr IntKind.i64 y))))
    (Int.ofNat 0)) = (false)) ∧
       (((!ieq
    (checkF
      (ofV
        (okOf (up a 12) (up b 2) (up c 4) (up d 4) (up e 4) (up f 6) (up (wr IntKind.u8 (f.tdiv (Int.ofNat 6))) 3)
          (up g 5) (capF g i) (firstF i) (Int.ofNat 5) (Int.ofNat 3))
        (up a 12))
      (ofV
        (okOf (up a 12) (up b 2) (up c 4) (up d 4) (up e 4) (up f 6) (up (wr IntKind.u8 (f.tdiv (Int.ofNat 6))) 3)
          (up g 5) (capF g i) (firstF i) (Int.ofNat 5) (Int.ofNat 3))
        (up b 2))
      (ofV
        (okOf (up a 12) (up b 2) (up c 4) (up d 4) (up e 4) (up f 6) (up (wr IntKind.u8 (f.tdiv (Int.ofNat 6))) 3)
          (up g 5) (capF g i) (firstF i) (Int.ofNat 5) (Int.ofNat 3))
        (up e 4))
      (ofV
        (okOf (up a 12) (up b 2) (up c 4) (up d 4) (up e 4) (up f 6) (up (wr IntKind.u8 (f.tdiv (Int.ofNat 6))) 3)
          (up g 5) (capF g i) (firstF i) (Int.ofNat 5) (Int.ofNat 3))
        (up (wr IntKind.u8 (f.tdiv (Int.ofNat 6))) 3))
      (ofV
        (okOf (up a 12) (up b 2) (up c 4) (up d 4) (up e 4) (up f 6) (up (wr IntKind.u8 (f.tdiv (Int.ofNat 6))) 3)
          (up g 5) (capF g i) (firstF i) (Int.ofNat 5) (Int.ofNat 3))
        (Int.ofNat 5))
      (ofV
        (okOf (up a 12) (up b 2) (up c 4) (up d 4) (up e 4) (up f 6) (up (wr IntKind.u8 (f.tdiv (Int.ofNat 6))) 3)
          (up g 5) (capF g i) (firstF i) (Int.ofNat 5) (Int.ofNat 3))
        (Int.ofNat 3))
      (wr IntKind.i64 ((Int.ofNat 0).sub (wr IntKind.i64 y))))
    (Int.ofNat 2)) = (false)) ∧
        (((!ieq
    (checkF
      (ofV
        (okOf (up a 12) (up b 2) (up c 4) (up d 4) (up e 4) (up f 6) (up (wr IntKind.u8 (f.tdiv (Int.ofNat 6))) 3)
          (up g 5) (capF g i) (firstF i) (Int.ofNat 5) (Int.ofNat 3))
        (up a 12))
      (ofV
        (okOf (up a 12) (up b 2) (up c 4) (up d 4) (up e 4) (up f 6) (up (wr IntKind.u8 (f.tdiv (Int.ofNat 6))) 3)
          (up g 5) (capF g i) (firstF i) (Int.ofNat 5) (Int.ofNat 3))
        (up b 2))
      (ofV
        (okOf (up a 12) (up b 2) (up c 4) (up d 4) (up e 4) (up f 6) (up (wr IntKind.u8 (f.tdiv (Int.ofNat 6))) 3)
          (up g 5) (capF g i) (firstF i) (Int.ofNat 5) (Int.ofNat 3))
        (up e 4))
      (ofV
        (okOf (up a 12) (up b 2) (up c 4) (up d 4) (up e 4) (up f 6) (up (wr IntKind.u8 (f.tdiv (Int.ofNat 6))) 3)
          (up g 5) (capF g i) (firstF i) (Int.ofNat 5) (Int.ofNat 3))
        (up (wr IntKind.u8 (f.tdiv (Int.ofNat 6))) 3))
      (ofV
        (okOf (up a 12) (up b 2) (up c 4) (up d 4) (up e 4) (up f 6) (up (wr IntKind.u8 (f.tdiv (Int.ofNat 6))) 3)
          (up g 5) (capF g i) (firstF i) (Int.ofNat 5) (Int.ofNat 3))
        (Int.ofNat 5))
      (ofV
        (okOf (up a 12) (up b 2) (up c 4) (up d 4) (up e 4) (up f 6) (up (wr IntKind.u8 (f.tdiv (Int.ofNat 6))) 3)
          (up g 5) (capF g i) (firstF i) (Int.ofNat 5) (Int.ofNat 3))
        (Int.ofNat 3))
      (wr IntKind.i64 ((Int.ofNat 0).sub (wr IntKind.i64 y))))
    (Int.ofNat 2)) = (false)) ∧
         ((((some (V.ptr 1001 0)) = (some (V.ptr 1001 0))) ∧
           (((some (V.int IntKind.i64 (wr IntKind.i64 y))) = (some (V.int IntKind.i64 y))) ∧
            (True))) ∧
          (((271) = (271)) ∧
           (((true) = (true)) ∧
            (((1003) = (1003)) ∧
             (((some
  (O.ro none 4
    [V.int IntKind.u8 (Int.ofNat 0), V.int IntKind.u8 (Int.ofNat 111), V.int IntKind.u8 (Int.ofNat 108),
      V.int IntKind.u8 (Int.ofNat 102)]
    T.leaf)) = (some
  (O.ro none 4
    [V.int IntKind.u8 (Int.ofNat 0), V.int IntKind.u8 (Int.ofNat 111), V.int IntKind.u8 (Int.ofNat 108),
      V.int IntKind.u8 (Int.ofNat 102)]
    T.leaf))) ∧
              (((true) = (true)) ∧
               ((some
  [V.int IntKind.i64 (up a 12), V.int IntKind.i64 (up b 2), V.int IntKind.i64 (up c 4), V.int IntKind.i64 (up d 4),
    V.int IntKind.i64 (up e 4), V.int IntKind.i64 (up f 6),
    V.int IntKind.i64 (up (wr IntKind.u8 (f.tdiv (Int.ofNat 6))) 3), V.int IntKind.i64 (up g 5),
    V.int IntKind.i64 (capF g i), V.int IntKind.u32 (firstF i)]) = (some
  [V.int IntKind.i64 (up a 12), V.int IntKind.i64 (up b 2), V.int IntKind.i64 (up c 4), V.int IntKind.i64 (up d 4),
    V.int IntKind.i64 (up e 4), V.int IntKind.i64 (up f 6),
    V.int IntKind.i64 (up (wr IntKind.u8 (f.tdiv (Int.ofNat 6))) 3), V.int IntKind.i64 (up g 5),
    V.int IntKind.i64 (capF g i), V.int IntKind.u32 (firstF i)])))))))))))))))))) := by kernel_rfl
theorem wR (el : Option TypeId) (a b c d e f g h i j m : Int) : (evW Gl sp 100 rest none iRefuses (S [(7, .ptr 1001 0), (8, .int .i64 m)] (hC el a b c d e f g h i j)) KR) = (
((!ieq (MachV (wr IntKind.i64 ((Int.ofNat 257).add m)) b c d e f g h i j) (Int.ofNat 2)) = (false)) ∧
(((false) = (false)) ∧
 (((!ieq (longE (MachV (wr IntKind.i64 ((Int.ofNat 257).add m)) b c d e f g h i j)) (Int.ofNat 2)) = (false)) ∧
  (((false) = (false)) ∧
   (((!ieq (longE (MachV a b c d e f g h i j)) (Int.ofNat 11)) = (false)) ∧
    (((noneB (MachV a b c d e f g h i j) (wr IntKind.i64 ((Int.ofNat 0).sub m))) = (false)) ∧
     (((!ieq (noneE (MachV a b c d e f g h i j) (wr IntKind.i64 ((Int.ofNat 0).sub m))) (Int.ofNat 2)) = (false)) ∧
      (((noneB (MachV a b c d e f g h i j) (wr IntKind.i64 ((Int.ofNat 2001).add m))) = (false)) ∧
       (((!ieq (noneE (MachV a b c d e f g h i j) (wr IntKind.i64 ((Int.ofNat 2001).add m))) (Int.ofNat 2)) = (false)) ∧
        (((!(ieq
      (ofV (okOf (wr IntKind.i64 ((Int.ofNat 257).add m)) b c d e f g h i j (Int.ofNat 5) (Int.ofNat 3))
        (wr IntKind.i64 ((Int.ofNat 257).add m)))
      (Int.ofNat 0) &&
    (ieq (ofV (okOf (wr IntKind.i64 ((Int.ofNat 257).add m)) b c d e f g h i j (Int.ofNat 5) (Int.ofNat 3)) b)
        (Int.ofNat 0) &&
      (ieq (ofV (okOf (wr IntKind.i64 ((Int.ofNat 257).add m)) b c d e f g h i j (Int.ofNat 5) (Int.ofNat 3)) e)
          (Int.ofNat 0) &&
        (ieq (ofV (okOf (wr IntKind.i64 ((Int.ofNat 257).add m)) b c d e f g h i j (Int.ofNat 5) (Int.ofNat 3)) g)
            (Int.ofNat 0) &&
          (ieq
              (ofV (okOf (wr IntKind.i64 ((Int.ofNat 257).add m)) b c d e f g h i j (Int.ofNat 5) (Int.ofNat 3))
                (Int.ofNat 5))
              (Int.ofNat 0) &&
            (ieq
                (ofV (okOf (wr IntKind.i64 ((Int.ofNat 257).add m)) b c d e f g h i j (Int.ofNat 5) (Int.ofNat 3))
                  (Int.ofNat 3))
                (Int.ofNat 0) &&
              (ieq (ofV (okOf (wr IntKind.i64 ((Int.ofNat 257).add m)) b c d e f g h i j (Int.ofNat 5) (Int.ofNat 3)) i)
                  (Int.ofNat 0) &&
                true)))))))) = (false)) ∧
         (((!ieq (ofE (okOf (wr IntKind.i64 ((Int.ofNat 257).add m)) b c d e f g h i j (Int.ofNat 5) (Int.ofNat 3))) (Int.ofNat 2)) = (false)) ∧
          (((!(ieq (ofV (okOf a b c d e f g h i j (wr IntKind.i64 ((Int.ofNat 0).sub m)) (Int.ofNat 3)) a) (Int.ofNat 0) &&
    (ieq (ofV (okOf a b c d e f g h i j (wr IntKind.i64 ((Int.ofNat 0).sub m)) (Int.ofNat 3)) b) (Int.ofNat 0) &&
      (ieq (ofV (okOf a b c d e f g h i j (wr IntKind.i64 ((Int.ofNat 0).sub m)) (Int.ofNat 3)) e) (Int.ofNat 0) &&
        (ieq (ofV (okOf a b c d e f g h i j (wr IntKind.i64 ((Int.ofNat 0).sub m)) (Int.ofNat 3)) g) (Int.ofNat 0) &&
          (ieq
              (ofV (okOf a b c d e f g h i j (wr IntKind.i64 ((Int.ofNat 0).sub m)) (Int.ofNat 3))
                (wr IntKind.i64 ((Int.ofNat 0).sub m)))
              (Int.ofNat 0) &&
            (ieq (ofV (okOf a b c d e f g h i j (wr IntKind.i64 ((Int.ofNat 0).sub m)) (Int.ofNat 3)) (Int.ofNat 3))
                (Int.ofNat 0) &&
              (ieq (ofV (okOf a b c d e f g h i j (wr IntKind.i64 ((Int.ofNat 0).sub m)) (Int.ofNat 3)) i)
                  (Int.ofNat 0) &&
                true)))))))) = (false)) ∧
           (((!ieq (ofE (okOf a b c d e f g h i j (wr IntKind.i64 ((Int.ofNat 0).sub m)) (Int.ofNat 3))) (Int.ofNat 2)) = (false)) ∧
            (((!(ieq (ofV (okOf a b c d e f g h i j (wr IntKind.i64 ((Int.ofNat 2001).add m)) (Int.ofNat 3)) a) (Int.ofNat 0) &&
    (ieq (ofV (okOf a b c d e f g h i j (wr IntKind.i64 ((Int.ofNat 2001).add m)) (Int.ofNat 3)) b) (Int.ofNat 0) &&
      (ieq (ofV (okOf a b c d e f g h i j (wr IntKind.i64 ((Int.ofNat 2001).add m)) (Int.ofNat 3)) e) (Int.ofNat 0) &&
        (ieq (ofV (okOf a b c d e f g h i j (wr IntKind.i64 ((Int.ofNat 2001).add m)) (Int.ofNat 3)) g) (Int.ofNat 0) &&
          (ieq
              (ofV (okOf a b c d e f g h i j (wr IntKind.i64 ((Int.ofNat 2001).add m)) (Int.ofNat 3))
                (wr IntKind.i64 ((Int.ofNat 2001).add m)))
              (Int.ofNat 0) &&
            (ieq (ofV (okOf a b c d e f g h i j (wr IntKind.i64 ((Int.ofNat 2001).add m)) (Int.ofNat 3)) (Int.ofNat 3))
                (Int.ofNat 0) &&
              (ieq (ofV (okOf a b c d e f g h i j (wr IntKind.i64 ((Int.ofNat 2001).add m)) (Int.ofNat 3)) i)
                  (Int.ofNat 0) &&
                true)))))))) = (false)) ∧
             (((!ieq (ofE (okOf a b c d e f g h i j (wr IntKind.i64 ((Int.ofNat 2001).add m)) (Int.ofNat 3))) (Int.ofNat 2)) = (false)) ∧
              (((!(ieq (ofV (okOf a b c d e f g h i j (Int.ofNat 5) (wr IntKind.i64 ((Int.negSucc 0).sub m))) a) (Int.ofNat 0) &&
    (ieq (ofV (okOf a b c d e f g h i j (Int.ofNat 5) (wr IntKind.i64 ((Int.negSucc 0).sub m))) b) (Int.ofNat 0) &&
      (ieq (ofV (okOf a b c d e f g h i j (Int.ofNat 5) (wr IntKind.i64 ((Int.negSucc 0).sub m))) e) (Int.ofNat 0) &&
        (ieq (ofV (okOf a b c d e f g h i j (Int.ofNat 5) (wr IntKind.i64 ((Int.negSucc 0).sub m))) g) (Int.ofNat 0) &&
          (ieq (ofV (okOf a b c d e f g h i j (Int.ofNat 5) (wr IntKind.i64 ((Int.negSucc 0).sub m))) (Int.ofNat 5))
              (Int.ofNat 0) &&
            (ieq
                (ofV (okOf a b c d e f g h i j (Int.ofNat 5) (wr IntKind.i64 ((Int.negSucc 0).sub m)))
                  (wr IntKind.i64 ((Int.negSucc 0).sub m)))
                (Int.ofNat 0) &&
              (ieq (ofV (okOf a b c d e f g h i j (Int.ofNat 5) (wr IntKind.i64 ((Int.negSucc 0).sub m))) i)
                  (Int.ofNat 0) &&
                true)))))))) = (false)) ∧
               (((!ieq (ofE (okOf a b c d e f g h i j (Int.ofNat 5) (wr IntKind.i64 ((Int.negSucc 0).sub m)))) (Int.ofNat 2)) = (false)) ∧
                (((!(ieq (ofV (okOf a b c d e f g h i j (Int.ofNat 5) (wr IntKind.i64 ((Int.ofNat 2001).add m))) a) (Int.ofNat 0) &&
    (ieq (ofV (okOf a b c d e f g h i j (Int.ofNat 5) (wr IntKind.i64 ((Int.ofNat 2001).add m))) b) (Int.ofNat 0) &&
      (ieq (ofV (okOf a b c d e f g h i j (Int.ofNat 5) (wr IntKind.i64 ((Int.ofNat 2001).add m))) e) (Int.ofNat 0) &&
        (ieq (ofV (okOf a b c d e f g h i j (Int.ofNat 5) (wr IntKind.i64 ((Int.ofNat 2001).add m))) g) (Int.ofNat 0) &&
          (ieq (ofV (okOf a b c d e f g h i j (Int.ofNat 5) (wr IntKind.i64 ((Int.ofNat 2001).add m))) (Int.ofNat 5))
              (Int.ofNat 0) &&
            (ieq
                (ofV (okOf a b c d e f g h i j (Int.ofNat 5) (wr IntKind.i64 ((Int.ofNat 2001).add m)))
                  (wr IntKind.i64 ((Int.ofNat 2001).add m)))
                (Int.ofNat 0) &&
              (ieq (ofV (okOf a b c d e f g h i j (Int.ofNat 5) (wr IntKind.i64 ((Int.ofNat 2001).add m))) i)
                  (Int.ofNat 0) &&
                true)))))))) = (false)) ∧
                 (((!ieq (ofE (okOf a b c d e f g h i j (Int.ofNat 5) (wr IntKind.i64 ((Int.ofNat 2001).add m)))) (Int.ofNat 2)) = (false)) ∧
                  (((!ieq (longE (MachV (wr IntKind.i64 ((Int.ofNat 257).add m)) b c d e f g h i j)) (Int.ofNat 2)) = (false)) ∧
                   (((!ieq (longE (MachV a b c d e f g h i j)) (Int.ofNat 11)) = (false)) ∧
                    ((((!ieq (MachV a b c d e f g h i j) (Int.ofNat 0)) = (true)) → (((!ieq (MachV a b c d e f g h i j) (Int.ofNat 0)) = (true)) → ((!ieq (MachV a b c d e f g h i j) (Int.ofNat 3)) = (false)) ∧
                       ((((!ieq (MachV a b c d e f g h i j) (Int.ofNat 0)) = (true)) → (((!ieq (MachV a b c d e f g h i j) (Int.ofNat 0)) = (true)) → ((!ieq (MachV a b c d e f g h i j) (Int.ofNat 3)) = (false)) ∧
                          ((V.bool true) = (V.bool true))) ∧
                         (((!ieq (MachV a b c d e f g h i j) (Int.ofNat 0)) = (false)) → (((ilt (wr IntKind.i64 ((Int.ofNat 1).add m)) (Int.ofNat 0)) = (true)) → ((false) = (false)) ∧
                           ((V.bool true) = (V.bool true))) ∧
                          (((ilt (wr IntKind.i64 ((Int.ofNat 1).add m)) (Int.ofNat 0)) = (false)) → ((ilt (Int.ofNat 0) (wr IntKind.i64 ((Int.ofNat 1).add m))) = (true)) ∧
                           (((false) = (false)) ∧
                            ((V.bool true) = (V.bool true)))))) ∧
                        (((!ieq (MachV a b c d e f g h i j) (Int.ofNat 0)) = (false)) → (((false) = (true)) → ((true) = (false)) ∧
                          ((V.bool true) = (V.bool true))) ∧
                         (((false) = (false)) → (((ilt (wr IntKind.i64 ((Int.ofNat 1).add m)) (Int.ofNat 0)) = (true)) → ((false) = (false)) ∧
                           ((V.bool true) = (V.bool true))) ∧
                          (((ilt (wr IntKind.i64 ((Int.ofNat 1).add m)) (Int.ofNat 0)) = (false)) → ((ilt (Int.ofNat 0) (wr IntKind.i64 ((Int.ofNat 1).add m))) = (true)) ∧
                           (((false) = (false)) ∧
                            ((V.bool true) = (V.bool true)))))))) ∧
                      (((!ieq (MachV a b c d e f g h i j) (Int.ofNat 0)) = (false)) → (((ilt (wr IntKind.i64 ((Int.negSucc 0).sub m)) (Int.ofNat 0)) = (true)) → ((false) = (false)) ∧
                        ((((!ieq (MachV a b c d e f g h i j) (Int.ofNat 0)) = (true)) → (((!ieq (MachV a b c d e f g h i j) (Int.ofNat 0)) = (true)) → ((!ieq (MachV a b c d e f g h i j) (Int.ofNat 3)) = (false)) ∧
                           ((V.bool true) = (V.bool true))) ∧
                          (((!ieq (MachV a b c d e f g h i j) (Int.ofNat 0)) = (false)) → (((ilt (wr IntKind.i64 ((Int.ofNat 1).add m)) (Int.ofNat 0)) = (true)) → ((false) = (false)) ∧
                            ((V.bool true) = (V.bool true))) ∧
                           (((ilt (wr IntKind.i64 ((Int.ofNat 1).add m)) (Int.ofNat 0)) = (false)) → ((ilt (Int.ofNat 0) (wr IntKind.i64 ((Int.ofNat 1).add m))) = (true)) ∧
                            (((false) = (false)) ∧
                             ((V.bool true) = (V.bool true)))))) ∧
                         (((!ieq (MachV a b c d e f g h i j) (Int.ofNat 0)) = (false)) → (((false) = (true)) → ((true) = (false)) ∧
                           ((V.bool true) = (V.bool true))) ∧
                          (((false) = (false)) → (((ilt (wr IntKind.i64 ((Int.ofNat 1).add m)) (Int.ofNat 0)) = (true)) → ((false) = (false)) ∧
                            ((V.bool true) = (V.bool true))) ∧
                           (((ilt (wr IntKind.i64 ((Int.ofNat 1).add m)) (Int.ofNat 0)) = (false)) → ((ilt (Int.ofNat 0) (wr IntKind.i64 ((Int.ofNat 1).add m))) = (true)) ∧
                            (((false) = (false)) ∧
                             ((V.bool true) = (V.bool true)))))))) ∧
                       (((ilt (wr IntKind.i64 ((Int.negSucc 0).sub m)) (Int.ofNat 0)) = (false)) → ((ilt (Int.ofNat 0) (wr IntKind.i64 ((Int.negSucc 0).sub m))) = (true)) ∧
                        (((false) = (false)) ∧
                         ((((!ieq (MachV a b c d e f g h i j) (Int.ofNat 0)) = (true)) → (((!ieq (MachV a b c d e f g h i j) (Int.ofNat 0)) = (true)) → ((!ieq (MachV a b c d e f g h i j) (Int.ofNat 3)) = (false)) ∧
                            ((V.bool true) = (V.bool true))) ∧
                           (((!ieq (MachV a b c d e f g h i j) (Int.ofNat 0)) = (false)) → (((ilt (wr IntKind.i64 ((Int.ofNat 1).add m)) (Int.ofNat 0)) = (true)) → ((false) = (false)) ∧
                             ((V.bool true) = (V.bool true))) ∧
                            (((ilt (wr IntKind.i64 ((Int.ofNat 1).add m)) (Int.ofNat 0)) = (false)) → ((ilt (Int.ofNat 0) (wr IntKind.i64 ((Int.ofNat 1).add m))) = (true)) ∧
                             (((false) = (false)) ∧
                              ((V.bool true) = (V.bool true)))))) ∧
                          (((!ieq (MachV a b c d e f g h i j) (Int.ofNat 0)) = (false)) → (((false) = (true)) → ((true) = (false)) ∧
                            ((V.bool true) = (V.bool true))) ∧
                           (((false) = (false)) → (((ilt (wr IntKind.i64 ((Int.ofNat 1).add m)) (Int.ofNat 0)) = (true)) → ((false) = (false)) ∧
                             ((V.bool true) = (V.bool true))) ∧
                            (((ilt (wr IntKind.i64 ((Int.ofNat 1).add m)) (Int.ofNat 0)) = (false)) → ((ilt (Int.ofNat 0) (wr IntKind.i64 ((Int.ofNat 1).add m))) = (true)) ∧
                             (((false) = (false)) ∧
                              ((V.bool true) = (V.bool true))))))))))) ∧
                     (((!ieq (MachV a b c d e f g h i j) (Int.ofNat 0)) = (false)) → (((false) = (true)) → ((true) = (false)) ∧
                       ((((!ieq (MachV a b c d e f g h i j) (Int.ofNat 0)) = (true)) → (((!ieq (MachV a b c d e f g h i j) (Int.ofNat 0)) = (true)) → ((!ieq (MachV a b c d e f g h i j) (Int.ofNat 3)) = (false)) ∧
                          ((V.bool true) = (V.bool true))) ∧
                         (((!ieq (MachV a b c d e f g h i j) (Int.ofNat 0)) = (false)) → (((ilt (wr IntKind.i64 ((Int.ofNat 1).add m)) (Int.ofNat 0)) = (true)) → ((false) = (false)) ∧
                           ((V.bool true) = (V.bool true))) ∧
                          (((ilt (wr IntKind.i64 ((Int.ofNat 1).add m)) (Int.ofNat 0)) = (false)) → ((ilt (Int.ofNat 0) (wr IntKind.i64 ((Int.ofNat 1).add m))) = (true)) ∧
                           (((false) = (false)) ∧
                            ((V.bool true) = (V.bool true)))))) ∧
                        (((!ieq (MachV a b c d e f g h i j) (Int.ofNat 0)) = (false)) → (((false) = (true)) → ((true) = (false)) ∧
                          ((V.bool true) = (V.bool true))) ∧
                         (((false) = (false)) → (((ilt (wr IntKind.i64 ((Int.ofNat 1).add m)) (Int.ofNat 0)) = (true)) → ((false) = (false)) ∧
                           ((V.bool true) = (V.bool true))) ∧
                          (((ilt (wr IntKind.i64 ((Int.ofNat 1).add m)) (Int.ofNat 0)) = (false)) → ((ilt (Int.ofNat 0) (wr IntKind.i64 ((Int.ofNat 1).add m))) = (true)) ∧
                           (((false) = (false)) ∧
                            ((V.bool true) = (V.bool true)))))))) ∧
                      (((false) = (false)) → (((ilt (wr IntKind.i64 ((Int.negSucc 0).sub m)) (Int.ofNat 0)) = (true)) → ((false) = (false)) ∧
                        ((((!ieq (MachV a b c d e f g h i j) (Int.ofNat 0)) = (true)) → (((!ieq (MachV a b c d e f g h i j) (Int.ofNat 0)) = (true)) → ((!ieq (MachV a b c d e f g h i j) (Int.ofNat 3)) = (false)) ∧
                           ((V.bool true) = (V.bool true))) ∧
                          (((!ieq (MachV a b c d e f g h i j) (Int.ofNat 0)) = (false)) → (((ilt (wr IntKind.i64 ((Int.ofNat 1).add m)) (Int.ofNat 0)) = (true)) → ((false) = (false)) ∧
                            ((V.bool true) = (V.bool true))) ∧
                           (((ilt (wr IntKind.i64 ((Int.ofNat 1).add m)) (Int.ofNat 0)) = (false)) → ((ilt (Int.ofNat 0) (wr IntKind.i64 ((Int.ofNat 1).add m))) = (true)) ∧
                            (((false) = (false)) ∧
                             ((V.bool true) = (V.bool true)))))) ∧
                         (((!ieq (MachV a b c d e f g h i j) (Int.ofNat 0)) = (false)) → (((false) = (true)) → ((true) = (false)) ∧
                           ((V.bool true) = (V.bool true))) ∧
                          (((false) = (false)) → (((ilt (wr IntKind.i64 ((Int.ofNat 1).add m)) (Int.ofNat 0)) = (true)) → ((false) = (false)) ∧
                            ((V.bool true) = (V.bool true))) ∧
                           (((ilt (wr IntKind.i64 ((Int.ofNat 1).add m)) (Int.ofNat 0)) = (false)) → ((ilt (Int.ofNat 0) (wr IntKind.i64 ((Int.ofNat 1).add m))) = (true)) ∧
                            (((false) = (false)) ∧
                             ((V.bool true) = (V.bool true)))))))) ∧
                       (((ilt (wr IntKind.i64 ((Int.negSucc 0).sub m)) (Int.ofNat 0)) = (false)) → ((ilt (Int.ofNat 0) (wr IntKind.i64 ((Int.negSucc 0).sub m))) = (true)) ∧
                        (((false) = (false)) ∧
                         ((((!ieq (MachV a b c d e f g h i j) (Int.ofNat 0)) = (true)) → (((!ieq (MachV a b c d e f g h i j) (Int.ofNat 0)) = (true)) → ((!ieq (MachV a b c d e f g h i j) (Int.ofNat 3)) = (false)) ∧
                            ((V.bool true) = (V.bool true))) ∧
                           (((!ieq (MachV a b c d e f g h i j) (Int.ofNat 0)) = (false)) → (((ilt (wr IntKind.i64 ((Int.ofNat 1).add m)) (Int.ofNat 0)) = (true)) → ((false) = (false)) ∧
                             ((V.bool true) = (V.bool true))) ∧
                            (((ilt (wr IntKind.i64 ((Int.ofNat 1).add m)) (Int.ofNat 0)) = (false)) → ((ilt (Int.ofNat 0) (wr IntKind.i64 ((Int.ofNat 1).add m))) = (true)) ∧
                             (((false) = (false)) ∧
                              ((V.bool true) = (V.bool true)))))) ∧
                          (((!ieq (MachV a b c d e f g h i j) (Int.ofNat 0)) = (false)) → (((false) = (true)) → ((true) = (false)) ∧
                            ((V.bool true) = (V.bool true))) ∧
                           (((false) = (false)) → (((ilt (wr IntKind.i64 ((Int.ofNat 1).add m)) (Int.ofNat 0)) = (true)) → ((false) = (false)) ∧
                             ((V.bool true) = (V.bool true))) ∧
                            (((ilt (wr IntKind.i64 ((Int.ofNat 1).add m)) (Int.ofNat 0)) = (false)) → ((ilt (Int.ofNat 0) (wr IntKind.i64 ((Int.ofNat 1).add m))) = (true)) ∧
                             (((false) = (false)) ∧
                              ((V.bool true) = (V.bool true))))))))))))))))))))))))))))))))) := by kernel_rfl
end Rf
end Go.Proofs.YtepekoojmijoiaaGreatDoor

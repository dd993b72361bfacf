/- slots.New makes a table, or refuses numbers. -/
import Derived.Test.YtcbggkejlhifpaaGreatDoorMc1
namespace Go.Proofs.YtcbggkejlhifpaaGreatDoor
set_option maxRecDepth 100000
open Go.Ev Go.RowKit
def badSlots (a j : Int) : Bool := !decide (1 ≤ a ∧ a ≤ 256 ∧ 1 ≤ j ∧ j ≤ 4294967295)
theorem badSlots_t (a j : Int) : badSlots a j = true ↔ ¬ (1 ≤ a ∧ a ≤ 256 ∧ 1 ≤ j ∧ j ≤ 4294967295) := by simp only [badSlots, not_t, decide_eq_false_iff_not]
theorem badSlots_f (a j : Int) : badSlots a j = false ↔ (1 ≤ a ∧ a ≤ 256 ∧ 1 ≤ j ∧ j ≤ 4294967295) := by simp only [badSlots, not_f, decide_eq_true_eq]
namespace Slots
noncomputable def fn : Func := match Tryz.prog.funcs[iSlots]? with
  | some f => f
  | .none => default
noncomputable def code : Code := match fn.body with
  | some c => c
  | .none => .skip
noncomputable def r0 : Code := cFst code
noncomputable def x1 : Code := cSnd code
noncomputable def y1 : Code := cFst x1
noncomputable def x2 : Code := cSnd x1
noncomputable def r3 : Code := cFst x2
noncomputable def x3 : Code := cSnd x2
noncomputable def z : Code := cFst x3
noncomputable def x4 : Code := cSnd x3
noncomputable def r4 : Code := cFst z
noncomputable def bl : Code := cSnd z
noncomputable def lp : Code := cFst bl
noncomputable def bd : Code := cFst lp
theorem isFn : Tryz.prog.funcs[iSlots]? = some fn := by kernel_rfl
theorem body : fn.body = some code := by kernel_rfl
theorem q0 : code = .seq r0 x1 := by kernel_rfl
theorem q1 : x1 = .seq y1 x2 := by kernel_rfl
theorem q2 : x2 = .seq r3 x3 := by kernel_rfl
theorem q3 : x3 = .seq z x4 := by kernel_rfl
theorem q4 : z = .seq r4 bl := by kernel_rfl
theorem q5 : bl = .block 0 lp := by kernel_rfl
theorem q6 : lp = .loop bd := by kernel_rfl
theorem q7 : fn.ntmps = 35 := by kernel_rfl
theorem o0 : okC r0 = true := by kernel_rfl
theorem o1 : okC y1 = true := by kernel_rfl
theorem o3 : okC r3 = true := by kernel_rfl
theorem o4 : okC r4 = true := by kernel_rfl
theorem o5 : okC bd = true := by kernel_rfl
theorem o6 : okC x4 = true := by kernel_rfl
noncomputable def pat : List V := [.int .i64 0, .int .i64 0, .int .u32 0]
/-- the table's block, whatever its slots hold -/
noncomputable def hT (e : Option TypeId) (pat : List V) (tr : T V) : H := ⟨T.put .leaf 1000 (some (.cells e 513 pat tr)), 1001⟩
noncomputable def S (l : List (Nat × V)) (h : H) : St := ⟨envL 35 l, h, []⟩
noncomputable def blk : Option O → Prop
  | some (.cells _ n _ _) => Nat.beq n 513 = true
  | _ => False
def noDefs : List Nat → Bool
  | [] => true
  | _ => false
theorem noDefs_eq {l : List Nat} (h : noDefs l = true) : l = [] := by
  cases l with
  | nil => rfl
  | cons => cases h
/-- a state that knows as much -/
noncomputable def has (l : List (Nat × V)) (st : St) : Prop := hasT st.env l ∧ st.env.sz = 35 ∧ noDefs st.defs = true ∧ st.h.next = 1001 ∧ blk (st.h.tr.get 1000)
noncomputable def retIs (b : Bool) (st : St) : Prop := match takeAll st.defs st.h with
  | some h2 => match resultsO G0 h2 st.env fn with
    | some v => madeK b 2 v
    | .none => False
  | .none => False
noncomputable def sp : SpF where
  at' := fun f t => match Nat.beq f iSlots, t with | true, 9 => .both | true, 12 => .both | true, 17 => .both | true, 24 => .both | true, 31 => .idx | true, 32 => .idx | _, _ => .keep
  kx := kx2 klGa plGa
noncomputable def K0 (a j : Int) (x : X) (st : St) : Prop := match x with
  | .normal => hasT st.env [(0, .int .i64 a), (1, .int .u32 j)] ∧ st.env.sz = 35 ∧ noDefs st.defs = true ∧ st.h.next = 1000
  | _ => False
noncomputable def K1 (a j : Int) (x : X) (st : St) : Prop := match x with
  | .normal => badSlots a j = false ∧ hasT st.env [(0, .int .i64 a), (1, .int .u32 j)] ∧ st.env.sz = 35 ∧ noDefs st.defs = true ∧ st.h.next = 1000
  | .ret => badSlots a j = true ∧ retIs true st
  | _ => False
noncomputable def K4 (l : List (Nat × V)) (x : X) (st : St) : Prop := match x with
  | .normal => has l st
  | _ => False
noncomputable def K5 (a i : Int) (l l' : List (Nat × V)) (x : X) (st : St) : Prop := match x with
  | .normal => ilt i a = true ∧ has l st
  | .exit n => n = 0 ∧ has l' st
  | _ => False
noncomputable def hE' : H := hE
noncomputable def inv (a j i : Int) : List (Nat × V) := [(1, .int .u32 j), (6, .ptr 1000 0), (22, .int .i64 a), (23, .int .i64 i)]
theorem w0 (a j : Int) : (evW Ga sp 100 r0 none iSlots (S [(0, .int .i64 a), (1, .int .u32 j)] hE) (K0 a j)) = (
(((some (V.int IntKind.i64 a)) = (some (V.int IntKind.i64 a))) ∧
 (((some (V.int IntKind.u32 j)) = (some (V.int IntKind.u32 j))) ∧
  (True))) ∧
(((35) = (35)) ∧
 (((true) = (true)) ∧
  ((1000) = (1000))))) := by kernel_rfl
theorem w1 (a j : Int) : (evW Ga sp 100 y1 none iSlots (S [(0, .int .i64 a), (1, .int .u32 j)] hE) (K1 a j)) = (
(((ilt a (Int.ofNat 1)) = (true)) → ((badSlots a j) = (true)) ∧
 (((true) = (true)) ∧
  (((IntKind.i64) = (IntKind.i64)) ∧
   ((Int.ofNat 2) = (Int.ofNat 2))))) ∧
(((ilt a (Int.ofNat 1)) = (false)) → (((ilt (Int.ofNat 256) a) = (true)) → ((badSlots a j) = (true)) ∧
  (((true) = (true)) ∧
   (((IntKind.i64) = (IntKind.i64)) ∧
    ((Int.ofNat 2) = (Int.ofNat 2))))) ∧
 (((ilt (Int.ofNat 256) a) = (false)) → (((!ieq (GensV j) (Int.ofNat 0)) = (true)) → ((badSlots a j) = (true)) ∧
   (((true) = (true)) ∧
    (((IntKind.i64) = (IntKind.i64)) ∧
     ((Int.ofNat 2) = (Int.ofNat 2))))) ∧
  (((!ieq (GensV j) (Int.ofNat 0)) = (false)) → ((badSlots a j) = (false)) ∧
   ((((some (V.int IntKind.i64 a)) = (some (V.int IntKind.i64 a))) ∧
     (((some (V.int IntKind.u32 j)) = (some (V.int IntKind.u32 j))) ∧
      (True))) ∧
    (((35) = (35)) ∧
     (((true) = (true)) ∧
      ((1000) = (1000))))))))) := by kernel_rfl
theorem w3 (a j : Int) : (evW Ga sp 100 r3 none iSlots (S [(0, .int .i64 a), (1, .int .u32 j)] hE) (K4 [(0, .int .i64 a), (1, .int .u32 j), (6, .ptr 1000 0)])) = (
(((some (V.int IntKind.i64 a)) = (some (V.int IntKind.i64 a))) ∧
 (((some (V.int IntKind.u32 j)) = (some (V.int IntKind.u32 j))) ∧
  (((some (V.ptr 1000 0)) = (some (V.ptr 1000 0))) ∧
   (True)))) ∧
(((35) = (35)) ∧
 (((true) = (true)) ∧
  (((1001) = (1001)) ∧
   ((true) = (true)))))) := by kernel_rfl
theorem w4 (a j : Int) (e : Option TypeId) (pat : List V) (tr : T V) : (evW Ga sp 100 r4 none iSlots (S [(0, .int .i64 a), (1, .int .u32 j), (6, .ptr 1000 0)] (hT e pat tr)) (K4 (inv a j (Int.ofNat 0)))) = (
(((some (V.int IntKind.u32 j)) = (some (V.int IntKind.u32 j))) ∧
 (((some (V.ptr 1000 0)) = (some (V.ptr 1000 0))) ∧
  (((some (V.int IntKind.i64 a)) = (some (V.int IntKind.i64 a))) ∧
   (((some (V.int IntKind.i64 (Int.ofNat 0))) = (some (V.int IntKind.i64 (Int.ofNat 0)))) ∧
    (True))))) ∧
(((35) = (35)) ∧
 (((true) = (true)) ∧
  (((1001) = (1001)) ∧
   ((true) = (true)))))) := by kernel_rfl
theorem w5 (a j i : Int) (e : Option TypeId) (pat : List V) (tr : T V) : (evW Ga sp 100 bd none iSlots (S (inv a j i) (hT e pat tr)) (K5 a i (inv a j (wr .i64 (Int.add i (Int.ofNat 1)))) [(6, .ptr 1000 0)])) = (
(((ilt i a) = (true)) → ((ilt i (Int.ofNat 0)) = (false)) ∧
 (((ilt i (Int.ofNat 256)) = (true)) ∧
  (((((Nat.add 1 (i.toNat.mul 2)).add 1).blt 513) = (true)) ∧
   (((ilt i a) = (true)) ∧
    ((((some (V.int IntKind.u32 j)) = (some (V.int IntKind.u32 j))) ∧
      (((some (V.ptr 1000 0)) = (some (V.ptr 1000 0))) ∧
       (((some (V.int IntKind.i64 a)) = (some (V.int IntKind.i64 a))) ∧
        (((some (V.int IntKind.i64 (wr IntKind.i64 (i.add (Int.ofNat 1))))) = (some (V.int IntKind.i64 (wr IntKind.i64 (i.add (Int.ofNat 1)))))) ∧
         (True))))) ∧
     (((35) = (35)) ∧
      (((true) = (true)) ∧
       (((1001) = (1001)) ∧
        ((true) = (true)))))))))) ∧
(((ilt i a) = (false)) → ((0) = (0)) ∧
 ((((some (V.ptr 1000 0)) = (some (V.ptr 1000 0))) ∧
   (True)) ∧
  (((35) = (35)) ∧
   (((true) = (true)) ∧
    (((1001) = (1001)) ∧
     ((true) = (true)))))))) := by kernel_rfl
theorem w6 (e : Option TypeId) (pat : List V) (tr : T V) : (evW Ga sp 100 x4 none iSlots (S [(6, .ptr 1000 0)] (hT e pat tr)) (fun x st => match x with | .ret => retIs false st | _ => False)) = (
((false) = (false)) ∧
(((IntKind.i64) = (IntKind.i64)) ∧
 ((Int.ofNat 0) = (Int.ofNat 0)))) := by kernel_rfl
/-- less is known of it -/
theorem to {ρ0 : Ren} {h0 : H} {w0 : World} {l : List (Nat × V)} {st : St} {a : Act} {w : World} (hA : At ρ0 h0 w0 st a w) (hk : has l st) : ∃ (e : Option TypeId) (pat : List V) (tr : T V), At ρ0 h0 w0 (S l (hT e pat tr)) a w := by
  obtain ⟨h1, h2, h3, h4, h5⟩ := hk
  unfold blk at h5
  split at h5
  · rename_i e n pat tr hb
    rw [T.beq_true] at h5
    subst h5
    refine ⟨e, pat, tr, at_less hA (hasT_get h1) (Nat.le_of_eq h2.symm) (fun b o hbo => ?_) h4.symm (noDefs_eq h3).symm⟩
    simp only [hT, T.get_put] at hbo
    split at hbo
    · rename_i q; rw [q, hb]; exact hbo
    · rw [T.get_leaf] at hbo; cases hbo
  · cases h5
theorem to0 {ρ0 : Ren} {h0 : H} {w0 : World} {l : List (Nat × V)} {st : St} {a : Act} {w : World} (hA : At ρ0 h0 w0 st a w) (h1 : hasT st.env l) (h2 : st.env.sz = 35) (h3 : noDefs st.defs = true) (h4 : st.h.next = 1000) : At ρ0 h0 w0 (S l hE) a w :=
  at_less hA (hasT_get h1) (Nat.le_of_eq h2.symm) (fun b o hbo => by simp [hE, T.get_leaf] at hbo) h4.symm (noDefs_eq h3).symm
theorem ret_out {b b' : Bool} {st : St} (h : retIs b st) (hb : b' = b) : ∃ h2 v, takeAll st.defs st.h = some h2 ∧ resultsO G0 h2 st.env fn = some v ∧ madeK b' 2 v := by
  unfold retIs at h
  split at h
  · split at h
    · subst hb; exact ⟨_, _, by assumption, by assumption, h⟩
    · cases h
  · cases h
theorem slots_call (a j : Int) {cargs : Array Value} {W : World} (ha : Rels rE [.int .i64 a, .int .u32 j] cargs.toList) (k : Nat) :
    CallsIn Fence.wide k Tryz.prog iSlots cargs W (fun en w' => ∃ c, en = .returned c ∧ Below W.heap.size W w' ∧ MadeRes (badSlots a j) 2 c) := by
  have hG : GOk Tryz.prog Ga := (mk_ok _).1
  have hC : Codes Ga := (mk_ok _).2
  have hG0 : GOk Tryz.prog G0 := (mk_ok _).1
  have hX : ExtOK Tryz.prog Ga := Ga_x
  have hK : KxOK Ga sp.kx := kx2_ok rfl
  have out : ∀ {st : St} {a' : Act} {w' : World} {b : Bool}, At rE hE W st a' w' → retIs b st → badSlots a j = b → LeavesInM Fence.wide k Tryz.prog fn a'.tmps (fun en w' => ∃ c, en = .returned c ∧ Below W.heap.size W w' ∧ MadeRes (badSlots a j) 2 c) a'.defers .returning w' := by
    intro st a' w' b hA hr hb
    obtain ⟨h2, v, e1, e2, e3⟩ := ret_out hr hb
    obtain ⟨ρ', s1, s2, s3, s4⟩ := hA
    exact body_out (n := k) hG0 e1 e2 s2 s1 s3 s4 fun c w2 c1 c2 c3 => ⟨c, rfl, c3.below hE_ro, madeK_res e3 c1⟩
  refine callsIn_of_wp_marks isFn body trivial ?_
  rw [q7]
  have h0 := at_enter (sim_E W) ha (n := 35) (show 2 ≤ 35 by decide)
  have A0 : At rE hE W (S [(0, .int .i64 a), (1, .int .u32 j)] hE) _ W := at_less h0 (hasT_get ⟨rfl, rfl, trivial⟩) (Nat.le_refl _) (fun _ _ h => h) rfl rfl
  rw [q0]
  refine wpIn_seq (at_w hG hC hX hK (N := 100) (fn := iSlots) (K := K0 a j) A0 (by rw [Slots.w0]; repeat' (first | exact rfl | exact trivial | apply And.intro)) o0 fun x st' a1 w1 hK1 A1 => ?_)
  cases x with
  | exit _ => cases hK1
  | ret => cases hK1
  | normal =>
  obtain ⟨p1, p2, p3, p4⟩ := hK1
  have A1 := to0 A1 p1 p2 p3 p4
  show Code.wpIn Fence.wide k Tryz.prog x1 _ a1 w1
  rw [q1]
  refine wpIn_seq (at_w hG hC hX hK (N := 100) (fn := iSlots) (K := K1 a j) A1 ?_ o1 fun x st' a2 w2 hK2 A2 => ?_)
  · rw [Slots.w1]
    repeat' (first | exact rfl | exact trivial | apply And.intro | intro)
    all_goals
      (try simp only [ilt_t, ilt_f, ieq_t, ieq_f, not_t, not_f, iofn, Int.cast_ofNat_Int, ne_eq, GensV_z] at *)
      first
        | (rw [badSlots_t]; omega)
        | (rw [badSlots_f]; omega)
  cases x with
  | exit _ => cases hK2
  | ret => exact out A2 hK2.2 hK2.1
  | normal =>
  obtain ⟨g0, p1, p2, p3, p4⟩ := hK2
  have A2 := to0 A2 p1 p2 p3 p4
  show Code.wpIn Fence.wide k Tryz.prog x2 _ a2 w2
  rw [q2]
  have fin : ∀ {p q : Prop}, p → q → p ∧ q := fun a b => ⟨a, b⟩
  refine wpIn_seq (at_w hG hC hX hK (N := 100) (fn := iSlots) (K := K4 [(0, .int .i64 a), (1, .int .u32 j), (6, .ptr 1000 0)]) A2 (by rw [Slots.w3]; repeat' (first | exact rfl | exact trivial | apply And.intro)) o3 fun x st' a3 w3 hK3 A3 => ?_)
  cases x with
  | exit _ => cases hK3
  | ret => cases hK3
  | normal =>
  obtain ⟨e3, pat3, tr3, A3⟩ := to A3 hK3
  show Code.wpIn Fence.wide k Tryz.prog x3 _ a3 w3
  rw [q3]
  refine wpIn_seq ?_
  rw [q4]
  refine wpIn_seq (at_w hG hC hX hK (N := 100) (fn := iSlots) (K := K4 (inv a j (Int.ofNat 0))) A3 (by rw [Slots.w4]; repeat' (first | exact rfl | exact trivial | apply And.intro)) o4 fun x st' a4 w4 hK4 A4 => ?_)
  cases x with
  | exit _ => cases hK4
  | ret => cases hK4
  | normal =>
  obtain ⟨e4, pat4, tr4, A4⟩ := to A4 hK4
  show Code.wpIn Fence.wide k Tryz.prog bl _ a4 w4
  rw [q5]
  refine wpIn_block ?_
  rw [q6]
  have ⟨g1, g2, _⟩ := (badSlots_f a j).1 g0
  refine wpIn_loop_down (fun m a' w' => ∃ i e pat tr, (m : Int) = a - i ∧ 0 ≤ i ∧ At rE hE W (S (inv a j i) (hT e pat tr)) a' w') (fun m a' w' hJ => ?_) (m := a.toNat) ⟨0, e4, pat4, tr4, by omega, by omega, A4⟩
  obtain ⟨i, e5, pat5, tr5, j1, j2, A5⟩ := hJ
  refine at_w hG hC hX hK (N := 100) (fn := iSlots) (K := K5 a i (inv a j (wr .i64 (Int.add i (Int.ofNat 1)))) [(6, .ptr 1000 0)]) A5 ?_ o5 fun x st' a6 w6 hK6 A6 => ?_
  · rw [Slots.w5]
    refine ⟨fun h => ?_, fun h => ?_⟩
    · have h := ilt_t.1 h
      refine ⟨ilt_f.2 (by rw [iofn]; omega), ilt_t.2 (by rw [iofn]; omega), ?_, ilt_t.2 h, ?_⟩
      · obtain ⟨n, rfl⟩ := Int.eq_ofNat_of_zero_le j2
        exact blt_t.2 (by show (0 + 1) + n * 2 + 1 < 513; omega)
      · repeat' (first | exact rfl | exact trivial | apply And.intro)
    · repeat' (first | exact rfl | exact trivial | apply And.intro)
  cases x with
  | ret => cases hK6
  | normal =>
    obtain ⟨l1, l2⟩ := hK6
    have l1 := ilt_t.1 l1
    obtain ⟨e7, pat7, tr7, A7⟩ := to A6 l2
    refine ⟨(a - (i + 1)).toNat, by omega, i + 1, e7, pat7, tr7, by omega, by omega, ?_⟩
    have hw : wr .i64 (Int.add i (Int.ofNat 1)) = i + 1 := by rw [iofn, iadd, wr64 (by omega) (by omega)]; rfl
    rw [hw] at A7
    exact A7
  | exit n =>
    obtain ⟨l1, l2⟩ := hK6
    subst l1
    obtain ⟨e7, pat7, tr7, A7⟩ := to A6 l2
    simp only [XE, Exit.then, Exit.inBlock, if_true]
    show Code.wpIn Fence.wide k Tryz.prog x4 _ a6 w6
    refine at_w hG hC hX hK (N := 100) (fn := iSlots) (K := fun x st => match x with | .ret => retIs false st | _ => False) A7 (by rw [Slots.w6]; repeat' (first | exact rfl | exact trivial | apply And.intro)) o6 fun x st' a8 w8 hK8 A8 => ?_
    cases x with
    | normal => cases hK8
    | exit _ => cases hK8
    | ret => exact out A8 hK8 g0
end Slots
def SlotsF : List V → Option (Bool × Int)
  | [.int .i64 a, .int .u32 j] => some (badSlots a j, 2)
  | _ => none
noncomputable def kSlots : KnownP := (iSlots, knownP SlotsF)
theorem Slots_ok : KnownPOk Tryz.prog kSlots := by
  intro args b e hv ρ cargs w ha n
  simp only [kSlots, knownP] at hv
  split at hv
  · rename_i l hl
    unfold SlotsF at hv
    split at hv
    · cases hv
      exact Slots.slots_call _ _ (canonL_rel (ρ' := rE) hl ha) n
    · cases hv
  · cases hv
end Go.Proofs.YtcbggkejlhifpaaGreatDoor

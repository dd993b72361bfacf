/- Fair and Release, where a script is too long or there is none: what is known of them. -/
import Derived.Test.YtepekoojmijoiaaGreatDoorRf1
namespace Go.Proofs.YtepekoojmijoiaaGreatDoor
set_option maxRecDepth 100000
open Go.Ev Go.RowKit
/-- the error of a long script, by that of its configuration -/
def longE (m : Int) : Int := match ieq m (Int.ofNat 0) with
  | true => Int.ofNat 11
  | false => m
def inW (w : Int) : Bool := decide (1 ≤ w ∧ w ≤ 2000)
/-- the error of no script -/
def noneE (m w : Int) : Int := match ieq m (Int.ofNat 0) with
  | true => match inW w with
    | true => Int.ofNat 0
    | false => Int.ofNat 2
  | false => m
def noneB (m w : Int) : Bool := match ieq m (Int.ofNat 0) with
  | true => inW w
  | false => false
noncomputable def Gfr : Γ := mkG Tryz.prog eqs rows (extL [kMach])
theorem Gfr_x : ExtOK Tryz.prog Gfr := extL_ok (l := [kMach]) (fun x hx => by
  simp only [List.mem_cons, List.not_mem_nil, or_false] at hx
  rcases hx with rfl
  exact Mach_ok) rfl
noncomputable def spFair : SpF where
  at' := fun f t => match Nat.beq f iFair, t with
    | true, 20 => .both | true, 24 => .both | true, 27 => .both
    | _, _ => match Nat.beq f iChk, t with
      | true, 9 => .both | true, 13 => .both | _, _ => .keep
/-- a long script -/
noncomputable def spLong : SpF where
  at' := fun f t => match Nat.beq f iFair, t with
    | true, 20 => .is true
    | _, _ => match Nat.beq f iRelease, t with
      | true, 18 => .is true
      | _, _ => match Nat.beq f iChk, t with
        | true, 9 => .both | true, 13 => .is true | _, _ => .keep
noncomputable def hS : H := ⟨.leaf, 1001⟩
theorem vFairN (a b c d e f g h i j w : Int) : (fnW Gfr spFair 100 iFair [cfgV a b c d e f g h i j, .nils, .int .i64 w] hE (fun v _ => v = .tuple [.bool (noneB (MachV a b c d e f g h i j) w), .int .i64 (noneE (MachV a b c d e f g h i j) w)])) = (
(((!ieq (MachV a b c d e f g h i j) (Int.ofNat 0)) = (true)) → (((!ieq (MachV a b c d e f g h i j) (Int.ofNat 0)) = (true)) → (V.tuple [V.bool false, V.int IntKind.i64 (MachV a b c d e f g h i j)]) = (V.tuple [V.bool (noneB (MachV a b c d e f g h i j) w), V.int IntKind.i64 (noneE (MachV a b c d e f g h i j) w)])) ∧
 (((!ieq (MachV a b c d e f g h i j) (Int.ofNat 0)) = (false)) → (((ilt w (Int.ofNat 1)) = (true)) → (V.tuple [V.bool false, V.int IntKind.i64 (Int.ofNat 2)]) = (V.tuple [V.bool (noneB (MachV a b c d e f g h i j) w), V.int IntKind.i64 (noneE (MachV a b c d e f g h i j) w)])) ∧
  (((ilt w (Int.ofNat 1)) = (false)) → (((ilt (Int.ofNat 2000) w) = (true)) → (V.tuple [V.bool false, V.int IntKind.i64 (Int.ofNat 2)]) = (V.tuple [V.bool (noneB (MachV a b c d e f g h i j) w), V.int IntKind.i64 (noneE (MachV a b c d e f g h i j) w)])) ∧
   (((ilt (Int.ofNat 2000) w) = (false)) → (V.tuple [V.bool true, V.int IntKind.i64 (Int.ofNat 0)]) = (V.tuple [V.bool (noneB (MachV a b c d e f g h i j) w), V.int IntKind.i64 (noneE (MachV a b c d e f g h i j) w)]))))) ∧
(((!ieq (MachV a b c d e f g h i j) (Int.ofNat 0)) = (false)) → (((false) = (true)) → (((true) = (true)) → (V.tuple [V.bool false, V.int IntKind.i64 (Int.ofNat 11)]) = (V.tuple [V.bool (noneB (MachV a b c d e f g h i j) w), V.int IntKind.i64 (noneE (MachV a b c d e f g h i j) w)])) ∧
  (((true) = (false)) → (((ilt w (Int.ofNat 1)) = (true)) → (V.tuple [V.bool false, V.int IntKind.i64 (Int.ofNat 2)]) = (V.tuple [V.bool (noneB (MachV a b c d e f g h i j) w), V.int IntKind.i64 (noneE (MachV a b c d e f g h i j) w)])) ∧
   (((ilt w (Int.ofNat 1)) = (false)) → (((ilt (Int.ofNat 2000) w) = (true)) → (V.tuple [V.bool false, V.int IntKind.i64 (Int.ofNat 2)]) = (V.tuple [V.bool (noneB (MachV a b c d e f g h i j) w), V.int IntKind.i64 (noneE (MachV a b c d e f g h i j) w)])) ∧
    (((ilt (Int.ofNat 2000) w) = (false)) → (V.tuple [V.bool true, V.int IntKind.i64 (Int.ofNat 0)]) = (V.tuple [V.bool (noneB (MachV a b c d e f g h i j) w), V.int IntKind.i64 (noneE (MachV a b c d e f g h i j) w)]))))) ∧
 (((false) = (false)) → (((false) = (true)) → (V.tuple [V.bool false, V.int IntKind.i64 (Int.ofNat 0)]) = (V.tuple [V.bool (noneB (MachV a b c d e f g h i j) w), V.int IntKind.i64 (noneE (MachV a b c d e f g h i j) w)])) ∧
  (((false) = (false)) → (((ilt w (Int.ofNat 1)) = (true)) → (V.tuple [V.bool false, V.int IntKind.i64 (Int.ofNat 2)]) = (V.tuple [V.bool (noneB (MachV a b c d e f g h i j) w), V.int IntKind.i64 (noneE (MachV a b c d e f g h i j) w)])) ∧
   (((ilt w (Int.ofNat 1)) = (false)) → (((ilt (Int.ofNat 2000) w) = (true)) → (V.tuple [V.bool false, V.int IntKind.i64 (Int.ofNat 2)]) = (V.tuple [V.bool (noneB (MachV a b c d e f g h i j) w), V.int IntKind.i64 (noneE (MachV a b c d e f g h i j) w)])) ∧
    (((ilt (Int.ofNat 2000) w) = (false)) → (V.tuple [V.bool true, V.int IntKind.i64 (Int.ofNat 0)]) = (V.tuple [V.bool (noneB (MachV a b c d e f g h i j) w), V.int IntKind.i64 (noneE (MachV a b c d e f g h i j) w)]))))))) := by kernel_rfl
theorem vFairL (a b c d e f g h i j w : Int) (o n : Nat) (k : Cap) : (fnW Gfr spLong 100 iFair [cfgV a b c d e f g h i j, .slice 1000 o n k, .int .i64 w] hS (fun v _ => v = .tuple [.bool false, .int .i64 (longE (MachV a b c d e f g h i j))])) = (
(((!ieq (MachV a b c d e f g h i j) (Int.ofNat 0)) = (true)) → ((!ieq (MachV a b c d e f g h i j) (Int.ofNat 0)) = (true)) ∧
 ((V.tuple [V.bool false, V.int IntKind.i64 (MachV a b c d e f g h i j)]) = (V.tuple [V.bool false, V.int IntKind.i64 (longE (MachV a b c d e f g h i j))]))) ∧
(((!ieq (MachV a b c d e f g h i j) (Int.ofNat 0)) = (false)) → ((ilt (Int.ofNat 2000) (Int.ofNat n)) = (true)) ∧
 (((true) = (true)) ∧
  ((V.tuple [V.bool false, V.int IntKind.i64 (Int.ofNat 11)]) = (V.tuple [V.bool false, V.int IntKind.i64 (longE (MachV a b c d e f g h i j))]))))) := by kernel_rfl
theorem vRelL (a b c d e f g h i j w : Int) (o n : Nat) (k : Cap) : (fnW Gfr spLong 100 iRelease [cfgV a b c d e f g h i j, .slice 1000 o n k, .int .i64 w] hS (fun v _ => v = .tuple [.int .i64 (Int.ofNat 0), .bool false, .int .i64 (longE (MachV a b c d e f g h i j))])) = (
(((!ieq (MachV a b c d e f g h i j) (Int.ofNat 0)) = (true)) → ((!ieq (MachV a b c d e f g h i j) (Int.ofNat 0)) = (true)) ∧
 ((V.tuple [V.int IntKind.i64 (Int.ofNat 0), V.bool false, V.int IntKind.i64 (MachV a b c d e f g h i j)]) = (V.tuple [V.int IntKind.i64 (Int.ofNat 0), V.bool false, V.int IntKind.i64 (longE (MachV a b c d e f g h i j))]))) ∧
(((!ieq (MachV a b c d e f g h i j) (Int.ofNat 0)) = (false)) → ((ilt (Int.ofNat 2000) (Int.ofNat n)) = (true)) ∧
 (((true) = (true)) ∧
  ((V.tuple [V.int IntKind.i64 (Int.ofNat 0), V.bool false, V.int IntKind.i64 (Int.ofNat 11)]) = (V.tuple [V.int IntKind.i64 (Int.ofNat 0), V.bool false, V.int IntKind.i64 (longE (MachV a b c d e f g h i j))]))))) := by kernel_rfl
theorem inW_t (w : Int) : inW w = true ↔ (1 ≤ w ∧ w ≤ 2000) := decide_eq_true_iff
theorem inW_f (w : Int) : inW w = false ↔ ¬ (1 ≤ w ∧ w ≤ 2000) := decide_eq_false_iff_not
theorem fairN_fn (a b c d e f g h i j w : Int) : fnW Gfr spFair 100 iFair [cfgV a b c d e f g h i j, .nils, .int .i64 w] hE (fun v _ => v = .tuple [.bool (noneB (MachV a b c d e f g h i j) w), .int .i64 (noneE (MachV a b c d e f g h i j) w)]) := by
  rw [vFairN]
  generalize MachV a b c d e f g h i j = m
  cases hm : ieq m (Int.ofNat 0) with
  | false =>
    have b1 : noneB m w = false := by unfold noneB; rw [hm]
    have e1 : noneE m w = m := by unfold noneE; rw [hm]
    simp only [b1, e1]
    repeat' (first | exact rfl | exact trivial | apply And.intro | intro)
    all_goals contradiction
  | true =>
    cases hw : inW w with
    | true =>
      have b1 : noneB m w = true := by unfold noneB; rw [hm]; exact hw
      have e1 : noneE m w = 0 := by unfold noneE; rw [hm, hw]; rfl
      obtain ⟨w1, w2⟩ := (inW_t w).1 hw
      simp only [b1, e1]
      repeat' (first | exact rfl | exact trivial | apply And.intro | intro)
      all_goals
        first
        | contradiction
        | (simp only [ilt_t, ilt_f, iofn] at *; omega)
    | false =>
      have b1 : noneB m w = false := by unfold noneB; rw [hm]; exact hw
      have e1 : noneE m w = 2 := by unfold noneE; rw [hm, hw]; rfl
      have w1 := (inW_f w).1 hw
      simp only [b1, e1]
      repeat' (first | exact rfl | exact trivial | apply And.intro | intro)
      all_goals
        first
        | contradiction
        | (simp only [ilt_f, iofn] at *; omega)
theorem fairL_fn (a b c d e f g h i j w : Int) (o n : Nat) (k : Cap) (hn : 2000 < n) : fnW Gfr spLong 100 iFair [cfgV a b c d e f g h i j, .slice 1000 o n k, .int .i64 w] hS (fun v _ => v = .tuple [.bool false, .int .i64 (longE (MachV a b c d e f g h i j))]) := by
  rw [vFairL]
  generalize MachV a b c d e f g h i j = m
  cases hm : ieq m (Int.ofNat 0) with
  | false =>
    have e1 : longE m = m := by unfold longE; rw [hm]
    simp only [e1]
    repeat' (first | exact rfl | exact trivial | apply And.intro | intro)
    all_goals contradiction
  | true =>
    have e1 : longE m = 11 := by unfold longE; rw [hm]; rfl
    simp only [e1]
    repeat' (first | exact rfl | exact trivial | apply And.intro | intro)
    all_goals
      first
      | contradiction
      | (simp only [ilt_t, iofn] at *; omega)
theorem relL_fn (a b c d e f g h i j w : Int) (o n : Nat) (k : Cap) (hn : 2000 < n) : fnW Gfr spLong 100 iRelease [cfgV a b c d e f g h i j, .slice 1000 o n k, .int .i64 w] hS (fun v _ => v = .tuple [.int .i64 (Int.ofNat 0), .bool false, .int .i64 (longE (MachV a b c d e f g h i j))]) := by
  rw [vRelL]
  generalize MachV a b c d e f g h i j = m
  cases hm : ieq m (Int.ofNat 0) with
  | false =>
    have e1 : longE m = m := by unfold longE; rw [hm]
    simp only [e1]
    repeat' (first | exact rfl | exact trivial | apply And.intro | intro)
    all_goals contradiction
  | true =>
    have e1 : longE m = 11 := by unfold longE; rw [hm]; rfl
    simp only [e1]
    repeat' (first | exact rfl | exact trivial | apply And.intro | intro)
    all_goals
      first
      | contradiction
      | (simp only [ilt_t, iofn] at *; omega)
/-- a slice, whose block is all that is known of memory -/
theorem slice_alone {ρ : Ren} {b o n : Nat} {k : Cap} {c : Value} (h : Rel ρ (.slice b o n k) c) : ∃ L, Rel (rE.with 1000 L) (.slice 1000 o n k) c := by
  cases h with
  | @sliceK _ _ _ _ B d z _ => exact ⟨(B, d, z), .sliceK (Ren.with_same rE 1000 (B, d, z))⟩
  | @sliceA _ _ _ _ _ _ B d z _ q1 q2 => exact ⟨(B, d, z), .sliceA (Ren.with_same rE 1000 (B, d, z)) q1 q2⟩
  | sliceZ a => exact ⟨(0, 0, 0), .sliceZ a⟩
theorem sim_S (w : World) (L : Nat × Nat × Nat) : Sim (rE.with 1000 L) hS w := (unk_post (sim_E w) (Below.refl _ w) L).1
theorem hS_ro : AllRo hS := fun b o h => by simp [hS, T.get_leaf] at h
noncomputable def cfgK (c : V) (F : Int → Option V) (M : Int → Int → Int → Int → Int → Int → Int → Int → Int → Int → Int) : Option V := match canon c with
  | some (.agg 10 [.int .i64 a, .int .i64 b, .int .i64 c, .int .i64 d, .int .i64 e, .int .i64 f, .int .i64 g, .int .i64 h, .int .i64 i, .int .u32 j] .leaf) => F (M a b c d e f g h i j)
  | _ => none
noncomputable def fairK (args : List V) : Option V := match args with
  | [c, l, .int .i64 w] => match l with
    | .nils => cfgK c (fun m => some (.tuple [.bool (noneB m w), .int .i64 (noneE m w)])) MachV
    | .slice _ _ n _ => match Nat.blt 2000 n with
      | true => cfgK c (fun m => some (.tuple [.bool false, .int .i64 (longE m)])) MachV
      | false => none
    | _ => none
  | _ => none
noncomputable def relK (args : List V) : Option V := match args with
  | [c, l, .int .i64 _] => match l with
    | .slice _ _ n _ => match Nat.blt 2000 n with
      | true => cfgK c (fun m => some (.tuple [.int .i64 (Int.ofNat 0), .bool false, .int .i64 (longE m)])) MachV
      | false => none
    | _ => none
  | _ => none
noncomputable def kFair : Known := (iFair, fun args _ => fairK args)
noncomputable def kRel : Known := (iRelease, fun args _ => relK args)
theorem fair_ok : KnownOk Tryz.prog kFair := by
  intro args h v hv ρ cargs w ha hS' n
  simp only [kFair, fairK] at hv
  split at hv
  · rename_i c l w0
    obtain ⟨c1, cs1, q1, r1, ha⟩ := ha.uncons
    obtain ⟨c2, cs2, q2, r2, ha⟩ := ha.uncons
    obtain ⟨c3, cs3, q3, r3, ha⟩ := ha.uncons
    have q4 := ha.of_nil
    have hc : cargs.toList = [c1, c2, c3] := by rw [q1, q2, q3, q4]
    split at hv
    · unfold cfgK at hv
      split at hv
      · rename_i a1 a2 a3 a4 a5 a6 a7 a8 a9 a10 hcan
        cases hv
        have hr : Rels rE [cfgV a1 a2 a3 a4 a5 a6 a7 a8 a9 a10, .nils, .int .i64 w0] cargs.toList := by
          rw [hc]
          exact Rels.cons (canon_rel hcan r1) (Rels.cons (pureS_rel rfl r2) (Rels.cons (pureS_rel rfl r3) Rels.nil))
        refine (call_w (sp := spFair) (N := 100) (mk_ok _).1 (mk_ok _).2 Gfr_x (kx_none _) (fairN_fn ..) hr (sim_E w) n).mono fun e w' ⟨u, h', c, ρ', e1, e2, e3, e4, e5⟩ => ?_
        subst e1
        exact ⟨c, e2, e4.below hE_ro, pureV_rel rfl e5⟩
      · cases hv
    · rename_i b1 o1 n1 k1 _
      split at hv
      · rename_i hn
        unfold cfgK at hv
        split at hv
        · rename_i a1 a2 a3 a4 a5 a6 a7 a8 a9 a10 hcan
          cases hv
          obtain ⟨L, rs⟩ := slice_alone r2
          have hr : Rels (rE.with 1000 L) [cfgV a1 a2 a3 a4 a5 a6 a7 a8 a9 a10, .slice 1000 o1 n1 k1, .int .i64 w0] cargs.toList := by
            rw [hc]
            exact Rels.cons (canon_rel hcan r1) (Rels.cons rs (Rels.cons (pureS_rel rfl r3) Rels.nil))
          refine (call_w (sp := spLong) (N := 100) (mk_ok _).1 (mk_ok _).2 Gfr_x (kx_none _) (fairL_fn _ _ _ _ _ _ _ _ _ _ _ _ _ _ (blt_t.1 hn)) hr (sim_S w L) n).mono fun e w' ⟨u, h', c, ρ', e1, e2, e3, e4, e5⟩ => ?_
          subst e1
          exact ⟨c, e2, e4.below hS_ro, pureV_rel rfl e5⟩
        · cases hv
      · cases hv
    · cases hv
  · cases hv
theorem rel_ok : KnownOk Tryz.prog kRel := by
  intro args h v hv ρ cargs w ha hS' n
  simp only [kRel, relK] at hv
  split at hv
  · rename_i c l w0
    obtain ⟨c1, cs1, q1, r1, ha⟩ := ha.uncons
    obtain ⟨c2, cs2, q2, r2, ha⟩ := ha.uncons
    obtain ⟨c3, cs3, q3, r3, ha⟩ := ha.uncons
    have q4 := ha.of_nil
    have hc : cargs.toList = [c1, c2, c3] := by rw [q1, q2, q3, q4]
    split at hv
    · rename_i b1 o1 n1 k1 _
      split at hv
      · rename_i hn
        unfold cfgK at hv
        split at hv
        · rename_i a1 a2 a3 a4 a5 a6 a7 a8 a9 a10 hcan
          cases hv
          obtain ⟨L, rs⟩ := slice_alone r2
          have hr : Rels (rE.with 1000 L) [cfgV a1 a2 a3 a4 a5 a6 a7 a8 a9 a10, .slice 1000 o1 n1 k1, .int .i64 w0] cargs.toList := by
            rw [hc]
            exact Rels.cons (canon_rel hcan r1) (Rels.cons rs (Rels.cons (pureS_rel rfl r3) Rels.nil))
          refine (call_w (sp := spLong) (N := 100) (mk_ok _).1 (mk_ok _).2 Gfr_x (kx_none _) (relL_fn _ _ _ _ _ _ _ _ _ _ _ _ _ _ (blt_t.1 hn)) hr (sim_S w L) n).mono fun e w' ⟨u, h', c, ρ', e1, e2, e3, e4, e5⟩ => ?_
          subst e1
          exact ⟨c, e2, e4.below hS_ro, pureV_rel rfl e5⟩
        · cases hv
      · cases hv
    · cases hv
  · cases hv
end Go.Proofs.YtepekoojmijoiaaGreatDoor

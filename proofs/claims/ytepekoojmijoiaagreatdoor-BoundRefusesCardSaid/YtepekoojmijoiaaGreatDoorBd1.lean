/- Sizes and bounds: what is known of Check, Mark and Bound. -/
import Derived.Test.YtepekoojmijoiaaGreatDoorTab
import Derived.Test.YtepekoojmijoiaaGreatDoorEvF
namespace Go.Proofs.YtepekoojmijoiaaGreatDoor
set_option maxRecDepth 100000
open Go.Ev Go.RowKit
/-- a size is allowed -/
def sizeOk (a b c d e f g : Int) : Prop := 1 ≤ a ∧ a ≤ 256 ∧ 1 ≤ b ∧ b ≤ 4 ∧ 1 ≤ c ∧ c ≤ 64 ∧ 1 ≤ d ∧ d ≤ 64 ∧ 1 ≤ e ∧ e ≤ 2000 ∧ 0 ≤ f ∧ f ≤ 2000 ∧ 1 ≤ g ∧ g ≤ 1048576
instance (a b c d e f g : Int) : Decidable (sizeOk a b c d e f g) := by unfold sizeOk; infer_instance
def checkF (a b c d e f g : Int) : Int := if sizeOk a b c d e f g then 0 else 2
def markF (a b c d e f g : Int) : Int := if sizeOk a b c d e f g then 3 * a + 4 else 0
def boundF (a b c d e f g : Int) : Int := if sizeOk a b c d e f g then (2 * (4 * a + 6) + 2 + (f + 1) * (Int.tdiv (256 + d - 1) d + 3)) * e else 0
abbrev sz (a b c d e f g : Int) : List V := [.agg 7 [.int .i64 a, .int .i64 b, .int .i64 c, .int .i64 d, .int .i64 e, .int .i64 f, .int .i64 g] .leaf]
noncomputable def spCheck : SpF where
  at' := fun f t => match Nat.beq f iCheck, t with | true, 36 => .both | true, 42 => .both | _, _ => .keep
theorem vCheck (a b c d e f g : Int) : (fnW G0 spCheck 100 iCheck (sz a b c d e f g) hE (fun v _ => v = .int .i64 (checkF a b c d e f g))) = (
(((ilt a (Int.ofNat 1)) = (true)) → (V.int IntKind.i64 (Int.ofNat 2)) = (V.int IntKind.i64 (checkF a b c d e f g))) ∧
(((ilt a (Int.ofNat 1)) = (false)) → (((ilt (Int.ofNat 256) a) = (true)) → (V.int IntKind.i64 (Int.ofNat 2)) = (V.int IntKind.i64 (checkF a b c d e f g))) ∧
 (((ilt (Int.ofNat 256) a) = (false)) → (((ilt b (Int.ofNat 1)) = (true)) → (V.int IntKind.i64 (Int.ofNat 2)) = (V.int IntKind.i64 (checkF a b c d e f g))) ∧
  (((ilt b (Int.ofNat 1)) = (false)) → (((ilt (Int.ofNat 4) b) = (true)) → (V.int IntKind.i64 (Int.ofNat 2)) = (V.int IntKind.i64 (checkF a b c d e f g))) ∧
   (((ilt (Int.ofNat 4) b) = (false)) → (((ilt c (Int.ofNat 1)) = (true)) → (V.int IntKind.i64 (Int.ofNat 2)) = (V.int IntKind.i64 (checkF a b c d e f g))) ∧
    (((ilt c (Int.ofNat 1)) = (false)) → (((ilt (Int.ofNat 64) c) = (true)) → (V.int IntKind.i64 (Int.ofNat 2)) = (V.int IntKind.i64 (checkF a b c d e f g))) ∧
     (((ilt (Int.ofNat 64) c) = (false)) → (((ilt d (Int.ofNat 1)) = (true)) → (V.int IntKind.i64 (Int.ofNat 2)) = (V.int IntKind.i64 (checkF a b c d e f g))) ∧
      (((ilt d (Int.ofNat 1)) = (false)) → (((ilt (Int.ofNat 64) d) = (true)) → (V.int IntKind.i64 (Int.ofNat 2)) = (V.int IntKind.i64 (checkF a b c d e f g))) ∧
       (((ilt (Int.ofNat 64) d) = (false)) → (((ilt e (Int.ofNat 1)) = (true)) → (V.int IntKind.i64 (Int.ofNat 2)) = (V.int IntKind.i64 (checkF a b c d e f g))) ∧
        (((ilt e (Int.ofNat 1)) = (false)) → (((ilt (Int.ofNat 2000) e) = (true)) → (V.int IntKind.i64 (Int.ofNat 2)) = (V.int IntKind.i64 (checkF a b c d e f g))) ∧
         (((ilt (Int.ofNat 2000) e) = (false)) → (((ilt f (Int.ofNat 0)) = (true)) → (V.int IntKind.i64 (Int.ofNat 2)) = (V.int IntKind.i64 (checkF a b c d e f g))) ∧
          (((ilt f (Int.ofNat 0)) = (false)) → (((ilt (Int.ofNat 2000) f) = (true)) → (V.int IntKind.i64 (Int.ofNat 2)) = (V.int IntKind.i64 (checkF a b c d e f g))) ∧
           (((ilt (Int.ofNat 2000) f) = (false)) → (((ilt g (Int.ofNat 1)) = (true)) → (V.int IntKind.i64 (Int.ofNat 2)) = (V.int IntKind.i64 (checkF a b c d e f g))) ∧
            (((ilt g (Int.ofNat 1)) = (false)) → (((ilt (Int.ofNat 1048576) g) = (true)) → (V.int IntKind.i64 (Int.ofNat 2)) = (V.int IntKind.i64 (checkF a b c d e f g))) ∧
             (((ilt (Int.ofNat 1048576) g) = (false)) → (V.int IntKind.i64 (Int.ofNat 0)) = (V.int IntKind.i64 (checkF a b c d e f g))))))))))))))))) := by kernel_rfl
theorem check_fn (a b c d e f g : Int) : fnW G0 spCheck 100 iCheck (sz a b c d e f g) hE (fun v _ => v = .int .i64 (checkF a b c d e f g)) := by
  rw [vCheck]
  repeat' (first | apply And.intro | intro)
  all_goals
    simp only [ilt_t, ilt_f, Int.ofNat_eq_natCast] at *
    refine congrArg (V.int .i64) ?_
    unfold checkF
    first
      | (rw [if_neg (by unfold sizeOk; omega)]; rfl)
      | (rw [if_pos (by unfold sizeOk; omega)]; rfl)
def checkK : List V → Option V
  | [.agg 7 [.int .i64 a, .int .i64 b, .int .i64 c, .int .i64 d, .int .i64 e, .int .i64 f, .int .i64 g] .leaf] => some (.int .i64 (checkF a b c d e f g))
  | _ => none
noncomputable def kCheck : Known := (iCheck, known checkK)
theorem check_ok : KnownOk Tryz.prog kCheck :=
  known_ok (sp := spCheck) (N := 100) (mk_ok _).1 (mk_ok _).2 ext_none (kx_none _) fun l v h => by
    unfold checkK at h
    split at h
    · cases h; exact ⟨rfl, check_fn ..⟩
    · cases h
noncomputable def G1 : Γ := mkG Tryz.prog eqs rows (extL [kCheck])
theorem ext1 : ExtOK Tryz.prog G1 := extL_ok (l := [kCheck]) (fun x hx => by
  simp only [List.mem_cons, List.not_mem_nil, or_false] at hx
  rcases hx with rfl
  exact check_ok) rfl
noncomputable def spMark : SpF where
  at' := fun f t => match Nat.beq f iMark, t with | true, 8 => .both | _, _ => .keep
noncomputable def spBound : SpF where
  at' := fun f t => match Nat.beq f iBound, t with | true, 10 => .both | _, _ => .keep
theorem vMark (a b c d e f g : Int) : (fnW G1 spMark 100 iMark (sz a b c d e f g) hE (fun v _ => v = .tuple [.int .i64 (markF a b c d e f g), .int .i64 (checkF a b c d e f g)])) = (
(((!ieq (checkF a b c d e f g) (Int.ofNat 0)) = (true)) → (V.tuple [V.int IntKind.i64 (Int.ofNat 0), V.int IntKind.i64 (checkF a b c d e f g)]) = (V.tuple [V.int IntKind.i64 (markF a b c d e f g), V.int IntKind.i64 (checkF a b c d e f g)])) ∧
(((!ieq (checkF a b c d e f g) (Int.ofNat 0)) = (false)) → (V.tuple
  [V.int IntKind.i64 (wr IntKind.i64 ((wr IntKind.i64 ((Int.ofNat 3).mul a)).add (Int.ofNat 4))),
    V.int IntKind.i64 (Int.ofNat 0)]) = (V.tuple [V.int IntKind.i64 (markF a b c d e f g), V.int IntKind.i64 (checkF a b c d e f g)]))) := by kernel_rfl
theorem vBound (a b c d e f g : Int) : (fnW G1 spBound 100 iBound (sz a b c d e f g) hE (fun v _ => v = .tuple [.int .i64 (boundF a b c d e f g), .int .i64 (checkF a b c d e f g)])) = (
(((!ieq (checkF a b c d e f g) (Int.ofNat 0)) = (true)) → (V.tuple [V.int IntKind.i64 (Int.ofNat 0), V.int IntKind.i64 (checkF a b c d e f g)]) = (V.tuple [V.int IntKind.i64 (boundF a b c d e f g), V.int IntKind.i64 (checkF a b c d e f g)])) ∧
(((!ieq (checkF a b c d e f g) (Int.ofNat 0)) = (false)) → ((ieq d (Int.ofNat 0)) = (false)) ∧
 ((((d) = (d)) ∧
   (((d) = (d)) ∧
    (((a) = (a)) ∧
     (True)))) ∧
  ((V.tuple
  [V.int IntKind.i64
      (wr IntKind.i64
        ((wr IntKind.i64
              ((wr IntKind.i64
                    ((wr IntKind.i64
                          ((Int.ofNat 2).mul
                            (wr IntKind.i64 ((wr IntKind.i64 ((Int.ofNat 4).mul a)).add (Int.ofNat 6))))).add
                      (Int.ofNat 2))).add
                (wr IntKind.i64
                  ((wr IntKind.i64 (f.add (Int.ofNat 1))).mul
                    (wr IntKind.i64
                      ((wr IntKind.i64
                            ((wr IntKind.i64 ((wr IntKind.i64 ((Int.ofNat 256).add d)).sub (Int.ofNat 1))).tdiv d)).add
                        (Int.ofNat 3))))))).mul
          e)),
    V.int IntKind.i64 (Int.ofNat 0)]) = (V.tuple [V.int IntKind.i64 (boundF a b c d e f g), V.int IntKind.i64 (checkF a b c d e f g)]))))) := by kernel_rfl
theorem mark_fn (a b c d e f g : Int) : fnW G1 spMark 100 iMark (sz a b c d e f g) hE (fun v _ => v = .tuple [.int .i64 (markF a b c d e f g), .int .i64 (checkF a b c d e f g)]) := by
  rw [vMark]
  by_cases hs : sizeOk a b c d e f g
  · have hc : checkF a b c d e f g = 0 := if_pos hs
    have hm : markF a b c d e f g = 3 * a + 4 := if_pos hs
    rw [hc, hm]
    obtain ⟨h1, h2, _⟩ := hs
    refine ⟨fun h => (nomatch h), fun _ => ?_⟩
    simp only [iofn, imul, iadd, Int.cast_ofNat_Int]
    rw [wr64 (n := 3 * a) (by omega) (by omega), wr64 (by omega) (by omega)]
  · have hc : checkF a b c d e f g = 2 := if_neg hs
    have hm : markF a b c d e f g = 0 := if_neg hs
    rw [hc, hm]
    exact ⟨fun _ => rfl, fun h => (nomatch h)⟩
theorem mul_bd {x y X Y : Int} (h0 : 0 ≤ x) (h1 : x ≤ X) (h2 : 0 ≤ y) (h3 : y ≤ Y) : 0 ≤ x * y ∧ x * y ≤ X * Y :=
  ⟨Int.mul_nonneg h0 h2, Int.mul_le_mul h1 h3 h2 (Int.le_trans h0 h1)⟩
theorem quo_bd {d : Int} (h0 : 1 ≤ d) (h1 : d ≤ 64) : 0 ≤ Int.tdiv (256 + d - 1) d ∧ Int.tdiv (256 + d - 1) d ≤ 319 := by
  refine ⟨Int.tdiv_nonneg (by omega) (by omega), ?_⟩
  rw [Int.tdiv_eq_ediv_of_nonneg (by omega)]
  exact Int.le_trans (Int.ediv_le_self _ (by omega)) (by omega)
theorem bound_fn (a b c d e f g : Int) : fnW G1 spBound 100 iBound (sz a b c d e f g) hE (fun v _ => v = .tuple [.int .i64 (boundF a b c d e f g), .int .i64 (checkF a b c d e f g)]) := by
  rw [vBound]
  by_cases hs : sizeOk a b c d e f g
  · have hc : checkF a b c d e f g = 0 := if_pos hs
    have hm : boundF a b c d e f g = (2 * (4 * a + 6) + 2 + (f + 1) * (Int.tdiv (256 + d - 1) d + 3)) * e := if_pos hs
    rw [hc, hm]
    obtain ⟨h1, h2, _, _, _, _, h3, h4, h5, h6, h7, h8, _⟩ := hs
    refine ⟨fun h => (nomatch h), fun _ => ⟨ieq_f.2 (by simp only [Int.ofNat_eq_natCast]; omega), ⟨rfl, rfl, rfl, trivial⟩, ?_⟩⟩
    simp only [iofn, imul, iadd, isub, Int.cast_ofNat_Int]
    obtain ⟨q1, q2⟩ := quo_bd h3 h4
    rw [wr64 (n := 4 * a) (by omega) (by omega), wr64 (n := 4 * a + 6) (by omega) (by omega), wr64 (n := 2 * (4 * a + 6)) (by omega) (by omega), wr64 (n := 2 * (4 * a + 6) + 2) (by omega) (by omega), wr64 (n := f + 1) (by omega) (by omega),
      wr64 (n := 256 + d) (by omega) (by omega), wr64 (n := 256 + d - 1) (by omega) (by omega), wr64 (n := Int.tdiv (256 + d - 1) d) (by omega) (by omega), wr64 (n := Int.tdiv (256 + d - 1) d + 3) (by omega) (by omega)]
    obtain ⟨p1, p2⟩ := mul_bd (x := f + 1) (y := Int.tdiv (256 + d - 1) d + 3) (X := 2001) (Y := 322) (by omega) (by omega) (by omega) (by omega)
    generalize (f + 1) * (Int.tdiv (256 + d - 1) d + 3) = p at p1 p2 ⊢
    rw [wr64 (n := p) (by omega) (by omega), wr64 (n := 2 * (4 * a + 6) + 2 + p) (by omega) (by omega)]
    obtain ⟨r1, r2⟩ := mul_bd (x := 2 * (4 * a + 6) + 2 + p) (y := e) (X := 1000000) (Y := 2000) (by omega) (by omega) (by omega) (by omega)
    rw [wr64 (by omega) (by omega)]
  · have hc : checkF a b c d e f g = 2 := if_neg hs
    have hm : boundF a b c d e f g = 0 := if_neg hs
    rw [hc, hm]
    exact ⟨fun _ => rfl, fun h => (nomatch h)⟩
def markK : List V → Option V
  | [.agg 7 [.int .i64 a, .int .i64 b, .int .i64 c, .int .i64 d, .int .i64 e, .int .i64 f, .int .i64 g] .leaf] => some (.tuple [.int .i64 (markF a b c d e f g), .int .i64 (checkF a b c d e f g)])
  | _ => none
def boundK : List V → Option V
  | [.agg 7 [.int .i64 a, .int .i64 b, .int .i64 c, .int .i64 d, .int .i64 e, .int .i64 f, .int .i64 g] .leaf] => some (.tuple [.int .i64 (boundF a b c d e f g), .int .i64 (checkF a b c d e f g)])
  | _ => none
noncomputable def kMark : Known := (iMark, known markK)
noncomputable def kBound : Known := (iBound, known boundK)
theorem mark_ok : KnownOk Tryz.prog kMark :=
  known_ok (sp := spMark) (N := 100) (mk_ok _).1 (mk_ok _).2 ext1 (kx_none _) fun l v h => by
    unfold markK at h
    split at h
    · cases h; exact ⟨rfl, mark_fn ..⟩
    · cases h
theorem bound_ok : KnownOk Tryz.prog kBound :=
  known_ok (sp := spBound) (N := 100) (mk_ok _).1 (mk_ok _).2 ext1 (kx_none _) fun l v h => by
    unfold boundK at h
    split at h
    · cases h; exact ⟨rfl, bound_fn ..⟩
    · cases h
end Go.Proofs.YtepekoojmijoiaaGreatDoor

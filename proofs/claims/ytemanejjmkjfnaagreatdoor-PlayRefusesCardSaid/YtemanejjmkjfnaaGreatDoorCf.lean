/- A configuration by numbers: what is known of Conf. -/
import Derived.Test.YtemanejjmkjfnaaGreatDoorMc2
namespace Go.Proofs.YtemanejjmkjfnaaGreatDoor
set_option maxRecDepth 100000
open Go.Ev Go.RowKit
abbrev n8 (a b c d e f g i : Int) : V := .agg 8 [.int .u8 a, .int .u8 b, .int .u8 c, .int .u8 d, .int .u8 e, .int .u8 f, .int .u8 g, .int .u8 i] .leaf
abbrev cfgV (a b c d e f g h i j : Int) : V := .agg 10 [.int .i64 a, .int .i64 b, .int .i64 c, .int .i64 d, .int .i64 e, .int .i64 f, .int .i64 g, .int .i64 h, .int .i64 i, .int .u32 j] .leaf
def u8r (a : Int) : Prop := 0 ≤ a ∧ a ≤ 255
/-- one more than what is left behind a division -/
def up (x : Int) (n : Nat) : Int := wr .i64 (Int.add (Int.ofNat 1) (wr .i64 (Int.tmod x (Int.ofNat n))))
def capF (g i : Int) : Int := wr .i64 (Int.add (up g 5) (wr .i64 (Int.tmod i (Int.ofNat 20))))
def firstF (i : Int) : Int := match ieq (Int.tmod (wr .u8 (Int.tdiv i (Int.ofNat 20))) (Int.ofNat 4)) (Int.ofNat 3) with
  | true => wr .u32 (Int.sub (Int.ofNat 4294967295) (wr .u32 (wr .u8 (Int.tdiv i (Int.ofNat 80)))))
  | false => Int.ofNat 1
abbrev confV (a b c d e f g i : Int) : V := cfgV (up a 12) (up b 2) (up c 4) (up d 4) (up e 4) (up f 6) (up (wr .u8 (Int.tdiv f (Int.ofNat 6))) 3) (up g 5) (capF g i) (firstF i)
noncomputable def spConf : SpF where
  at' := fun f t => match Nat.beq f iConf, t with | true, 58 => .both | _, _ => .keep
theorem vConf (a b c d e f g i : Int) : (fnW G0 spConf 100 iConf [n8 a b c d e f g i] hE (fun v _ => canonV v = some (confV a b c d e f g i))) = (
((false) = (false)) ∧
(((false) = (false)) ∧
 (((false) = (false)) ∧
  (((false) = (false)) ∧
   (((false) = (false)) ∧
    (((false) = (false)) ∧
     (((false) = (false)) ∧
      (((false) = (false)) ∧
       (((false) = (false)) ∧
        (((false) = (false)) ∧
         (((false) = (false)) ∧
          (((false) = (false)) ∧
           ((((ieq ((wr IntKind.u8 (i.tdiv (Int.ofNat 20))).tmod (Int.ofNat 4)) (Int.ofNat 3)) = (true)) → ((false) = (false)) ∧
             ((some
  (V.agg 10
    [V.int IntKind.i64 (wr IntKind.i64 ((Int.ofNat 1).add (wr IntKind.i64 (a.tmod (Int.ofNat 12))))),
      V.int IntKind.i64 (wr IntKind.i64 ((Int.ofNat 1).add (wr IntKind.i64 (b.tmod (Int.ofNat 2))))),
      V.int IntKind.i64 (wr IntKind.i64 ((Int.ofNat 1).add (wr IntKind.i64 (c.tmod (Int.ofNat 4))))),
      V.int IntKind.i64 (wr IntKind.i64 ((Int.ofNat 1).add (wr IntKind.i64 (d.tmod (Int.ofNat 4))))),
      V.int IntKind.i64 (wr IntKind.i64 ((Int.ofNat 1).add (wr IntKind.i64 (e.tmod (Int.ofNat 4))))),
      V.int IntKind.i64 (wr IntKind.i64 ((Int.ofNat 1).add (wr IntKind.i64 (f.tmod (Int.ofNat 6))))),
      V.int IntKind.i64
        (wr IntKind.i64
          ((Int.ofNat 1).add (wr IntKind.i64 ((wr IntKind.u8 (f.tdiv (Int.ofNat 6))).tmod (Int.ofNat 3))))),
      V.int IntKind.i64 (wr IntKind.i64 ((Int.ofNat 1).add (wr IntKind.i64 (g.tmod (Int.ofNat 5))))),
      V.int IntKind.i64
        (wr IntKind.i64
          ((wr IntKind.i64 ((Int.ofNat 1).add (wr IntKind.i64 (g.tmod (Int.ofNat 5))))).add
            (wr IntKind.i64 (i.tmod (Int.ofNat 20))))),
      V.int IntKind.u32
        (wr IntKind.u32 ((Int.ofNat 4294967295).sub (wr IntKind.u32 (wr IntKind.u8 (i.tdiv (Int.ofNat 80))))))]
    T.leaf)) = (some
  (V.agg 10
    [V.int IntKind.i64 (up a 12), V.int IntKind.i64 (up b 2), V.int IntKind.i64 (up c 4), V.int IntKind.i64 (up d 4),
      V.int IntKind.i64 (up e 4), V.int IntKind.i64 (up f 6),
      V.int IntKind.i64 (up (wr IntKind.u8 (f.tdiv (Int.ofNat 6))) 3), V.int IntKind.i64 (up g 5),
      V.int IntKind.i64 (capF g i), V.int IntKind.u32 (firstF i)]
    T.leaf)))) ∧
            (((ieq ((wr IntKind.u8 (i.tdiv (Int.ofNat 20))).tmod (Int.ofNat 4)) (Int.ofNat 3)) = (false)) → (some
  (V.agg 10
    [V.int IntKind.i64 (wr IntKind.i64 ((Int.ofNat 1).add (wr IntKind.i64 (a.tmod (Int.ofNat 12))))),
      V.int IntKind.i64 (wr IntKind.i64 ((Int.ofNat 1).add (wr IntKind.i64 (b.tmod (Int.ofNat 2))))),
      V.int IntKind.i64 (wr IntKind.i64 ((Int.ofNat 1).add (wr IntKind.i64 (c.tmod (Int.ofNat 4))))),
      V.int IntKind.i64 (wr IntKind.i64 ((Int.ofNat 1).add (wr IntKind.i64 (d.tmod (Int.ofNat 4))))),
      V.int IntKind.i64 (wr IntKind.i64 ((Int.ofNat 1).add (wr IntKind.i64 (e.tmod (Int.ofNat 4))))),
      V.int IntKind.i64 (wr IntKind.i64 ((Int.ofNat 1).add (wr IntKind.i64 (f.tmod (Int.ofNat 6))))),
      V.int IntKind.i64
        (wr IntKind.i64
          ((Int.ofNat 1).add (wr IntKind.i64 ((wr IntKind.u8 (f.tdiv (Int.ofNat 6))).tmod (Int.ofNat 3))))),
      V.int IntKind.i64 (wr IntKind.i64 ((Int.ofNat 1).add (wr IntKind.i64 (g.tmod (Int.ofNat 5))))),
      V.int IntKind.i64
        (wr IntKind.i64
          ((wr IntKind.i64 ((Int.ofNat 1).add (wr IntKind.i64 (g.tmod (Int.ofNat 5))))).add
            (wr IntKind.i64 (i.tmod (Int.ofNat 20))))),
      V.int IntKind.u32 (Int.ofNat 1)]
    T.leaf)) = (some
  (V.agg 10
    [V.int IntKind.i64 (up a 12), V.int IntKind.i64 (up b 2), V.int IntKind.i64 (up c 4), V.int IntKind.i64 (up d 4),
      V.int IntKind.i64 (up e 4), V.int IntKind.i64 (up f 6),
      V.int IntKind.i64 (up (wr IntKind.u8 (f.tdiv (Int.ofNat 6))) 3), V.int IntKind.i64 (up g 5),
      V.int IntKind.i64 (capF g i), V.int IntKind.u32 (firstF i)]
    T.leaf)))))))))))))))) := by kernel_rfl
theorem conf_fn (a b c d e f g i : Int) : fnW G0 spConf 100 iConf [n8 a b c d e f g i] hE (fun v _ => canonV v = some (confV a b c d e f g i)) := by
  rw [vConf]
  repeat' (first | exact rfl | exact trivial | apply And.intro | intro)
  all_goals (unfold firstF; rename_i h; rw [h]; rfl)
def confK : List V → Option V
  | [.agg 8 [.int .u8 a, .int .u8 b, .int .u8 c, .int .u8 d, .int .u8 e, .int .u8 f, .int .u8 g, .int .u8 i] .leaf] => some (confV a b c d e f g i)
  | _ => none
noncomputable def kConf : Known := (iConf, known confK)
theorem conf_ok : KnownOk Tryz.prog kConf :=
  known_ok2 (sp := spConf) (N := 100) (mk_ok _).1 (mk_ok _).2 ext_none (kx_none _) fun l v h => by
    unfold confK at h
    split at h
    · cases h; exact conf_fn ..
    · cases h
def cfgOk (a b c d e f g h i j : Int) : Prop := 1 ≤ a ∧ a ≤ 256 ∧ 1 ≤ b ∧ b ≤ 4 ∧ 1 ≤ c ∧ c ≤ 64 ∧ 1 ≤ d ∧ d ≤ 64 ∧ 1 ≤ e ∧ e ≤ 64 ∧ 1 ≤ f ∧ f ≤ 256 ∧ 1 ≤ g ∧ g ≤ 64 ∧ 1 ≤ h ∧ h ≤ i ∧ i ≤ 1048576 ∧ 1 ≤ j ∧ j ≤ 4294967295
instance (a b c d e f g h i j : Int) : Decidable (cfgOk a b c d e f g h i j) := by unfold cfgOk; infer_instance
theorem up_eq {x : Int} {n : Nat} (h0 : 0 ≤ x) (hn : 0 < n) (hn2 : n < 100000) : ∃ y : Int, up x n = 1 + y ∧ 0 ≤ y ∧ y < n := by
  refine ⟨x % n, ?_, Int.emod_nonneg _ (by omega), Int.emod_lt_of_pos _ (by omega)⟩
  have h1 := Int.emod_nonneg x (show (n : Int) ≠ 0 by omega)
  have h2 := Int.emod_lt_of_pos x (show (0 : Int) < n by omega)
  unfold up
  rw [iofn, iofn, Int.tmod_eq_emod_of_nonneg h0, wr64 (n := x % n) (by omega) (by omega), iadd, wr64 (by omega) (by omega)]
  rfl
theorem cap_eq {g i : Int} (hg : 0 ≤ g) (hi : 0 ≤ i) : ∃ z : Int, capF g i = up g 5 + z ∧ 0 ≤ z ∧ z < 20 := by
  obtain ⟨y, e1, e2, e3⟩ := up_eq (n := 5) hg (by omega) (by omega)
  refine ⟨i % 20, ?_, by omega, by omega⟩
  unfold capF
  rw [iofn, Int.tmod_eq_emod_of_nonneg hi, show ((20 : Nat) : Int) = 20 from rfl, wr64 (n := i % 20) (by omega) (by omega), iadd, wr64 (by omega) (by omega)]
theorem first_in {i : Int} (h0 : 0 ≤ i) (h1 : i ≤ 255) : 1 ≤ firstF i ∧ firstF i ≤ 4294967295 := by
  unfold firstF
  split
  · rw [iofn, iofn, Int.tdiv_eq_ediv_of_nonneg h0, show ((80 : Nat) : Int) = 80 from rfl, wr8 (n := i / 80) (by omega) (by omega), wr32 (n := i / 80) (by omega) (by omega), isub, wr32 (by omega) (by omega)]
    omega
  · rw [iofn]; omega
theorem conf_in {a b c d e f g i : Int} (h : u8r a ∧ u8r b ∧ u8r c ∧ u8r d ∧ u8r e ∧ u8r f ∧ u8r g ∧ u8r i) : cfgOk (up a 12) (up b 2) (up c 4) (up d 4) (up e 4) (up f 6) (up (wr .u8 (Int.tdiv f (Int.ofNat 6))) 3) (up g 5) (capF g i) (firstF i) := by
  unfold u8r at h
  obtain ⟨y1, p1, p2, p3⟩ := up_eq (x := a) (n := 12) (by omega) (by omega) (by omega)
  obtain ⟨y2, q1, q2, q3⟩ := up_eq (x := b) (n := 2) (by omega) (by omega) (by omega)
  obtain ⟨y3, r1, r2, r3⟩ := up_eq (x := c) (n := 4) (by omega) (by omega) (by omega)
  obtain ⟨y4, s1, s2, s3⟩ := up_eq (x := d) (n := 4) (by omega) (by omega) (by omega)
  obtain ⟨y5, t1, t2, t3⟩ := up_eq (x := e) (n := 4) (by omega) (by omega) (by omega)
  obtain ⟨y6, u1, u2, u3⟩ := up_eq (x := f) (n := 6) (by omega) (by omega) (by omega)
  obtain ⟨y7, v1, v2, v3⟩ := up_eq (x := wr .u8 (Int.tdiv f (Int.ofNat 6))) (n := 3) (by rw [iofn, Int.tdiv_eq_ediv_of_nonneg (by omega), show ((6 : Nat) : Int) = 6 from rfl, wr8 (by omega) (by omega)]; omega) (by omega) (by omega)
  obtain ⟨y8, w1, w2, w3⟩ := up_eq (x := g) (n := 5) (by omega) (by omega) (by omega)
  obtain ⟨y9, x1, x2, x3⟩ := cap_eq (g := g) (i := i) (by omega) (by omega)
  have := first_in (i := i) (by omega) (by omega)
  unfold cfgOk
  omega
end Go.Proofs.YtemanejjmkjfnaaGreatDoor

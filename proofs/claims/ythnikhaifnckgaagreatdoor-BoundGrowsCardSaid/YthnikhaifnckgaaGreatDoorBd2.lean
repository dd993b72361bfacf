/- BoundGrows, as the evaluator sees it. -/
import Derived.Test.YthnikhaifnckgaaGreatDoorWk
import Derived.Test.YthnikhaifnckgaaGreatDoorBd1
namespace Go.Proofs.YthnikhaifnckgaaGreatDoor
set_option maxRecDepth 100000
open Go.Ev Go.RowKit
abbrev u7 (a b c d e f g : Int) : V := .agg 7 [.int .u16 a, .int .u16 b, .int .u16 c, .int .u16 d, .int .u16 e, .int .u16 f, .int .u16 g] .leaf
/-- one more than what is left behind a division -/
def up (x : Int) (n : Nat) : Int := wr .i64 (Int.add (Int.ofNat 1) (wr .i64 (Int.tmod x (Int.ofNat n))))
def up0 (x : Int) (n : Nat) : Int := wr .i64 (Int.tmod x (Int.ofNat n))
def up1 (x : Int) : Int := wr .i64 (Int.add (Int.ofNat 1) (wr .i64 x))
theorem vSize (a b c d e f g : Int) : (fnW G0 ⟨fun _ _ => .keep, fun _ _ _ => .none, fun _ => false⟩ 100 iSize [u7 a b c d e f g] hE (fun v _ => canonV v = some (.agg 7 [.int .i64 (up a 256), .int .i64 (up b 4), .int .i64 (up c 64), .int .i64 (up d 64), .int .i64 (up e 2000), .int .i64 (up0 f 2001), .int .i64 (up1 g)] .leaf))) = (
((false) = (false)) ∧
(((false) = (false)) ∧
 (((false) = (false)) ∧
  (((false) = (false)) ∧
   (((false) = (false)) ∧
    (((false) = (false)) ∧
     ((some
  (V.agg 7
    [V.int IntKind.i64 (wr IntKind.i64 ((Int.ofNat 1).add (wr IntKind.i64 (a.tmod (Int.ofNat 256))))),
      V.int IntKind.i64 (wr IntKind.i64 ((Int.ofNat 1).add (wr IntKind.i64 (b.tmod (Int.ofNat 4))))),
      V.int IntKind.i64 (wr IntKind.i64 ((Int.ofNat 1).add (wr IntKind.i64 (c.tmod (Int.ofNat 64))))),
      V.int IntKind.i64 (wr IntKind.i64 ((Int.ofNat 1).add (wr IntKind.i64 (d.tmod (Int.ofNat 64))))),
      V.int IntKind.i64 (wr IntKind.i64 ((Int.ofNat 1).add (wr IntKind.i64 (e.tmod (Int.ofNat 2000))))),
      V.int IntKind.i64 (wr IntKind.i64 (f.tmod (Int.ofNat 2001))),
      V.int IntKind.i64 (wr IntKind.i64 ((Int.ofNat 1).add (wr IntKind.i64 g)))]
    T.leaf)) = (some
  (V.agg 7
    [V.int IntKind.i64 (up a 256), V.int IntKind.i64 (up b 4), V.int IntKind.i64 (up c 64), V.int IntKind.i64 (up d 64),
      V.int IntKind.i64 (up e 2000), V.int IntKind.i64 (up0 f 2001), V.int IntKind.i64 (up1 g)]
    T.leaf))))))))) := by kernel_rfl
theorem size_fn (a b c d e f g : Int) : fnW G0 ⟨fun _ _ => .keep, fun _ _ _ => .none, fun _ => false⟩ 100 iSize [u7 a b c d e f g] hE (fun v _ => canonV v = some (.agg 7 [.int .i64 (up a 256), .int .i64 (up b 4), .int .i64 (up c 64), .int .i64 (up d 64), .int .i64 (up e 2000), .int .i64 (up0 f 2001), .int .i64 (up1 g)] .leaf)) := by
  rw [vSize]
  repeat' (first | exact rfl | exact trivial | apply And.intro)
def sizeK : List V → Option V
  | [.agg 7 [.int .u16 a, .int .u16 b, .int .u16 c, .int .u16 d, .int .u16 e, .int .u16 f, .int .u16 g] .leaf] => some (.agg 7 [.int .i64 (up a 256), .int .i64 (up b 4), .int .i64 (up c 64), .int .i64 (up d 64), .int .i64 (up e 2000), .int .i64 (up0 f 2001), .int .i64 (up1 g)] .leaf)
  | _ => none
noncomputable def kSize : Known := (iSize, known sizeK)
theorem size_ok : KnownOk Tryz.prog kSize :=
  known_ok2 (sp := ⟨fun _ _ => .keep, fun _ _ _ => .none, fun _ => false⟩) (N := 100) (mk_ok _).1 (mk_ok _).2 ext_none (kx_none _) fun l v h => by
    unfold sizeK at h
    split at h
    · cases h; exact size_fn ..
    · cases h
noncomputable def G2 : Γ := mkG Tryz.prog eqs rows (extL [kCheck, kMark, kBound, kSize, kWorks])
theorem ext2 : ExtOK Tryz.prog G2 := extL_ok (l := [kCheck, kMark, kBound, kSize, kWorks]) (fun x hx => by
  simp only [List.mem_cons, List.not_mem_nil, or_false] at hx
  rcases hx with rfl | rfl | rfl | rfl | rfl
  · exact check_ok
  · exact mark_ok
  · exact bound_ok
  · exact size_ok
  · exact kWorks_ok) rfl
noncomputable def spGrows : SpF where
  at' := fun f t => match Nat.beq f iGrows, t with | true, 78 => .both | true, 81 => .both | true, 86 => .both | true, 90 => .both | true, 96 => .both | true, 109 => .both | true, 115 => .both | true, 122 => .both | true, 129 => .both | _, _ => .keep
theorem vGrows (a b c d e f g a' b' c' d' e' f' g' : Int) : (fnW G2 spGrows 100 iGrows [u7 a b c d e f g, u7 a' b' c' d' e' f' g'] (hLet letters 1000) (fun v _ => v = .bool true)) = (
(((True) ∧
  ((True) ∧
   ((True) ∧
    ((((a') = (a')) ∧
      (((b') = (b')) ∧
       (((c') = (c')) ∧
        (((d') = (d')) ∧
         (((e') = (e')) ∧
          (((f') = (f')) ∧
           (((g') = (g')) ∧
            (True)))))))) ∧
     (((a') = (a')) ∧
      (((b') = (b')) ∧
       (((c') = (c')) ∧
        (((d') = (d')) ∧
         (((e') = (e')) ∧
          (((f') = (f')) ∧
           (((g') = (g')) ∧
            (True)))))))))))) ∧
 (((True) ∧
   ((True) ∧
    ((True) ∧
     ((True) ∧
      (((a) = (a)) ∧
       (((b) = (b)) ∧
        (((c) = (c)) ∧
         (((d) = (d)) ∧
          (((e) = (e)) ∧
           (((f) = (f)) ∧
            (((g) = (g)) ∧
             (True)))))))))))) ∧
  (True))) ∧
((((True) ∧
   ((((up a 256) = (up a 256)) ∧
     (((up b 4) = (up b 4)) ∧
      (((up c 64) = (up c 64)) ∧
       (((up d 64) = (up d 64)) ∧
        (((up e 2000) = (up e 2000)) ∧
         (((up0 f 2001) = (up0 f 2001)) ∧
          (((up1 g) = (up1 g)) ∧
           (True)))))))) ∧
    (((up a 256) = (up a 256)) ∧
     (((up b 4) = (up b 4)) ∧
      (((up c 64) = (up c 64)) ∧
       (((up d 64) = (up d 64)) ∧
        (((up e 2000) = (up e 2000)) ∧
         (((up0 f 2001) = (up0 f 2001)) ∧
          (((up1 g) = (up1 g)) ∧
           (True)))))))))) ∧
  (((True) ∧
    ((True) ∧
     (((up a 256) = (up a 256)) ∧
      (((up b 4) = (up b 4)) ∧
       (((up c 64) = (up c 64)) ∧
        (((up d 64) = (up d 64)) ∧
         (((up e 2000) = (up e 2000)) ∧
          (((up0 f 2001) = (up0 f 2001)) ∧
           (((up1 g) = (up1 g)) ∧
            (True)))))))))) ∧
   (True))) ∧
 ((((True) ∧
    (((up d' 64) = (up d' 64)) ∧
     (((up d' 64) = (up d' 64)) ∧
      (((up d' 64) = (up d' 64)) ∧
       ((up d' 64) = (up d' 64)))))) ∧
   (((True) ∧
     (((up d 64) = (up d 64)) ∧
      (((up d 64) = (up d 64)) ∧
       (((up d 64) = (up d 64)) ∧
        ((up d 64) = (up d 64)))))) ∧
    (((True) ∧
      ((True) ∧
       (((up0 f' 2001) = (up0 f' 2001)) ∧
        (((up0 f' 2001) = (up0 f' 2001)) ∧
         ((up0 f' 2001) = (up0 f' 2001)))))) ∧
     (((True) ∧
       ((True) ∧
        (((up0 f 2001) = (up0 f 2001)) ∧
         (((up0 f 2001) = (up0 f 2001)) ∧
          ((up0 f 2001) = (up0 f 2001)))))) ∧
      (((True) ∧
        ((True) ∧
         ((True) ∧
          (((up e' 2000) = (up e' 2000)) ∧
           ((up e' 2000) = (up e' 2000)))))) ∧
       (((True) ∧
         ((True) ∧
          ((True) ∧
           (((up e 2000) = (up e 2000)) ∧
            ((up e 2000) = (up e 2000)))))) ∧
        (((True) ∧
          ((True) ∧
           ((True) ∧
            ((True) ∧
             ((up a' 256) = (up a' 256)))))) ∧
         (((True) ∧
           ((True) ∧
            ((True) ∧
             ((True) ∧
              ((up a 256) = (up a 256)))))) ∧
          (True))))))))) ∧
  ((((True) ∧
     (((up1 g') = (up1 g')) ∧
      (((up1 g') = (up1 g')) ∧
       ((up1 g') = (up1 g'))))) ∧
    (((True) ∧
      ((True) ∧
       (((up c' 64) = (up c' 64)) ∧
        ((up c' 64) = (up c' 64))))) ∧
     (((True) ∧
       ((True) ∧
        ((True) ∧
         ((up b' 4) = (up b' 4))))) ∧
      (True)))) ∧
   ((((!ieq (checkF (up a 256) (up b 4) (up c 64) (up d 64) (up e 2000) (up0 f 2001) (up1 g)) (Int.ofNat 0)) = (true)) → (V.bool false) = (V.bool true)) ∧
    (((!ieq (checkF (up a 256) (up b 4) (up c 64) (up d 64) (up e 2000) (up0 f 2001) (up1 g)) (Int.ofNat 0)) = (false)) → (((!ieq (checkF (up a 256) (up b 4) (up c 64) (up d 64) (up e 2000) (up0 f 2001) (up1 g)) (Int.ofNat 0)) = (true)) → (V.bool false) = (V.bool true)) ∧
     (((!ieq (checkF (up a 256) (up b 4) (up c 64) (up d 64) (up e 2000) (up0 f 2001) (up1 g)) (Int.ofNat 0)) = (false)) → (((!ieq (checkF (up a 256) (up b 4) (up c 64) (up d 64) (up e 2000) (up0 f 2001) (up1 g)) (Int.ofNat 0)) = (true)) → (V.bool false) = (V.bool true)) ∧
      (((!ieq (checkF (up a 256) (up b 4) (up c 64) (up d 64) (up e 2000) (up0 f 2001) (up1 g)) (Int.ofNat 0)) = (false)) → (((ilt (markF (up a 256) (up b 4) (up c 64) (up d 64) (up e 2000) (up0 f 2001) (up1 g)) (Int.ofNat 1)) = (true)) → (V.bool false) = (V.bool true)) ∧
       (((ilt (markF (up a 256) (up b 4) (up c 64) (up d 64) (up e 2000) (up0 f 2001) (up1 g)) (Int.ofNat 1)) = (false)) → (((ilt (boundF (up a 256) (up b 4) (up c 64) (up d 64) (up e 2000) (up0 f 2001) (up1 g)) (up e 2000)) = (true)) → (V.bool false) = (V.bool true)) ∧
        (((ilt (boundF (up a 256) (up b 4) (up c 64) (up d 64) (up e 2000) (up0 f 2001) (up1 g)) (up e 2000)) = (false)) → (((!ieq
    (checkF
      (match ilt (up a 256) (up a' 256) with
      | true => up a' 256
      | false => up a 256)
      (up b 4) (up c 64)
      (match ilt (up d' 64) (up d 64) with
      | true => up d' 64
      | false => up d 64)
      (match ilt (up e 2000) (up e' 2000) with
      | true => up e' 2000
      | false => up e 2000)
      (match ilt (up0 f 2001) (up0 f' 2001) with
      | true => up0 f' 2001
      | false => up0 f 2001)
      (up1 g))
    (Int.ofNat 0)) = (true)) → (V.bool false) = (V.bool true)) ∧
         (((!ieq
    (checkF
      (match ilt (up a 256) (up a' 256) with
      | true => up a' 256
      | false => up a 256)
      (up b 4) (up c 64)
      (match ilt (up d' 64) (up d 64) with
      | true => up d' 64
      | false => up d 64)
      (match ilt (up e 2000) (up e' 2000) with
      | true => up e' 2000
      | false => up e 2000)
      (match ilt (up0 f 2001) (up0 f' 2001) with
      | true => up0 f' 2001
      | false => up0 f 2001)
      (up1 g))
    (Int.ofNat 0)) = (false)) → (((!ieq
    (checkF
      (match ilt (up a 256) (up a' 256) with
      | true => up a' 256
      | false => up a 256)
      (up b 4) (up c 64)
      (match ilt (up d' 64) (up d 64) with
      | true => up d' 64
      | false => up d 64)
      (match ilt (up e 2000) (up e' 2000) with
      | true => up e' 2000
      | false => up e 2000)
      (match ilt (up0 f 2001) (up0 f' 2001) with
      | true => up0 f' 2001
      | false => up0 f 2001)
      (up1 g))
    (Int.ofNat 0)) = (true)) → (V.bool false) = (V.bool true)) ∧
          (((!ieq
    (checkF
      (match ilt (up a 256) (up a' 256) with
      | true => up a' 256
      | false => up a 256)
      (up b 4) (up c 64)
      (match ilt (up d' 64) (up d 64) with
      | true => up d' 64
      | false => up d 64)
      (match ilt (up e 2000) (up e' 2000) with
      | true => up e' 2000
      | false => up e 2000)
      (match ilt (up0 f 2001) (up0 f' 2001) with
      | true => up0 f' 2001
      | false => up0 f 2001)
      (up1 g))
    (Int.ofNat 0)) = (false)) → (((!ieq
    (checkF
      (match ilt (up a 256) (up a' 256) with
      | true => up a' 256
      | false => up a 256)
      (up b 4) (up c 64)
      (match ilt (up d' 64) (up d 64) with
      | true => up d' 64
      | false => up d 64)
      (match ilt (up e 2000) (up e' 2000) with
      | true => up e' 2000
      | false => up e 2000)
      (match ilt (up0 f 2001) (up0 f' 2001) with
      | true => up0 f' 2001
      | false => up0 f 2001)
      (up1 g))
    (Int.ofNat 0)) = (true)) → (V.bool false) = (V.bool true)) ∧
           (((!ieq
    (checkF
      (match ilt (up a 256) (up a' 256) with
      | true => up a' 256
      | false => up a 256)
      (up b 4) (up c 64)
      (match ilt (up d' 64) (up d 64) with
      | true => up d' 64
      | false => up d 64)
      (match ilt (up e 2000) (up e' 2000) with
      | true => up e' 2000
      | false => up e 2000)
      (match ilt (up0 f 2001) (up0 f' 2001) with
      | true => up0 f' 2001
      | false => up0 f 2001)
      (up1 g))
    (Int.ofNat 0)) = (false)) → (((ilt
  (markF
    (match ilt (up a 256) (up a' 256) with
    | true => up a' 256
    | false => up a 256)
    (up b 4) (up c 64)
    (match ilt (up d' 64) (up d 64) with
    | true => up d' 64
    | false => up d 64)
    (match ilt (up e 2000) (up e' 2000) with
    | true => up e' 2000
    | false => up e 2000)
    (match ilt (up0 f 2001) (up0 f' 2001) with
    | true => up0 f' 2001
    | false => up0 f 2001)
    (up1 g))
  (Int.ofNat 1)) = (true)) → (V.bool false) = (V.bool true)) ∧
            (((ilt
  (markF
    (match ilt (up a 256) (up a' 256) with
    | true => up a' 256
    | false => up a 256)
    (up b 4) (up c 64)
    (match ilt (up d' 64) (up d 64) with
    | true => up d' 64
    | false => up d 64)
    (match ilt (up e 2000) (up e' 2000) with
    | true => up e' 2000
    | false => up e 2000)
    (match ilt (up0 f 2001) (up0 f' 2001) with
    | true => up0 f' 2001
    | false => up0 f 2001)
    (up1 g))
  (Int.ofNat 1)) = (false)) → (((ilt
  (boundF
    (match ilt (up a 256) (up a' 256) with
    | true => up a' 256
    | false => up a 256)
    (up b 4) (up c 64)
    (match ilt (up d' 64) (up d 64) with
    | true => up d' 64
    | false => up d 64)
    (match ilt (up e 2000) (up e' 2000) with
    | true => up e' 2000
    | false => up e 2000)
    (match ilt (up0 f 2001) (up0 f' 2001) with
    | true => up0 f' 2001
    | false => up0 f 2001)
    (up1 g))
  (match ilt (up e 2000) (up e' 2000) with
  | true => up e' 2000
  | false => up e 2000)) = (true)) → (V.bool false) = (V.bool true)) ∧
             (((ilt
  (boundF
    (match ilt (up a 256) (up a' 256) with
    | true => up a' 256
    | false => up a 256)
    (up b 4) (up c 64)
    (match ilt (up d' 64) (up d 64) with
    | true => up d' 64
    | false => up d 64)
    (match ilt (up e 2000) (up e' 2000) with
    | true => up e' 2000
    | false => up e 2000)
    (match ilt (up0 f 2001) (up0 f' 2001) with
    | true => up0 f' 2001
    | false => up0 f 2001)
    (up1 g))
  (match ilt (up e 2000) (up e' 2000) with
  | true => up e' 2000
  | false => up e 2000)) = (false)) → (((!ieq (checkF (up a 256) (up b' 4) (up c' 64) (up d 64) (up e 2000) (up0 f 2001) (up1 g')) (Int.ofNat 0)) = (true)) → (V.bool false) = (V.bool true)) ∧
              (((!ieq (checkF (up a 256) (up b' 4) (up c' 64) (up d 64) (up e 2000) (up0 f 2001) (up1 g')) (Int.ofNat 0)) = (false)) → (((!ieq (checkF (up a 256) (up b' 4) (up c' 64) (up d 64) (up e 2000) (up0 f 2001) (up1 g')) (Int.ofNat 0)) = (true)) → (V.bool false) = (V.bool true)) ∧
               (((!ieq (checkF (up a 256) (up b' 4) (up c' 64) (up d 64) (up e 2000) (up0 f 2001) (up1 g')) (Int.ofNat 0)) = (false)) → (((!ieq (checkF (up a 256) (up b' 4) (up c' 64) (up d 64) (up e 2000) (up0 f 2001) (up1 g')) (Int.ofNat 0)) = (true)) → (V.bool false) = (V.bool true)) ∧
                (((!ieq (checkF (up a 256) (up b' 4) (up c' 64) (up d 64) (up e 2000) (up0 f 2001) (up1 g')) (Int.ofNat 0)) = (false)) → (((ilt (markF (up a 256) (up b' 4) (up c' 64) (up d 64) (up e 2000) (up0 f 2001) (up1 g')) (Int.ofNat 1)) = (true)) → (V.bool false) = (V.bool true)) ∧
                 (((ilt (markF (up a 256) (up b' 4) (up c' 64) (up d 64) (up e 2000) (up0 f 2001) (up1 g')) (Int.ofNat 1)) = (false)) → (((ilt (boundF (up a 256) (up b' 4) (up c' 64) (up d 64) (up e 2000) (up0 f 2001) (up1 g')) (up e 2000)) = (true)) → (V.bool false) = (V.bool true)) ∧
                  (((ilt (boundF (up a 256) (up b' 4) (up c' 64) (up d 64) (up e 2000) (up0 f 2001) (up1 g')) (up e 2000)) = (false)) → (((!ilt
    (markF
      (match ilt (up a 256) (up a' 256) with
      | true => up a' 256
      | false => up a 256)
      (up b 4) (up c 64)
      (match ilt (up d' 64) (up d 64) with
      | true => up d' 64
      | false => up d 64)
      (match ilt (up e 2000) (up e' 2000) with
      | true => up e' 2000
      | false => up e 2000)
      (match ilt (up0 f 2001) (up0 f' 2001) with
      | true => up0 f' 2001
      | false => up0 f 2001)
      (up1 g))
    (markF (up a 256) (up b 4) (up c 64) (up d 64) (up e 2000) (up0 f 2001) (up1 g))) = (true)) → (((!ilt
    (boundF
      (match ilt (up a 256) (up a' 256) with
      | true => up a' 256
      | false => up a 256)
      (up b 4) (up c 64)
      (match ilt (up d' 64) (up d 64) with
      | true => up d' 64
      | false => up d 64)
      (match ilt (up e 2000) (up e' 2000) with
      | true => up e' 2000
      | false => up e 2000)
      (match ilt (up0 f 2001) (up0 f' 2001) with
      | true => up0 f' 2001
      | false => up0 f 2001)
      (up1 g))
    (boundF (up a 256) (up b 4) (up c 64) (up d 64) (up e 2000) (up0 f 2001) (up1 g))) = (true)) → (((ieq (markF (up a 256) (up b' 4) (up c' 64) (up d 64) (up e 2000) (up0 f 2001) (up1 g'))
  (markF (up a 256) (up b 4) (up c 64) (up d 64) (up e 2000) (up0 f 2001) (up1 g))) = (true)) → (((ieq (boundF (up a 256) (up b' 4) (up c' 64) (up d 64) (up e 2000) (up0 f 2001) (up1 g'))
  (boundF (up a 256) (up b 4) (up c 64) (up d 64) (up e 2000) (up0 f 2001) (up1 g))) = (true)) → (V.bool true) = (V.bool true)) ∧
                      (((ieq (boundF (up a 256) (up b' 4) (up c' 64) (up d 64) (up e 2000) (up0 f 2001) (up1 g'))
  (boundF (up a 256) (up b 4) (up c 64) (up d 64) (up e 2000) (up0 f 2001) (up1 g))) = (false)) → (V.bool false) = (V.bool true))) ∧
                     (((ieq (markF (up a 256) (up b' 4) (up c' 64) (up d 64) (up e 2000) (up0 f 2001) (up1 g'))
  (markF (up a 256) (up b 4) (up c 64) (up d 64) (up e 2000) (up0 f 2001) (up1 g))) = (false)) → (V.bool false) = (V.bool true))) ∧
                    (((!ilt
    (boundF
      (match ilt (up a 256) (up a' 256) with
      | true => up a' 256
      | false => up a 256)
      (up b 4) (up c 64)
      (match ilt (up d' 64) (up d 64) with
      | true => up d' 64
      | false => up d 64)
      (match ilt (up e 2000) (up e' 2000) with
      | true => up e' 2000
      | false => up e 2000)
      (match ilt (up0 f 2001) (up0 f' 2001) with
      | true => up0 f' 2001
      | false => up0 f 2001)
      (up1 g))
    (boundF (up a 256) (up b 4) (up c 64) (up d 64) (up e 2000) (up0 f 2001) (up1 g))) = (false)) → (V.bool false) = (V.bool true))) ∧
                   (((!ilt
    (markF
      (match ilt (up a 256) (up a' 256) with
      | true => up a' 256
      | false => up a 256)
      (up b 4) (up c 64)
      (match ilt (up d' 64) (up d 64) with
      | true => up d' 64
      | false => up d 64)
      (match ilt (up e 2000) (up e' 2000) with
      | true => up e' 2000
      | false => up e 2000)
      (match ilt (up0 f 2001) (up0 f' 2001) with
      | true => up0 f' 2001
      | false => up0 f 2001)
      (up1 g))
    (markF (up a 256) (up b 4) (up c 64) (up d 64) (up e 2000) (up0 f 2001) (up1 g))) = (false)) → (V.bool false) = (V.bool true)))))))))))))))))))))) := by kernel_rfl
theorem up_eq {x : Int} {n : Nat} (h0 : 0 ≤ x) (hn : 0 < n) (hn2 : n < 100000) : ∃ y : Int, up x n = 1 + y ∧ 0 ≤ y ∧ y < n := by
  refine ⟨x % n, ?_, Int.emod_nonneg _ (by omega), Int.emod_lt_of_pos _ (by omega)⟩
  have h1 := Int.emod_nonneg x (show (n : Int) ≠ 0 by omega)
  have h2 := Int.emod_lt_of_pos x (show (0 : Int) < n by omega)
  unfold up
  rw [iofn, iofn, Int.tmod_eq_emod_of_nonneg h0, wr64 (n := x % n) (by omega) (by omega), iadd, wr64 (by omega) (by omega)]
  rfl
theorem up0_eq {x : Int} {n : Nat} (h0 : 0 ≤ x) (hn : 0 < n) (hn2 : n < 100000) : ∃ y : Int, up0 x n = y ∧ 0 ≤ y ∧ y < n := by
  refine ⟨x % n, ?_, Int.emod_nonneg _ (by omega), Int.emod_lt_of_pos _ (by omega)⟩
  have h1 := Int.emod_nonneg x (show (n : Int) ≠ 0 by omega)
  have h2 := Int.emod_lt_of_pos x (show (0 : Int) < n by omega)
  unfold up0
  rw [iofn, Int.tmod_eq_emod_of_nonneg h0, wr64 (n := x % n) (by omega) (by omega)]
theorem up1_eq {x : Int} (h0 : 0 ≤ x) (h1 : x < 65536) : up1 x = 1 + x := by
  unfold up1
  rw [wr64 (n := x) (by omega) (by omega), iofn, iadd, wr64 (by omega) (by omega)]
  rfl
theorem quo_anti {d d' : Int} (h0 : 1 ≤ d') (h1 : d' ≤ d) : Int.tdiv (256 + d - 1) d ≤ Int.tdiv (256 + d' - 1) d' := by
  rw [Int.tdiv_eq_ediv_of_nonneg (by omega), Int.tdiv_eq_ediv_of_nonneg (by omega)]
  obtain ⟨n, rfl⟩ := Int.eq_ofNat_of_zero_le (show 0 ≤ d by omega)
  obtain ⟨m, rfl⟩ := Int.eq_ofNat_of_zero_le (show 0 ≤ d' by omega)
  have e1 : (256 + (n : Int) - 1) = 255 + n * 1 := by omega
  have e2 : (256 + (m : Int) - 1) = 255 + m * 1 := by omega
  rw [e1, e2, Int.add_mul_ediv_left _ _ (by omega), Int.add_mul_ediv_left _ _ (by omega)]
  have : 255 / n ≤ 255 / m := Nat.div_le_div_left (by omega) (by omega)
  have h : ((255 / n : Nat) : Int) ≤ ((255 / m : Nat) : Int) := by omega
  have h' : (255 : Int) / (n : Int) ≤ (255 : Int) / (m : Int) := by simpa using h
  omega
theorem bound_mono {a d e f A D E F : Int} (h1 : 1 ≤ a) (h2 : a ≤ A) (h3 : 1 ≤ D) (h4 : D ≤ d) (h5 : 1 ≤ e) (h6 : e ≤ E) (h7 : 0 ≤ f) (h8 : f ≤ F) :
    (2 * (4 * a + 6) + 2 + (f + 1) * (Int.tdiv (256 + d - 1) d + 3)) * e ≤ (2 * (4 * A + 6) + 2 + (F + 1) * (Int.tdiv (256 + D - 1) D + 3)) * E := by
  have q0 : 0 ≤ Int.tdiv (256 + d - 1) d := Int.tdiv_nonneg (by omega) (by omega)
  have q1 := quo_anti h3 h4
  have p1 : (f + 1) * (Int.tdiv (256 + d - 1) d + 3) ≤ (F + 1) * (Int.tdiv (256 + D - 1) D + 3) := Int.mul_le_mul (by omega) (by omega) (by omega) (by omega)
  have p0 : 0 ≤ (f + 1) * (Int.tdiv (256 + d - 1) d + 3) := Int.mul_nonneg (by omega) (by omega)
  generalize (f + 1) * (Int.tdiv (256 + d - 1) d + 3) = p at p0 p1 ⊢
  generalize (F + 1) * (Int.tdiv (256 + D - 1) D + 3) = P at p1 ⊢
  exact Int.mul_le_mul (by omega) h6 (by omega) (by omega)
theorem bound_least {a d e f : Int} (h1 : 1 ≤ a) (h3 : 1 ≤ d) (h5 : 1 ≤ e) (h7 : 0 ≤ f) : e ≤ (2 * (4 * a + 6) + 2 + (f + 1) * (Int.tdiv (256 + d - 1) d + 3)) * e := by
  have q0 : 0 ≤ Int.tdiv (256 + d - 1) d := Int.tdiv_nonneg (by omega) (by omega)
  have p0 : 0 ≤ (f + 1) * (Int.tdiv (256 + d - 1) d + 3) := Int.mul_nonneg (by omega) (by omega)
  generalize (f + 1) * (Int.tdiv (256 + d - 1) d + 3) = p at p0 ⊢
  have : 1 * e ≤ (2 * (4 * a + 6) + 2 + p) * e := Int.mul_le_mul_of_nonneg_right (by omega) (by omega)
  omega
def imax (x y : Int) : Int := match ilt x y with
  | true => y
  | false => x
def imin (x y : Int) : Int := match ilt y x with
  | true => y
  | false => x
theorem imax_eq (x y : Int) : (imax x y = x ∧ y ≤ x) ∨ (imax x y = y ∧ x < y) := by
  unfold imax
  cases h : ilt x y
  · exact .inl ⟨rfl, ilt_f.1 h⟩
  · exact .inr ⟨rfl, ilt_t.1 h⟩
theorem imin_eq (x y : Int) : (imin x y = x ∧ x ≤ y) ∨ (imin x y = y ∧ y < x) := by
  unfold imin
  cases h : ilt y x
  · exact .inl ⟨rfl, ilt_f.1 h⟩
  · exact .inr ⟨rfl, ilt_t.1 h⟩
/-- what the law comes to -/
theorem grows_fn {a b c d e f g a' b' c' d' e' f' g' : Int} (ha : 0 ≤ a) (hb : 0 ≤ b) (hc : 0 ≤ c) (hd : 0 ≤ d) (he : 0 ≤ e) (hf : 0 ≤ f) (hg : 0 ≤ g ∧ g < 65536) (ha' : 0 ≤ a') (hb' : 0 ≤ b') (hc' : 0 ≤ c') (hd' : 0 ≤ d') (he' : 0 ≤ e') (hf' : 0 ≤ f') (hg' : 0 ≤ g' ∧ g' < 65536) :
    fnW G2 spGrows 100 iGrows [u7 a b c d e f g, u7 a' b' c' d' e' f' g'] (hLet letters 1000) (fun v _ => v = .bool true) := by
  rw [vGrows]
  have foldmax : ∀ x y : Int, (match ilt x y with | true => y | false => x) = imax x y := fun _ _ => rfl
  have foldmin : ∀ x y : Int, (match ilt y x with | true => y | false => x) = imin x y := fun _ _ => rfl
  simp only [foldmax, foldmin]
  obtain ⟨xa, ea, a1, a2⟩ := up_eq (n := 256) ha (by omega) (by omega)
  obtain ⟨xb, eb, b1, b2⟩ := up_eq (n := 4) hb (by omega) (by omega)
  obtain ⟨xc, ec, c1, c2⟩ := up_eq (n := 64) hc (by omega) (by omega)
  obtain ⟨xd, ed, d1, d2⟩ := up_eq (n := 64) hd (by omega) (by omega)
  obtain ⟨xe, ee, e1, e2⟩ := up_eq (n := 2000) he (by omega) (by omega)
  obtain ⟨xf, ef, f1, f2⟩ := up0_eq (n := 2001) hf (by omega) (by omega)
  obtain ⟨ya, ea', a1', a2'⟩ := up_eq (n := 256) ha' (by omega) (by omega)
  obtain ⟨yb, eb', b1', b2'⟩ := up_eq (n := 4) hb' (by omega) (by omega)
  obtain ⟨yc, ec', c1', c2'⟩ := up_eq (n := 64) hc' (by omega) (by omega)
  obtain ⟨yd, ed', d1', d2'⟩ := up_eq (n := 64) hd' (by omega) (by omega)
  obtain ⟨ye, ee', e1', e2'⟩ := up_eq (n := 2000) he' (by omega) (by omega)
  obtain ⟨yf, ef', f1', f2'⟩ := up0_eq (n := 2001) hf' (by omega) (by omega)
  rw [ea, eb, ec, ed, ee, ef, ea', eb', ec', ed', ee', ef', up1_eq hg.1 hg.2, up1_eq hg'.1 hg'.2]
  have ma := imax_eq (1 + xa) (1 + ya)
  have me := imax_eq (1 + xe) (1 + ye)
  have mf := imax_eq xf yf
  have md := imin_eq (1 + xd) (1 + yd)
  generalize imax (1 + xa) (1 + ya) = A at ma ⊢
  generalize imax (1 + xe) (1 + ye) = E at me ⊢
  generalize imax xf yf = F at mf ⊢
  generalize imin (1 + xd) (1 + yd) = D at md ⊢
  have s1 : sizeOk (1 + xa) (1 + xb) (1 + xc) (1 + xd) (1 + xe) xf (1 + g) := by unfold sizeOk; omega
  have s2 : sizeOk A (1 + xb) (1 + xc) D E F (1 + g) := by unfold sizeOk; omega
  have s3 : sizeOk (1 + xa) (1 + yb) (1 + yc) (1 + xd) (1 + xe) xf (1 + g') := by unfold sizeOk; omega
  have k1 : checkF (1 + xa) (1 + xb) (1 + xc) (1 + xd) (1 + xe) xf (1 + g) = 0 := if_pos s1
  have k2 : checkF A (1 + xb) (1 + xc) D E F (1 + g) = 0 := if_pos s2
  have k3 : checkF (1 + xa) (1 + yb) (1 + yc) (1 + xd) (1 + xe) xf (1 + g') = 0 := if_pos s3
  have m1 : markF (1 + xa) (1 + xb) (1 + xc) (1 + xd) (1 + xe) xf (1 + g) = 3 * (1 + xa) + 4 := if_pos s1
  have m2 : markF A (1 + xb) (1 + xc) D E F (1 + g) = 3 * A + 4 := if_pos s2
  have m3 : markF (1 + xa) (1 + yb) (1 + yc) (1 + xd) (1 + xe) xf (1 + g') = 3 * (1 + xa) + 4 := if_pos s3
  have n1 : boundF (1 + xa) (1 + xb) (1 + xc) (1 + xd) (1 + xe) xf (1 + g) = _ := if_pos s1
  have n2 : boundF A (1 + xb) (1 + xc) D E F (1 + g) = _ := if_pos s2
  have n3 : boundF (1 + xa) (1 + yb) (1 + yc) (1 + xd) (1 + xe) xf (1 + g') = _ := if_pos s3
  have t1 := bound_mono (a := 1 + xa) (d := 1 + xd) (e := 1 + xe) (f := xf) (A := A) (D := D) (E := E) (F := F) (by omega) (by omega) (by omega) (by omega) (by omega) (by omega) (by omega) (by omega)
  have t2 := bound_least (a := 1 + xa) (d := 1 + xd) (e := 1 + xe) (f := xf) (by omega) (by omega) (by omega) (by omega)
  have t3 := bound_least (a := A) (d := D) (e := E) (f := F) (by omega) (by omega) (by omega) (by omega)
  rw [k1, k2, k3, m1, m2, m3, n1, n2, n3]
  generalize (2 * (4 * (1 + xa) + 6) + 2 + (xf + 1) * (Int.tdiv (256 + (1 + xd) - 1) (1 + xd) + 3)) * (1 + xe) = B1 at t1 t2 ⊢
  generalize (2 * (4 * A + 6) + 2 + (F + 1) * (Int.tdiv (256 + D - 1) D + 3)) * E = B2 at t1 t3 ⊢
  repeat' (first | exact rfl | exact trivial | apply And.intro | intro)
  all_goals
    simp only [not_t, not_f, ieq_t, ieq_f, ilt_t, ilt_f, iofn] at *
    omega
end Go.Proofs.YthnikhaifnckgaaGreatDoor

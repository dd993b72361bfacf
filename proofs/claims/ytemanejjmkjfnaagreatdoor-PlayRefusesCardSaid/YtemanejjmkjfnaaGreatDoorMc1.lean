/- Checks of numbers, and what is made of them: the parts of a registry. -/
import Derived.Test.YtemanejjmkjfnaaGreatDoorIds
import Derived.Test.YtemanejjmkjfnaaGreatDoorEvF
namespace Go.Proofs.YtemanejjmkjfnaaGreatDoor
set_option maxRecDepth 100000
open Go.Ev Go.RowKit
def okGens (a : Int) : Bool := decide (1 ≤ a ∧ a ≤ 4294967295)
theorem okGens_t (a : Int) : okGens a = true ↔ (1 ≤ a ∧ a ≤ 4294967295) := by simp only [okGens, decide_eq_true_eq]
theorem okGens_f (a : Int) : okGens a = false ↔ ¬ (1 ≤ a ∧ a ≤ 4294967295) := by simp only [okGens, decide_eq_false_iff_not]
def GensV (a : Int) : Int := match okGens a with
  | true => 0
  | false => 2
theorem GensV_t (a : Int) (hyp : 1 ≤ a ∧ a ≤ 4294967295) : GensV a = 0 := by unfold GensV; rw [(okGens_t a).2 hyp]
theorem GensV_f (a : Int) (hyp : ¬ (1 ≤ a ∧ a ≤ 4294967295)) : GensV a = 2 := by unfold GensV; rw [(okGens_f a).2 hyp]
theorem GensV_z (a : Int) : GensV a = 0 ↔ (1 ≤ a ∧ a ≤ 4294967295) := ⟨fun hyp => Decidable.byContradiction fun q => by rw [GensV_f a q] at hyp; omega, GensV_t a⟩
noncomputable def spGens : SpF where
  at' := fun f t => match Nat.beq f iGens, t with | true, 4 => .both | true, 7 => .both | _, _ => .keep
theorem vGens (a : Int) : (fnW G0 spGens 100 iGens [.int .u32 a] hE (fun u _ => u = .int .i64 (GensV a))) = (
(((ilt a (Int.ofNat 1)) = (true)) → (V.int IntKind.i64 (Int.ofNat 2)) = (V.int IntKind.i64 (GensV a))) ∧
(((ilt a (Int.ofNat 1)) = (false)) → (((ilt (Int.ofNat 4294967295) a) = (true)) → (V.int IntKind.i64 (Int.ofNat 2)) = (V.int IntKind.i64 (GensV a))) ∧
 (((ilt (Int.ofNat 4294967295) a) = (false)) → (V.int IntKind.i64 (Int.ofNat 0)) = (V.int IntKind.i64 (GensV a))))) := by kernel_rfl
theorem Gens_fn (a : Int) : fnW G0 spGens 100 iGens [.int .u32 a] hE (fun u _ => u = .int .i64 (GensV a)) := by
  rw [vGens]
  repeat' (first | exact trivial | apply And.intro | intro)
  all_goals
    (try simp only [ilt_t, Int.cast_ofNat_Int,  ilt_f, iofn] at *)
    refine congrArg (V.int .i64) ?_
    first
      | contradiction
      | exact (GensV_t a (by omega)).symm
      | exact (GensV_f a (by omega)).symm
def GensF : List V → Option V
  | [.int .u32 a] => some (.int .i64 (GensV a))
  | _ => none
noncomputable def kGens : Known := (iGens, known GensF)
theorem Gens_ok : KnownOk Tryz.prog kGens :=
  known_ok (sp := spGens) (N := 100) (mk_ok _).1 (mk_ok _).2 ext_none (kx_none _) fun l v h => by
    unfold GensF at h
    split at h
    · cases h; exact ⟨rfl, Gens_fn ..⟩
    · cases h
def okBack (a b : Int) : Bool := decide (1 ≤ a ∧ a ≤ b ∧ b ≤ 1048576)
theorem okBack_t (a b : Int) : okBack a b = true ↔ (1 ≤ a ∧ a ≤ b ∧ b ≤ 1048576) := by simp only [okBack, decide_eq_true_eq]
theorem okBack_f (a b : Int) : okBack a b = false ↔ ¬ (1 ≤ a ∧ a ≤ b ∧ b ≤ 1048576) := by simp only [okBack, decide_eq_false_iff_not]
def BackV (a b : Int) : Int := match okBack a b with
  | true => 0
  | false => 2
theorem BackV_t (a b : Int) (hyp : 1 ≤ a ∧ a ≤ b ∧ b ≤ 1048576) : BackV a b = 0 := by unfold BackV; rw [(okBack_t a b).2 hyp]
theorem BackV_f (a b : Int) (hyp : ¬ (1 ≤ a ∧ a ≤ b ∧ b ≤ 1048576)) : BackV a b = 2 := by unfold BackV; rw [(okBack_f a b).2 hyp]
theorem BackV_z (a b : Int) : BackV a b = 0 ↔ (1 ≤ a ∧ a ≤ b ∧ b ≤ 1048576) := ⟨fun hyp => Decidable.byContradiction fun q => by rw [BackV_f a b q] at hyp; omega, BackV_t a b⟩
noncomputable def spBack : SpF where
  at' := fun f t => match Nat.beq f iBack, t with | true, 6 => .both | true, 10 => .both | true, 14 => .both | _, _ => .keep
theorem vBack (a b : Int) : (fnW G0 spBack 100 iBack [.int .i64 a, .int .i64 b] hE (fun u _ => u = .int .i64 (BackV a b))) = (
(((ilt a (Int.ofNat 1)) = (true)) → (V.int IntKind.i64 (Int.ofNat 2)) = (V.int IntKind.i64 (BackV a b))) ∧
(((ilt a (Int.ofNat 1)) = (false)) → (((ilt b a) = (true)) → (V.int IntKind.i64 (Int.ofNat 2)) = (V.int IntKind.i64 (BackV a b))) ∧
 (((ilt b a) = (false)) → (((ilt (Int.ofNat 1048576) b) = (true)) → (V.int IntKind.i64 (Int.ofNat 2)) = (V.int IntKind.i64 (BackV a b))) ∧
  (((ilt (Int.ofNat 1048576) b) = (false)) → (V.int IntKind.i64 (Int.ofNat 0)) = (V.int IntKind.i64 (BackV a b)))))) := by kernel_rfl
theorem Back_fn (a b : Int) : fnW G0 spBack 100 iBack [.int .i64 a, .int .i64 b] hE (fun u _ => u = .int .i64 (BackV a b)) := by
  rw [vBack]
  repeat' (first | exact trivial | apply And.intro | intro)
  all_goals
    (try simp only [ilt_t, Int.cast_ofNat_Int,  ilt_f, iofn] at *)
    refine congrArg (V.int .i64) ?_
    first
      | contradiction
      | exact (BackV_t a b (by omega)).symm
      | exact (BackV_f a b (by omega)).symm
def BackF : List V → Option V
  | [.int .i64 a, .int .i64 b] => some (.int .i64 (BackV a b))
  | _ => none
noncomputable def kBack : Known := (iBack, known BackF)
theorem Back_ok : KnownOk Tryz.prog kBack :=
  known_ok (sp := spBack) (N := 100) (mk_ok _).1 (mk_ok _).2 ext_none (kx_none _) fun l v h => by
    unfold BackF at h
    split at h
    · cases h; exact ⟨rfl, Back_fn ..⟩
    · cases h
def okRegIn (a b : Int) : Bool := decide (1 ≤ a ∧ a ≤ b)
theorem okRegIn_t (a b : Int) : okRegIn a b = true ↔ (1 ≤ a ∧ a ≤ b) := by simp only [okRegIn, decide_eq_true_eq]
theorem okRegIn_f (a b : Int) : okRegIn a b = false ↔ ¬ (1 ≤ a ∧ a ≤ b) := by simp only [okRegIn, decide_eq_false_iff_not]
noncomputable def spRegIn : SpF where
  at' := fun f t => match Nat.beq f iRegIn, t with | true, 6 => .both | true, 10 => .both | _, _ => .keep
theorem vRegIn (a b : Int) : (fnW G0 spRegIn 100 iRegIn [.int .i64 a, .int .i64 b] hE (fun u _ => u = .bool (okRegIn a b))) = (
(((!ilt a (Int.ofNat 1)) = (true)) → (((!ilt b a) = (true)) → (V.bool true) = (V.bool (okRegIn a b))) ∧
 (((!ilt b a) = (false)) → (V.bool false) = (V.bool (okRegIn a b)))) ∧
(((!ilt a (Int.ofNat 1)) = (false)) → (V.bool false) = (V.bool (okRegIn a b)))) := by kernel_rfl
theorem RegIn_fn (a b : Int) : fnW G0 spRegIn 100 iRegIn [.int .i64 a, .int .i64 b] hE (fun u _ => u = .bool (okRegIn a b)) := by
  rw [vRegIn]
  repeat' (first | exact trivial | apply And.intro | intro)
  all_goals
    (try simp only [ilt_t, Int.cast_ofNat_Int,  ilt_f, not_t, not_f, iofn] at *)
    refine congrArg V.bool ?_
    first
      | contradiction
      | exact ((okRegIn_t a b).2 (by omega)).symm
      | exact ((okRegIn_f a b).2 (by omega)).symm
def RegInF : List V → Option V
  | [.int .i64 a, .int .i64 b] => some (.bool (okRegIn a b))
  | _ => none
noncomputable def kRegIn : Known := (iRegIn, known RegInF)
theorem RegIn_ok : KnownOk Tryz.prog kRegIn :=
  known_ok (sp := spRegIn) (N := 100) (mk_ok _).1 (mk_ok _).2 ext_none (kx_none _) fun l v h => by
    unfold RegInF at h
    split at h
    · cases h; exact ⟨rfl, RegIn_fn ..⟩
    · cases h
def badColour (a : Int) : Bool := !decide (1 ≤ a ∧ a ≤ 256)
theorem badColour_t (a : Int) : badColour a = true ↔ ¬ (1 ≤ a ∧ a ≤ 256) := by simp only [badColour, not_t, decide_eq_false_iff_not]
theorem badColour_f (a : Int) : badColour a = false ↔ (1 ≤ a ∧ a ≤ 256) := by simp only [badColour, not_f, decide_eq_true_eq]
noncomputable def spColour : SpF where
  at' := fun f t => match Nat.beq f iColour, t with | true, 5 => .both | true, 8 => .both | _, _ => .keep
theorem vColour (a : Int) : (fnW G0 spColour 100 iColour [.int .i64 a] hE (fun u _ => madeK (badColour a) 2 u)) = (
(((ilt a (Int.ofNat 1)) = (true)) → ((badColour a) = (true)) ∧
 (((IntKind.i64) = (IntKind.i64)) ∧
  ((Int.ofNat 2) = (Int.ofNat 2)))) ∧
(((ilt a (Int.ofNat 1)) = (false)) → (((ilt (Int.ofNat 256) a) = (true)) → ((badColour a) = (true)) ∧
  (((IntKind.i64) = (IntKind.i64)) ∧
   ((Int.ofNat 2) = (Int.ofNat 2)))) ∧
 (((ilt (Int.ofNat 256) a) = (false)) → ((badColour a) = (false)) ∧
  (((IntKind.i64) = (IntKind.i64)) ∧
   ((Int.ofNat 0) = (Int.ofNat 0)))))) := by kernel_rfl
theorem Colour_fn (a : Int) : fnW G0 spColour 100 iColour [.int .i64 a] hE (fun u _ => madeK (badColour a) 2 u) := by
  rw [vColour]
  repeat' (first | exact rfl | exact trivial | apply And.intro | intro)
  all_goals
    (try simp only [ilt_t, Int.cast_ofNat_Int,  ilt_f, iofn] at *)
    first
      | contradiction
      | omega
      | (rw [badColour_t]; omega)
      | (rw [badColour_f]; omega)
def ColourF : List V → Option (Bool × Int)
  | [.int .i64 a] => some (badColour a, 2)
  | _ => none
noncomputable def kColour : KnownP := (iColour, knownP ColourF)
theorem Colour_ok : KnownPOk Tryz.prog kColour :=
  known_p (sp := spColour) (N := 100) (mk_ok _).1 (mk_ok _).2 ext_none (kx_none _) fun l b e h => by
    unfold ColourF at h
    split at h
    · cases h; exact Colour_fn ..
    · cases h
def badStack (a : Int) : Bool := !decide (1 ≤ a ∧ a ≤ 64)
theorem badStack_t (a : Int) : badStack a = true ↔ ¬ (1 ≤ a ∧ a ≤ 64) := by simp only [badStack, not_t, decide_eq_false_iff_not]
theorem badStack_f (a : Int) : badStack a = false ↔ (1 ≤ a ∧ a ≤ 64) := by simp only [badStack, not_f, decide_eq_true_eq]
noncomputable def spStack : SpF where
  at' := fun f t => match Nat.beq f iStack, t with | true, 5 => .both | true, 8 => .both | _, _ => .keep
theorem vStack (a : Int) : (fnW G0 spStack 100 iStack [.int .i64 a] hE (fun u _ => madeK (badStack a) 2 u)) = (
(((ilt a (Int.ofNat 1)) = (true)) → ((badStack a) = (true)) ∧
 (((IntKind.i64) = (IntKind.i64)) ∧
  ((Int.ofNat 2) = (Int.ofNat 2)))) ∧
(((ilt a (Int.ofNat 1)) = (false)) → (((ilt (Int.ofNat 64) a) = (true)) → ((badStack a) = (true)) ∧
  (((IntKind.i64) = (IntKind.i64)) ∧
   ((Int.ofNat 2) = (Int.ofNat 2)))) ∧
 (((ilt (Int.ofNat 64) a) = (false)) → ((badStack a) = (false)) ∧
  (((IntKind.i64) = (IntKind.i64)) ∧
   ((Int.ofNat 0) = (Int.ofNat 0)))))) := by kernel_rfl
theorem Stack_fn (a : Int) : fnW G0 spStack 100 iStack [.int .i64 a] hE (fun u _ => madeK (badStack a) 2 u) := by
  rw [vStack]
  repeat' (first | exact rfl | exact trivial | apply And.intro | intro)
  all_goals
    (try simp only [ilt_t, Int.cast_ofNat_Int,  ilt_f, iofn] at *)
    first
      | contradiction
      | omega
      | (rw [badStack_t]; omega)
      | (rw [badStack_f]; omega)
def StackF : List V → Option (Bool × Int)
  | [.int .i64 a] => some (badStack a, 2)
  | _ => none
noncomputable def kStack : KnownP := (iStack, knownP StackF)
theorem Stack_ok : KnownPOk Tryz.prog kStack :=
  known_p (sp := spStack) (N := 100) (mk_ok _).1 (mk_ok _).2 ext_none (kx_none _) fun l b e h => by
    unfold StackF at h
    split at h
    · cases h; exact Stack_fn ..
    · cases h
def badBuffer (a : Int) : Bool := !decide (1 ≤ a ∧ a ≤ 64)
theorem badBuffer_t (a : Int) : badBuffer a = true ↔ ¬ (1 ≤ a ∧ a ≤ 64) := by simp only [badBuffer, not_t, decide_eq_false_iff_not]
theorem badBuffer_f (a : Int) : badBuffer a = false ↔ (1 ≤ a ∧ a ≤ 64) := by simp only [badBuffer, not_f, decide_eq_true_eq]
noncomputable def spBuffer : SpF where
  at' := fun f t => match Nat.beq f iBuffer, t with | true, 5 => .both | true, 8 => .both | _, _ => .keep
theorem vBuffer (a : Int) : (fnW G0 spBuffer 100 iBuffer [.int .i64 a] hE (fun u _ => madeK (badBuffer a) 2 u)) = (
(((ilt a (Int.ofNat 1)) = (true)) → ((badBuffer a) = (true)) ∧
 (((IntKind.i64) = (IntKind.i64)) ∧
  ((Int.ofNat 2) = (Int.ofNat 2)))) ∧
(((ilt a (Int.ofNat 1)) = (false)) → (((ilt (Int.ofNat 64) a) = (true)) → ((badBuffer a) = (true)) ∧
  (((IntKind.i64) = (IntKind.i64)) ∧
   ((Int.ofNat 2) = (Int.ofNat 2)))) ∧
 (((ilt (Int.ofNat 64) a) = (false)) → ((badBuffer a) = (false)) ∧
  (((IntKind.i64) = (IntKind.i64)) ∧
   ((Int.ofNat 0) = (Int.ofNat 0)))))) := by kernel_rfl
theorem Buffer_fn (a : Int) : fnW G0 spBuffer 100 iBuffer [.int .i64 a] hE (fun u _ => madeK (badBuffer a) 2 u) := by
  rw [vBuffer]
  repeat' (first | exact rfl | exact trivial | apply And.intro | intro)
  all_goals
    (try simp only [ilt_t, Int.cast_ofNat_Int,  ilt_f, iofn] at *)
    first
      | contradiction
      | omega
      | (rw [badBuffer_t]; omega)
      | (rw [badBuffer_f]; omega)
def BufferF : List V → Option (Bool × Int)
  | [.int .i64 a] => some (badBuffer a, 2)
  | _ => none
noncomputable def kBuffer : KnownP := (iBuffer, knownP BufferF)
theorem Buffer_ok : KnownPOk Tryz.prog kBuffer :=
  known_p (sp := spBuffer) (N := 100) (mk_ok _).1 (mk_ok _).2 ext_none (kx_none _) fun l b e h => by
    unfold BufferF at h
    split at h
    · cases h; exact Buffer_fn ..
    · cases h
def badSweep (a : Int) : Bool := !decide (1 ≤ a ∧ a ≤ 256)
theorem badSweep_t (a : Int) : badSweep a = true ↔ ¬ (1 ≤ a ∧ a ≤ 256) := by simp only [badSweep, not_t, decide_eq_false_iff_not]
theorem badSweep_f (a : Int) : badSweep a = false ↔ (1 ≤ a ∧ a ≤ 256) := by simp only [badSweep, not_f, decide_eq_true_eq]
noncomputable def spSweep : SpF where
  at' := fun f t => match Nat.beq f iSweep, t with | true, 5 => .both | true, 8 => .both | _, _ => .keep
theorem vSweep (a : Int) : (fnW G0 spSweep 100 iSweep [.int .i64 a] hE (fun u _ => madeK (badSweep a) 2 u)) = (
(((ilt a (Int.ofNat 1)) = (true)) → ((badSweep a) = (true)) ∧
 (((IntKind.i64) = (IntKind.i64)) ∧
  ((Int.ofNat 2) = (Int.ofNat 2)))) ∧
(((ilt a (Int.ofNat 1)) = (false)) → (((ilt (Int.ofNat 256) a) = (true)) → ((badSweep a) = (true)) ∧
  (((IntKind.i64) = (IntKind.i64)) ∧
   ((Int.ofNat 2) = (Int.ofNat 2)))) ∧
 (((ilt (Int.ofNat 256) a) = (false)) → ((badSweep a) = (false)) ∧
  (((IntKind.i64) = (IntKind.i64)) ∧
   ((Int.ofNat 0) = (Int.ofNat 0)))))) := by kernel_rfl
theorem Sweep_fn (a : Int) : fnW G0 spSweep 100 iSweep [.int .i64 a] hE (fun u _ => madeK (badSweep a) 2 u) := by
  rw [vSweep]
  repeat' (first | exact rfl | exact trivial | apply And.intro | intro)
  all_goals
    (try simp only [ilt_t, Int.cast_ofNat_Int,  ilt_f, iofn] at *)
    first
      | contradiction
      | omega
      | (rw [badSweep_t]; omega)
      | (rw [badSweep_f]; omega)
def SweepF : List V → Option (Bool × Int)
  | [.int .i64 a] => some (badSweep a, 2)
  | _ => none
noncomputable def kSweep : KnownP := (iSweep, knownP SweepF)
theorem Sweep_ok : KnownPOk Tryz.prog kSweep :=
  known_p (sp := spSweep) (N := 100) (mk_ok _).1 (mk_ok _).2 ext_none (kx_none _) fun l b e h => by
    unfold SweepF at h
    split at h
    · cases h; exact Sweep_fn ..
    · cases h
def badPhantom (a : Int) : Bool := !decide (1 ≤ a ∧ a ≤ 256)
theorem badPhantom_t (a : Int) : badPhantom a = true ↔ ¬ (1 ≤ a ∧ a ≤ 256) := by simp only [badPhantom, not_t, decide_eq_false_iff_not]
theorem badPhantom_f (a : Int) : badPhantom a = false ↔ (1 ≤ a ∧ a ≤ 256) := by simp only [badPhantom, not_f, decide_eq_true_eq]
noncomputable def spPhantom : SpF where
  at' := fun f t => match Nat.beq f iPhantom, t with | true, 5 => .both | true, 8 => .both | _, _ => .keep
theorem vPhantom (a : Int) : (fnW G0 spPhantom 100 iPhantom [.int .i64 a] hE (fun u _ => madeK (badPhantom a) 2 u)) = (
(((ilt a (Int.ofNat 1)) = (true)) → ((badPhantom a) = (true)) ∧
 (((IntKind.i64) = (IntKind.i64)) ∧
  ((Int.ofNat 2) = (Int.ofNat 2)))) ∧
(((ilt a (Int.ofNat 1)) = (false)) → (((ilt (Int.ofNat 256) a) = (true)) → ((badPhantom a) = (true)) ∧
  (((IntKind.i64) = (IntKind.i64)) ∧
   ((Int.ofNat 2) = (Int.ofNat 2)))) ∧
 (((ilt (Int.ofNat 256) a) = (false)) → ((badPhantom a) = (false)) ∧
  (((IntKind.i64) = (IntKind.i64)) ∧
   ((Int.ofNat 0) = (Int.ofNat 0)))))) := by kernel_rfl
theorem Phantom_fn (a : Int) : fnW G0 spPhantom 100 iPhantom [.int .i64 a] hE (fun u _ => madeK (badPhantom a) 2 u) := by
  rw [vPhantom]
  repeat' (first | exact rfl | exact trivial | apply And.intro | intro)
  all_goals
    (try simp only [ilt_t, Int.cast_ofNat_Int,  ilt_f, iofn] at *)
    first
      | contradiction
      | omega
      | (rw [badPhantom_t]; omega)
      | (rw [badPhantom_f]; omega)
def PhantomF : List V → Option (Bool × Int)
  | [.int .i64 a] => some (badPhantom a, 2)
  | _ => none
noncomputable def kPhantom : KnownP := (iPhantom, knownP PhantomF)
theorem Phantom_ok : KnownPOk Tryz.prog kPhantom :=
  known_p (sp := spPhantom) (N := 100) (mk_ok _).1 (mk_ok _).2 ext_none (kx_none _) fun l b e h => by
    unfold PhantomF at h
    split at h
    · cases h; exact Phantom_fn ..
    · cases h
def badQueue (a : Int) : Bool := !decide (1 ≤ a ∧ a ≤ 64)
theorem badQueue_t (a : Int) : badQueue a = true ↔ ¬ (1 ≤ a ∧ a ≤ 64) := by simp only [badQueue, not_t, decide_eq_false_iff_not]
theorem badQueue_f (a : Int) : badQueue a = false ↔ (1 ≤ a ∧ a ≤ 64) := by simp only [badQueue, not_f, decide_eq_true_eq]
noncomputable def spQueue : SpF where
  at' := fun f t => match Nat.beq f iQueue, t with | true, 5 => .both | true, 8 => .both | _, _ => .keep
theorem vQueue (a : Int) : (fnW G0 spQueue 100 iQueue [.int .i64 a] hE (fun u _ => madeK (badQueue a) 2 u)) = (
(((ilt a (Int.ofNat 1)) = (true)) → ((badQueue a) = (true)) ∧
 (((IntKind.i64) = (IntKind.i64)) ∧
  ((Int.ofNat 2) = (Int.ofNat 2)))) ∧
(((ilt a (Int.ofNat 1)) = (false)) → (((ilt (Int.ofNat 64) a) = (true)) → ((badQueue a) = (true)) ∧
  (((IntKind.i64) = (IntKind.i64)) ∧
   ((Int.ofNat 2) = (Int.ofNat 2)))) ∧
 (((ilt (Int.ofNat 64) a) = (false)) → ((badQueue a) = (false)) ∧
  (((IntKind.i64) = (IntKind.i64)) ∧
   ((Int.ofNat 0) = (Int.ofNat 0)))))) := by kernel_rfl
theorem Queue_fn (a : Int) : fnW G0 spQueue 100 iQueue [.int .i64 a] hE (fun u _ => madeK (badQueue a) 2 u) := by
  rw [vQueue]
  repeat' (first | exact rfl | exact trivial | apply And.intro | intro)
  all_goals
    (try simp only [ilt_t, Int.cast_ofNat_Int,  ilt_f, iofn] at *)
    first
      | contradiction
      | omega
      | (rw [badQueue_t]; omega)
      | (rw [badQueue_f]; omega)
def QueueF : List V → Option (Bool × Int)
  | [.int .i64 a] => some (badQueue a, 2)
  | _ => none
noncomputable def kQueue : KnownP := (iQueue, knownP QueueF)
theorem Queue_ok : KnownPOk Tryz.prog kQueue :=
  known_p (sp := spQueue) (N := 100) (mk_ok _).1 (mk_ok _).2 ext_none (kx_none _) fun l b e h => by
    unfold QueueF at h
    split at h
    · cases h; exact Queue_fn ..
    · cases h
def badQuota (a : Int) : Bool := !decide (1 ≤ a ∧ a ≤ 256)
theorem badQuota_t (a : Int) : badQuota a = true ↔ ¬ (1 ≤ a ∧ a ≤ 256) := by simp only [badQuota, not_t, decide_eq_false_iff_not]
theorem badQuota_f (a : Int) : badQuota a = false ↔ (1 ≤ a ∧ a ≤ 256) := by simp only [badQuota, not_f, decide_eq_true_eq]
noncomputable def spQuota : SpF where
  at' := fun f t => match Nat.beq f iQuota, t with | true, 5 => .both | true, 8 => .both | _, _ => .keep
theorem vQuota (a : Int) : (fnW G0 spQuota 100 iQuota [.int .i64 a] hE (fun u _ => madeK (badQuota a) 2 u)) = (
(((ilt a (Int.ofNat 1)) = (true)) → ((badQuota a) = (true)) ∧
 (((IntKind.i64) = (IntKind.i64)) ∧
  ((Int.ofNat 2) = (Int.ofNat 2)))) ∧
(((ilt a (Int.ofNat 1)) = (false)) → (((ilt (Int.ofNat 256) a) = (true)) → ((badQuota a) = (true)) ∧
  (((IntKind.i64) = (IntKind.i64)) ∧
   ((Int.ofNat 2) = (Int.ofNat 2)))) ∧
 (((ilt (Int.ofNat 256) a) = (false)) → ((badQuota a) = (false)) ∧
  (((IntKind.i64) = (IntKind.i64)) ∧
   ((Int.ofNat 0) = (Int.ofNat 0)))))) := by kernel_rfl
theorem Quota_fn (a : Int) : fnW G0 spQuota 100 iQuota [.int .i64 a] hE (fun u _ => madeK (badQuota a) 2 u) := by
  rw [vQuota]
  repeat' (first | exact rfl | exact trivial | apply And.intro | intro)
  all_goals
    (try simp only [ilt_t, Int.cast_ofNat_Int,  ilt_f, iofn] at *)
    first
      | contradiction
      | omega
      | (rw [badQuota_t]; omega)
      | (rw [badQuota_f]; omega)
def QuotaF : List V → Option (Bool × Int)
  | [.int .i64 a] => some (badQuota a, 2)
  | _ => none
noncomputable def kQuota : KnownP := (iQuota, knownP QuotaF)
theorem Quota_ok : KnownPOk Tryz.prog kQuota :=
  known_p (sp := spQuota) (N := 100) (mk_ok _).1 (mk_ok _).2 ext_none (kx_none _) fun l b e h => by
    unfold QuotaF at h
    split at h
    · cases h; exact Quota_fn ..
    · cases h
def badPhase (a : Int) : Bool := !decide (1 ≤ a ∧ a ≤ 4)
theorem badPhase_t (a : Int) : badPhase a = true ↔ ¬ (1 ≤ a ∧ a ≤ 4) := by simp only [badPhase, not_t, decide_eq_false_iff_not]
theorem badPhase_f (a : Int) : badPhase a = false ↔ (1 ≤ a ∧ a ≤ 4) := by simp only [badPhase, not_f, decide_eq_true_eq]
noncomputable def spPhase : SpF where
  at' := fun f t => match Nat.beq f iPhase, t with | true, 7 => .both | true, 10 => .both | true, 15 => .upto 5 | _, _ => .keep
theorem vPhase (a : Int) : (fnW G0 spPhase 100 iPhase [.int .i64 a] hE (fun u _ => madeK (badPhase a) 2 u)) = (
(((ilt a (Int.ofNat 1)) = (true)) → ((badPhase a) = (true)) ∧
 (((IntKind.i64) = (IntKind.i64)) ∧
  ((Int.ofNat 2) = (Int.ofNat 2)))) ∧
(((ilt a (Int.ofNat 1)) = (false)) → (((ilt (Int.ofNat 4) a) = (true)) → ((badPhase a) = (true)) ∧
  (((IntKind.i64) = (IntKind.i64)) ∧
   ((Int.ofNat 2) = (Int.ofNat 2)))) ∧
 (((ilt (Int.ofNat 4) a) = (false)) → ((ilt a (Int.ofNat 0)) = (false)) ∧
  (((ilt a (Int.ofNat 5)) = (true)) ∧
   ((((((True) ∧
        (((a) = (Int.ofNat 0)) → ((badPhase a) = (false)) ∧
         (((IntKind.i64) = (IntKind.i64)) ∧
          ((Int.ofNat 0) = (Int.ofNat 0))))) ∧
       (((a) = (Int.ofNat 1)) → ((badPhase a) = (false)) ∧
        (((IntKind.i64) = (IntKind.i64)) ∧
         ((Int.ofNat 0) = (Int.ofNat 0))))) ∧
      (((a) = (Int.ofNat 2)) → ((badPhase a) = (false)) ∧
       (((IntKind.i64) = (IntKind.i64)) ∧
        ((Int.ofNat 0) = (Int.ofNat 0))))) ∧
     (((a) = (Int.ofNat 3)) → ((badPhase a) = (false)) ∧
      (((IntKind.i64) = (IntKind.i64)) ∧
       ((Int.ofNat 0) = (Int.ofNat 0))))) ∧
    (((a) = (Int.ofNat 4)) → ((badPhase a) = (false)) ∧
     (((IntKind.i64) = (IntKind.i64)) ∧
      ((Int.ofNat 0) = (Int.ofNat 0))))))))) := by kernel_rfl
theorem Phase_fn (a : Int) : fnW G0 spPhase 100 iPhase [.int .i64 a] hE (fun u _ => madeK (badPhase a) 2 u) := by
  rw [vPhase]
  repeat' (first | exact rfl | exact trivial | apply And.intro | intro)
  all_goals
    (try simp only [ilt_t, Int.cast_ofNat_Int,  ilt_f, iofn] at *)
    first
      | contradiction
      | omega
      | (rw [badPhase_t]; omega)
      | (rw [badPhase_f]; omega)
def PhaseF : List V → Option (Bool × Int)
  | [.int .i64 a] => some (badPhase a, 2)
  | _ => none
noncomputable def kPhase : KnownP := (iPhase, knownP PhaseF)
theorem Phase_ok : KnownPOk Tryz.prog kPhase :=
  known_p (sp := spPhase) (N := 100) (mk_ok _).1 (mk_ok _).2 ext_none (kx_none _) fun l b e h => by
    unfold PhaseF at h
    split at h
    · cases h; exact Phase_fn ..
    · cases h
noncomputable def klGa : List Known := [kGens, kBack, kRegIn]
noncomputable def plGa : List KnownP := [kColour, kStack, kBuffer, kSweep, kPhantom, kQueue, kQuota, kPhase]
noncomputable def Ga : Γ := mkG Tryz.prog eqs rows (ext2 klGa plGa)
theorem Ga_k : ∀ x, x ∈ klGa → KnownOk Tryz.prog x := fun x hx => by
  simp only [klGa, List.mem_cons, List.not_mem_nil, or_false] at hx
  rcases hx with rfl | rfl | rfl
  · exact Gens_ok
  · exact Back_ok
  · exact RegIn_ok

theorem Ga_p : ∀ x, x ∈ plGa → KnownPOk Tryz.prog x := fun x hx => by
  simp only [plGa, List.mem_cons, List.not_mem_nil, or_false] at hx
  rcases hx with rfl | rfl | rfl | rfl | rfl | rfl | rfl | rfl
  · exact Colour_ok
  · exact Stack_ok
  · exact Buffer_ok
  · exact Sweep_ok
  · exact Phantom_ok
  · exact Queue_ok
  · exact Quota_ok
  · exact Phase_ok

theorem Ga_x : ExtOK Tryz.prog Ga := ext2_ok (l := klGa) (lp := plGa) Ga_k Ga_p rfl
def okAllowed (a b c d e f g h i j : Int) : Bool := decide (1 ≤ a ∧ a ≤ 256 ∧ 1 ≤ b ∧ b ≤ 4 ∧ 1 ≤ c ∧ c ≤ 64 ∧ 1 ≤ d ∧ d ≤ 64 ∧ 1 ≤ e ∧ e ≤ 64 ∧ 1 ≤ f ∧ f ≤ 256 ∧ 1 ≤ g ∧ g ≤ 64 ∧ 1 ≤ h ∧ h ≤ i ∧ i ≤ 1048576 ∧ 1 ≤ j)
theorem okAllowed_t (a b c d e f g h i j : Int) : okAllowed a b c d e f g h i j = true ↔ (1 ≤ a ∧ a ≤ 256 ∧ 1 ≤ b ∧ b ≤ 4 ∧ 1 ≤ c ∧ c ≤ 64 ∧ 1 ≤ d ∧ d ≤ 64 ∧ 1 ≤ e ∧ e ≤ 64 ∧ 1 ≤ f ∧ f ≤ 256 ∧ 1 ≤ g ∧ g ≤ 64 ∧ 1 ≤ h ∧ h ≤ i ∧ i ≤ 1048576 ∧ 1 ≤ j) := by simp only [okAllowed, decide_eq_true_eq]
theorem okAllowed_f (a b c d e f g h i j : Int) : okAllowed a b c d e f g h i j = false ↔ ¬ (1 ≤ a ∧ a ≤ 256 ∧ 1 ≤ b ∧ b ≤ 4 ∧ 1 ≤ c ∧ c ≤ 64 ∧ 1 ≤ d ∧ d ≤ 64 ∧ 1 ≤ e ∧ e ≤ 64 ∧ 1 ≤ f ∧ f ≤ 256 ∧ 1 ≤ g ∧ g ≤ 64 ∧ 1 ≤ h ∧ h ≤ i ∧ i ≤ 1048576 ∧ 1 ≤ j) := by simp only [okAllowed, decide_eq_false_iff_not]
noncomputable def spAllowed : SpF where
  at' := fun f t => match Nat.beq f iAllowed, t with | true, 5 => .both | true, 9 => .both | true, 14 => .both | true, 19 => .both | true, 24 => .both | true, 29 => .both | true, 34 => .both | true, 42 => .both | true, 47 => .both | _, _ => .keep
  kx := kx2 klGa plGa
theorem vAllowed (a b c d e f g h i j : Int) : (fnW Ga spAllowed 100 iAllowed [.agg 10 [.int .i64 a, .int .i64 b, .int .i64 c, .int .i64 d, .int .i64 e, .int .i64 f, .int .i64 g, .int .i64 h, .int .i64 i, .int .u32 j] .leaf] hE (fun u _ => u = .bool (okAllowed a b c d e f g h i j))) = (
(((okRegIn a (Int.ofNat 256)) = (true)) → (((okRegIn f (Int.ofNat 256)) = (true)) → (((okRegIn b (Int.ofNat 4)) = (true)) → (((okRegIn c (Int.ofNat 64)) = (true)) → (((okRegIn d (Int.ofNat 64)) = (true)) → (((okRegIn e (Int.ofNat 64)) = (true)) → (((okRegIn g (Int.ofNat 64)) = (true)) → (((ieq (BackV h i) (Int.ofNat 0)) = (true)) → (((!ilt j (Int.ofNat 1)) = (true)) → (V.bool true) = (V.bool (okAllowed a b c d e f g h i j))) ∧
        (((!ilt j (Int.ofNat 1)) = (false)) → (V.bool false) = (V.bool (okAllowed a b c d e f g h i j)))) ∧
       (((ieq (BackV h i) (Int.ofNat 0)) = (false)) → (V.bool false) = (V.bool (okAllowed a b c d e f g h i j)))) ∧
      (((okRegIn g (Int.ofNat 64)) = (false)) → (V.bool false) = (V.bool (okAllowed a b c d e f g h i j)))) ∧
     (((okRegIn e (Int.ofNat 64)) = (false)) → (V.bool false) = (V.bool (okAllowed a b c d e f g h i j)))) ∧
    (((okRegIn d (Int.ofNat 64)) = (false)) → (V.bool false) = (V.bool (okAllowed a b c d e f g h i j)))) ∧
   (((okRegIn c (Int.ofNat 64)) = (false)) → (V.bool false) = (V.bool (okAllowed a b c d e f g h i j)))) ∧
  (((okRegIn b (Int.ofNat 4)) = (false)) → (V.bool false) = (V.bool (okAllowed a b c d e f g h i j)))) ∧
 (((okRegIn f (Int.ofNat 256)) = (false)) → (V.bool false) = (V.bool (okAllowed a b c d e f g h i j)))) ∧
(((okRegIn a (Int.ofNat 256)) = (false)) → (V.bool false) = (V.bool (okAllowed a b c d e f g h i j)))) := by kernel_rfl
theorem Allowed_fn (a b c d e f g h i j : Int) : fnW Ga spAllowed 100 iAllowed [.agg 10 [.int .i64 a, .int .i64 b, .int .i64 c, .int .i64 d, .int .i64 e, .int .i64 f, .int .i64 g, .int .i64 h, .int .i64 i, .int .u32 j] .leaf] hE (fun u _ => u = .bool (okAllowed a b c d e f g h i j)) := by
  rw [vAllowed]
  repeat' (first | exact trivial | apply And.intro | intro)
  all_goals
    (try simp only [ilt_t, ne_eq, Int.cast_ofNat_Int,  ilt_f, ieq_t, ieq_f, not_t, not_f, iofn, okRegIn_t, okRegIn_f, BackV_z] at *)
    refine congrArg V.bool ?_
    first
      | contradiction
      | exact ((okAllowed_t a b c d e f g h i j).2 (by omega)).symm
      | exact ((okAllowed_f a b c d e f g h i j).2 (by omega)).symm
def AllowedF : List V → Option V
  | [.agg 10 [.int .i64 a, .int .i64 b, .int .i64 c, .int .i64 d, .int .i64 e, .int .i64 f, .int .i64 g, .int .i64 h, .int .i64 i, .int .u32 j] .leaf] => some (.bool (okAllowed a b c d e f g h i j))
  | _ => none
noncomputable def kAllowed : Known := (iAllowed, known AllowedF)
theorem Allowed_ok : KnownOk Tryz.prog kAllowed :=
  known_ok (sp := spAllowed) (N := 100) (mk_ok _).1 (mk_ok _).2 Ga_x (kx2_ok (l := klGa) (lp := plGa) rfl) fun l v h => by
    unfold AllowedF at h
    split at h
    · cases h; exact ⟨rfl, Allowed_fn ..⟩
    · cases h
end Go.Proofs.YtemanejjmkjfnaaGreatDoor

/- What registries consist of, out of its parts. -/
import Derived.Test.YtemanejjmkjfnaaGreatDoorMc1
import Derived.Test.YtemanejjmkjfnaaGreatDoorSl
namespace Go.Proofs.YtemanejjmkjfnaaGreatDoor
set_option maxRecDepth 100000
open Go.Ev Go.RowKit
noncomputable def klGb : List Known := [kGens, kBack, kRegIn, kAllowed]
noncomputable def plGb : List KnownP := [kColour, kStack, kBuffer, kSweep, kPhantom, kQueue, kQuota, kPhase, kSlots]
noncomputable def Gb : Γ := mkG Tryz.prog eqs rows (ext2 klGb plGb)
theorem Gb_k : ∀ x, x ∈ klGb → KnownOk Tryz.prog x := fun x hx => by
  simp only [klGb, List.mem_cons, List.not_mem_nil, or_false] at hx
  rcases hx with rfl | rfl | rfl | rfl
  · exact Gens_ok
  · exact Back_ok
  · exact RegIn_ok
  · exact Allowed_ok

theorem Gb_p : ∀ x, x ∈ plGb → KnownPOk Tryz.prog x := fun x hx => by
  simp only [plGb, List.mem_cons, List.not_mem_nil, or_false] at hx
  rcases hx with rfl | rfl | rfl | rfl | rfl | rfl | rfl | rfl | rfl
  · exact Colour_ok
  · exact Stack_ok
  · exact Buffer_ok
  · exact Sweep_ok
  · exact Phantom_ok
  · exact Queue_ok
  · exact Quota_ok
  · exact Phase_ok
  · exact Slots_ok

theorem Gb_x : ExtOK Tryz.prog Gb := ext2_ok (l := klGb) (lp := plGb) Gb_k Gb_p rfl
def badHeap (a j : Int) : Bool := !decide (1 ≤ a ∧ a ≤ 256 ∧ 1 ≤ j ∧ j ≤ 4294967295)
theorem badHeap_t (a j : Int) : badHeap a j = true ↔ ¬ (1 ≤ a ∧ a ≤ 256 ∧ 1 ≤ j ∧ j ≤ 4294967295) := by simp only [badHeap, not_t, decide_eq_false_iff_not]
theorem badHeap_f (a j : Int) : badHeap a j = false ↔ (1 ≤ a ∧ a ≤ 256 ∧ 1 ≤ j ∧ j ≤ 4294967295) := by simp only [badHeap, not_f, decide_eq_true_eq]
noncomputable def spHeap : SpF where
  at' := fun f t => match Nat.beq f iHeap, t with | true, 9 => .both | true, 12 => .both | true, 16 => .both | _, _ => .keep
  kx := kx2 klGb plGb
theorem vHeap (a j : Int) : (fnW Gb spHeap 100 iHeap [.int .i64 a, .int .u32 j] hE (fun u _ => madeK (badHeap a j) 2 u)) = (
(((ilt a (Int.ofNat 1)) = (true)) → ((badHeap a j) = (true)) ∧
 (((IntKind.i64) = (IntKind.i64)) ∧
  ((Int.ofNat 2) = (Int.ofNat 2)))) ∧
(((ilt a (Int.ofNat 1)) = (false)) → (((ilt (Int.ofNat 256) a) = (true)) → ((badHeap a j) = (true)) ∧
  (((IntKind.i64) = (IntKind.i64)) ∧
   ((Int.ofNat 2) = (Int.ofNat 2)))) ∧
 (((ilt (Int.ofNat 256) a) = (false)) → (((ilt j (Int.ofNat 1)) = (true)) → ((badHeap a j) = (true)) ∧
   (((IntKind.i64) = (IntKind.i64)) ∧
    ((Int.ofNat 2) = (Int.ofNat 2)))) ∧
  (((ilt j (Int.ofNat 1)) = (false)) → (((badSlots a j) = (true)) → ((badHeap a j) = (true)) ∧
    (((IntKind.i64) = (IntKind.i64)) ∧
     ((Int.ofNat 2) = (Int.ofNat 2)))) ∧
   (((badSlots a j) = (false)) → ((badHeap a j) = (false)) ∧
    (((IntKind.i64) = (IntKind.i64)) ∧
     ((Int.ofNat 0) = (Int.ofNat 0)))))))) := by kernel_rfl
theorem Heap_fn (a j : Int) : fnW Gb spHeap 100 iHeap [.int .i64 a, .int .u32 j] hE (fun u _ => madeK (badHeap a j) 2 u) := by
  rw [vHeap]
  repeat' (first | exact rfl | exact trivial | apply And.intro | intro)
  all_goals
    (try simp only [ilt_t, Int.cast_ofNat_Int,  ilt_f, iofn, badSlots_t, badSlots_f] at *)
    first
      | contradiction
      | omega
      | (rw [badHeap_t]; omega)
      | (rw [badHeap_f]; omega)
def HeapF : List V → Option (Bool × Int)
  | [.int .i64 a, .int .u32 j] => some (badHeap a j, 2)
  | _ => none
noncomputable def kHeap : KnownP := (iHeap, knownP HeapF)
theorem Heap_ok : KnownPOk Tryz.prog kHeap :=
  known_p (sp := spHeap) (N := 100) (mk_ok _).1 (mk_ok _).2 Gb_x (kx2_ok (l := klGb) (lp := plGb) rfl) fun l b e h => by
    unfold HeapF at h
    split at h
    · cases h; exact Heap_fn ..
    · cases h
def badMarker (a b c d : Int) : Bool := !decide (1 ≤ a ∧ a ≤ 256 ∧ 1 ≤ b ∧ b ≤ 4 ∧ 1 ≤ c ∧ c ≤ 64 ∧ 1 ≤ d ∧ d ≤ 64)
theorem badMarker_t (a b c d : Int) : badMarker a b c d = true ↔ ¬ (1 ≤ a ∧ a ≤ 256 ∧ 1 ≤ b ∧ b ≤ 4 ∧ 1 ≤ c ∧ c ≤ 64 ∧ 1 ≤ d ∧ d ≤ 64) := by simp only [badMarker, not_t, decide_eq_false_iff_not]
theorem badMarker_f (a b c d : Int) : badMarker a b c d = false ↔ (1 ≤ a ∧ a ≤ 256 ∧ 1 ≤ b ∧ b ≤ 4 ∧ 1 ≤ c ∧ c ≤ 64 ∧ 1 ≤ d ∧ d ≤ 64) := by simp only [badMarker, not_f, decide_eq_true_eq]
noncomputable def spMarker : SpF where
  at' := fun f t => match Nat.beq f iMarker, t with | true, 51 => .upto 5 | _, _ => .keep
  kx := kx2 klGb plGb
theorem vMarker (a b c d : Int) : (fnW Gb spMarker 100 iMarker [.int .i64 a, .int .i64 b, .int .i64 c, .int .i64 d] hE (fun u _ => madeK (badMarker a b c d) 2 u)) = (
(((badColour a) = (true)) → ((badMarker a b c d) = (true)) ∧
 (((IntKind.i64) = (IntKind.i64)) ∧
  ((Int.ofNat 2) = (Int.ofNat 2)))) ∧
(((badColour a) = (false)) → (((badPhase b) = (true)) → ((badMarker a b c d) = (true)) ∧
  (((IntKind.i64) = (IntKind.i64)) ∧
   ((Int.ofNat 2) = (Int.ofNat 2)))) ∧
 (((badPhase b) = (false)) → (((badStack c) = (true)) → ((badMarker a b c d) = (true)) ∧
   (((IntKind.i64) = (IntKind.i64)) ∧
    ((Int.ofNat 2) = (Int.ofNat 2)))) ∧
  (((badStack c) = (false)) → ((ilt b (Int.ofNat 0)) = (false)) ∧
   (((ilt b (Int.ofNat 5)) = (true)) ∧
    ((((((True) ∧
         (((b) = (Int.ofNat 0)) → ((badMarker a b c d) = (false)) ∧
          (((IntKind.i64) = (IntKind.i64)) ∧
           ((Int.ofNat 0) = (Int.ofNat 0))))) ∧
        (((b) = (Int.ofNat 1)) → (((badBuffer d) = (true)) → ((badMarker a b c d) = (true)) ∧
          (((IntKind.i64) = (IntKind.i64)) ∧
           ((Int.ofNat 2) = (Int.ofNat 2)))) ∧
         (((badBuffer d) = (false)) → ((badMarker a b c d) = (false)) ∧
          (((IntKind.i64) = (IntKind.i64)) ∧
           ((Int.ofNat 0) = (Int.ofNat 0)))))) ∧
       (((b) = (Int.ofNat 2)) → (((badBuffer d) = (true)) → ((badMarker a b c d) = (true)) ∧
         (((IntKind.i64) = (IntKind.i64)) ∧
          ((Int.ofNat 2) = (Int.ofNat 2)))) ∧
        (((badBuffer d) = (false)) → (((badBuffer d) = (true)) → ((badMarker a b c d) = (true)) ∧
          (((IntKind.i64) = (IntKind.i64)) ∧
           ((Int.ofNat 2) = (Int.ofNat 2)))) ∧
         (((badBuffer d) = (false)) → ((badMarker a b c d) = (false)) ∧
          (((IntKind.i64) = (IntKind.i64)) ∧
           ((Int.ofNat 0) = (Int.ofNat 0))))))) ∧
      (((b) = (Int.ofNat 3)) → (((badBuffer d) = (true)) → ((badMarker a b c d) = (true)) ∧
        (((IntKind.i64) = (IntKind.i64)) ∧
         ((Int.ofNat 2) = (Int.ofNat 2)))) ∧
       (((badBuffer d) = (false)) → (((badBuffer d) = (true)) → ((badMarker a b c d) = (true)) ∧
         (((IntKind.i64) = (IntKind.i64)) ∧
          ((Int.ofNat 2) = (Int.ofNat 2)))) ∧
        (((badBuffer d) = (false)) → (((badBuffer d) = (true)) → ((badMarker a b c d) = (true)) ∧
          (((IntKind.i64) = (IntKind.i64)) ∧
           ((Int.ofNat 2) = (Int.ofNat 2)))) ∧
         (((badBuffer d) = (false)) → ((badMarker a b c d) = (false)) ∧
          (((IntKind.i64) = (IntKind.i64)) ∧
           ((Int.ofNat 0) = (Int.ofNat 0)))))))) ∧
     (((b) = (Int.ofNat 4)) → (((badBuffer d) = (true)) → ((badMarker a b c d) = (true)) ∧
       (((IntKind.i64) = (IntKind.i64)) ∧
        ((Int.ofNat 2) = (Int.ofNat 2)))) ∧
      (((badBuffer d) = (false)) → (((badBuffer d) = (true)) → ((badMarker a b c d) = (true)) ∧
        (((IntKind.i64) = (IntKind.i64)) ∧
         ((Int.ofNat 2) = (Int.ofNat 2)))) ∧
       (((badBuffer d) = (false)) → (((badBuffer d) = (true)) → ((badMarker a b c d) = (true)) ∧
         (((IntKind.i64) = (IntKind.i64)) ∧
          ((Int.ofNat 2) = (Int.ofNat 2)))) ∧
        (((badBuffer d) = (false)) → (((badBuffer d) = (true)) → ((badMarker a b c d) = (true)) ∧
          (((IntKind.i64) = (IntKind.i64)) ∧
           ((Int.ofNat 2) = (Int.ofNat 2)))) ∧
         (((badBuffer d) = (false)) → ((badMarker a b c d) = (false)) ∧
          (((IntKind.i64) = (IntKind.i64)) ∧
           ((Int.ofNat 0) = (Int.ofNat 0)))))))))))))) := by kernel_rfl
theorem Marker_fn (a b c d : Int) : fnW Gb spMarker 100 iMarker [.int .i64 a, .int .i64 b, .int .i64 c, .int .i64 d] hE (fun u _ => madeK (badMarker a b c d) 2 u) := by
  rw [vMarker]
  repeat' (first | exact rfl | exact trivial | apply And.intro | intro)
  all_goals
    (try simp only [ilt_t, Int.cast_ofNat_Int,  ilt_f, iofn, badColour_t, badColour_f, badPhase_t, badPhase_f, badStack_t, badStack_f, badBuffer_t, badBuffer_f] at *)
    first
      | contradiction
      | omega
      | (rw [badMarker_t]; omega)
      | (rw [badMarker_f]; omega)
def MarkerF : List V → Option (Bool × Int)
  | [.int .i64 a, .int .i64 b, .int .i64 c, .int .i64 d] => some (badMarker a b c d, 2)
  | _ => none
noncomputable def kMarker : KnownP := (iMarker, knownP MarkerF)
theorem Marker_ok : KnownPOk Tryz.prog kMarker :=
  known_p (sp := spMarker) (N := 100) (mk_ok _).1 (mk_ok _).2 Gb_x (kx2_ok (l := klGb) (lp := plGb) rfl) fun l b e h => by
    unfold MarkerF at h
    split at h
    · cases h; exact Marker_fn ..
    · cases h
def badRefq (a b : Int) : Bool := !decide (1 ≤ a ∧ a ≤ 256 ∧ 1 ≤ b ∧ b ≤ 64)
theorem badRefq_t (a b : Int) : badRefq a b = true ↔ ¬ (1 ≤ a ∧ a ≤ 256 ∧ 1 ≤ b ∧ b ≤ 64) := by simp only [badRefq, not_t, decide_eq_false_iff_not]
theorem badRefq_f (a b : Int) : badRefq a b = false ↔ (1 ≤ a ∧ a ≤ 256 ∧ 1 ≤ b ∧ b ≤ 64) := by simp only [badRefq, not_f, decide_eq_true_eq]
noncomputable def spRefq : SpF where
  at' := fun f t => match Nat.beq f iRefq, t with | true, 10 => .both | true, 13 => .both | true, 17 => .both | true, 21 => .both | _, _ => .keep
  kx := kx2 klGb plGb
theorem vRefq (a b : Int) : (fnW Gb spRefq 100 iRefq [.int .i64 a, .int .i64 b] hE (fun u _ => madeK (badRefq a b) 2 u)) = (
(((ilt a (Int.ofNat 1)) = (true)) → ((badRefq a b) = (true)) ∧
 (((IntKind.i64) = (IntKind.i64)) ∧
  ((Int.ofNat 2) = (Int.ofNat 2)))) ∧
(((ilt a (Int.ofNat 1)) = (false)) → (((ilt (Int.ofNat 256) a) = (true)) → ((badRefq a b) = (true)) ∧
  (((IntKind.i64) = (IntKind.i64)) ∧
   ((Int.ofNat 2) = (Int.ofNat 2)))) ∧
 (((ilt (Int.ofNat 256) a) = (false)) → (((ilt b (Int.ofNat 1)) = (true)) → ((badRefq a b) = (true)) ∧
   (((IntKind.i64) = (IntKind.i64)) ∧
    ((Int.ofNat 2) = (Int.ofNat 2)))) ∧
  (((ilt b (Int.ofNat 1)) = (false)) → (((ilt (Int.ofNat 64) b) = (true)) → ((badRefq a b) = (true)) ∧
    (((IntKind.i64) = (IntKind.i64)) ∧
     ((Int.ofNat 2) = (Int.ofNat 2)))) ∧
   (((ilt (Int.ofNat 64) b) = (false)) → (((badPhantom a) = (true)) → ((badRefq a b) = (true)) ∧
     (((IntKind.i64) = (IntKind.i64)) ∧
      ((Int.ofNat 2) = (Int.ofNat 2)))) ∧
    (((badPhantom a) = (false)) → (((badQueue b) = (true)) → ((badRefq a b) = (true)) ∧
      (((IntKind.i64) = (IntKind.i64)) ∧
       ((Int.ofNat 2) = (Int.ofNat 2)))) ∧
     (((badQueue b) = (false)) → ((badRefq a b) = (false)) ∧
      (((IntKind.i64) = (IntKind.i64)) ∧
       ((Int.ofNat 0) = (Int.ofNat 0)))))))))) := by kernel_rfl
theorem Refq_fn (a b : Int) : fnW Gb spRefq 100 iRefq [.int .i64 a, .int .i64 b] hE (fun u _ => madeK (badRefq a b) 2 u) := by
  rw [vRefq]
  repeat' (first | exact rfl | exact trivial | apply And.intro | intro)
  all_goals
    (try simp only [ilt_t, Int.cast_ofNat_Int,  ilt_f, iofn, badPhantom_t, badPhantom_f, badQueue_t, badQueue_f] at *)
    first
      | contradiction
      | omega
      | (rw [badRefq_t]; omega)
      | (rw [badRefq_f]; omega)
def RefqF : List V → Option (Bool × Int)
  | [.int .i64 a, .int .i64 b] => some (badRefq a b, 2)
  | _ => none
noncomputable def kRefq : KnownP := (iRefq, knownP RefqF)
theorem Refq_ok : KnownPOk Tryz.prog kRefq :=
  known_p (sp := spRefq) (N := 100) (mk_ok _).1 (mk_ok _).2 Gb_x (kx2_ok (l := klGb) (lp := plGb) rfl) fun l b e h => by
    unfold RefqF at h
    split at h
    · cases h; exact Refq_fn ..
    · cases h
def badTable (a j : Int) : Bool := !decide (1 ≤ a ∧ a ≤ 256 ∧ 1 ≤ j ∧ j ≤ 4294967295)
theorem badTable_t (a j : Int) : badTable a j = true ↔ ¬ (1 ≤ a ∧ a ≤ 256 ∧ 1 ≤ j ∧ j ≤ 4294967295) := by simp only [badTable, not_t, decide_eq_false_iff_not]
theorem badTable_f (a j : Int) : badTable a j = false ↔ (1 ≤ a ∧ a ≤ 256 ∧ 1 ≤ j ∧ j ≤ 4294967295) := by simp only [badTable, not_f, decide_eq_true_eq]
noncomputable def spTable : SpF where
  at' := fun f t => match Nat.beq f iTable, t with | _, _ => .keep
  kx := kx2 klGb plGb
theorem vTable (a j : Int) : (fnW Gb spTable 100 iTable [.int .i64 a, .int .u32 j] hE (fun u _ => madeK (badTable a j) 2 u)) = (
(((badSlots a j) = (true)) → ((badTable a j) = (true)) ∧
 (((IntKind.i64) = (IntKind.i64)) ∧
  ((Int.ofNat 2) = (Int.ofNat 2)))) ∧
(((badSlots a j) = (false)) → ((badTable a j) = (false)) ∧
 (((IntKind.i64) = (IntKind.i64)) ∧
  ((Int.ofNat 0) = (Int.ofNat 0))))) := by kernel_rfl
theorem Table_fn (a j : Int) : fnW Gb spTable 100 iTable [.int .i64 a, .int .u32 j] hE (fun u _ => madeK (badTable a j) 2 u) := by
  rw [vTable]
  repeat' (first | exact rfl | exact trivial | apply And.intro | intro)
  all_goals
    (try simp only [badSlots_t, badSlots_f] at *)
    first
      | contradiction
      | omega
      | (rw [badTable_t]; omega)
      | (rw [badTable_f]; omega)
def TableF : List V → Option (Bool × Int)
  | [.int .i64 a, .int .u32 j] => some (badTable a j, 2)
  | _ => none
noncomputable def kTable : KnownP := (iTable, knownP TableF)
theorem Table_ok : KnownPOk Tryz.prog kTable :=
  known_p (sp := spTable) (N := 100) (mk_ok _).1 (mk_ok _).2 Gb_x (kx2_ok (l := klGb) (lp := plGb) rfl) fun l b e h => by
    unfold TableF at h
    split at h
    · cases h; exact Table_fn ..
    · cases h
def badFds (a j : Int) : Bool := !decide (1 ≤ a ∧ a ≤ 64 ∧ 1 ≤ j ∧ j ≤ 4294967295)
theorem badFds_t (a j : Int) : badFds a j = true ↔ ¬ (1 ≤ a ∧ a ≤ 64 ∧ 1 ≤ j ∧ j ≤ 4294967295) := by simp only [badFds, not_t, decide_eq_false_iff_not]
theorem badFds_f (a j : Int) : badFds a j = false ↔ (1 ≤ a ∧ a ≤ 64 ∧ 1 ≤ j ∧ j ≤ 4294967295) := by simp only [badFds, not_f, decide_eq_true_eq]
noncomputable def spFds : SpF where
  at' := fun f t => match Nat.beq f iFds, t with | true, 9 => .both | _, _ => .keep
  kx := kx2 klGb plGb
theorem vFds (a j : Int) : (fnW Gb spFds 100 iFds [.int .i64 a, .int .u32 j] hE (fun u _ => madeK (badFds a j) 2 u)) = (
(((ilt (Int.ofNat 64) a) = (true)) → ((badFds a j) = (true)) ∧
 (((IntKind.i64) = (IntKind.i64)) ∧
  ((Int.ofNat 2) = (Int.ofNat 2)))) ∧
(((ilt (Int.ofNat 64) a) = (false)) → (((badSlots a j) = (true)) → ((badFds a j) = (true)) ∧
  (((IntKind.i64) = (IntKind.i64)) ∧
   ((Int.ofNat 2) = (Int.ofNat 2)))) ∧
 (((badSlots a j) = (false)) → ((badFds a j) = (false)) ∧
  (((IntKind.i64) = (IntKind.i64)) ∧
   ((Int.ofNat 0) = (Int.ofNat 0)))))) := by kernel_rfl
theorem Fds_fn (a j : Int) : fnW Gb spFds 100 iFds [.int .i64 a, .int .u32 j] hE (fun u _ => madeK (badFds a j) 2 u) := by
  rw [vFds]
  repeat' (first | exact rfl | exact trivial | apply And.intro | intro)
  all_goals
    (try simp only [ilt_t, Int.cast_ofNat_Int,  ilt_f, iofn, badSlots_t, badSlots_f] at *)
    first
      | contradiction
      | omega
      | (rw [badFds_t]; omega)
      | (rw [badFds_f]; omega)
def FdsF : List V → Option (Bool × Int)
  | [.int .i64 a, .int .u32 j] => some (badFds a j, 2)
  | _ => none
noncomputable def kFds : KnownP := (iFds, knownP FdsF)
theorem Fds_ok : KnownPOk Tryz.prog kFds :=
  known_p (sp := spFds) (N := 100) (mk_ok _).1 (mk_ok _).2 Gb_x (kx2_ok (l := klGb) (lp := plGb) rfl) fun l b e h => by
    unfold FdsF at h
    split at h
    · cases h; exact Fds_fn ..
    · cases h
def badBufs (a b j : Int) : Bool := !decide (1 ≤ a ∧ a ≤ 64 ∧ 1 ≤ b ∧ b ≤ 16777216 ∧ 1 ≤ j ∧ j ≤ 4294967295)
theorem badBufs_t (a b j : Int) : badBufs a b j = true ↔ ¬ (1 ≤ a ∧ a ≤ 64 ∧ 1 ≤ b ∧ b ≤ 16777216 ∧ 1 ≤ j ∧ j ≤ 4294967295) := by simp only [badBufs, not_t, decide_eq_false_iff_not]
theorem badBufs_f (a b j : Int) : badBufs a b j = false ↔ (1 ≤ a ∧ a ≤ 64 ∧ 1 ≤ b ∧ b ≤ 16777216 ∧ 1 ≤ j ∧ j ≤ 4294967295) := by simp only [badBufs, not_f, decide_eq_true_eq]
noncomputable def spBufs : SpF where
  at' := fun f t => match Nat.beq f iBufs, t with | true, 11 => .both | true, 14 => .both | true, 18 => .both | true, 22 => .both | true, 26 => .both | _, _ => .keep
  kx := kx2 klGb plGb
theorem vBufs (a b j : Int) : (fnW Gb spBufs 100 iBufs [.int .i64 a, .int .i64 b, .int .u32 j] hE (fun u _ => madeK (badBufs a b j) 2 u)) = (
(((ilt a (Int.ofNat 1)) = (true)) → ((badBufs a b j) = (true)) ∧
 (((IntKind.i64) = (IntKind.i64)) ∧
  ((Int.ofNat 2) = (Int.ofNat 2)))) ∧
(((ilt a (Int.ofNat 1)) = (false)) → (((ilt (Int.ofNat 64) a) = (true)) → ((badBufs a b j) = (true)) ∧
  (((IntKind.i64) = (IntKind.i64)) ∧
   ((Int.ofNat 2) = (Int.ofNat 2)))) ∧
 (((ilt (Int.ofNat 64) a) = (false)) → (((ilt b (Int.ofNat 1)) = (true)) → ((badBufs a b j) = (true)) ∧
   (((IntKind.i64) = (IntKind.i64)) ∧
    ((Int.ofNat 2) = (Int.ofNat 2)))) ∧
  (((ilt b (Int.ofNat 1)) = (false)) → (((ilt (Int.ofNat 16777216) b) = (true)) → ((badBufs a b j) = (true)) ∧
    (((IntKind.i64) = (IntKind.i64)) ∧
     ((Int.ofNat 2) = (Int.ofNat 2)))) ∧
   (((ilt (Int.ofNat 16777216) b) = (false)) → (((ilt j (Int.ofNat 1)) = (true)) → ((badBufs a b j) = (true)) ∧
     (((IntKind.i64) = (IntKind.i64)) ∧
      ((Int.ofNat 2) = (Int.ofNat 2)))) ∧
    (((ilt j (Int.ofNat 1)) = (false)) → (((badSlots a j) = (true)) → ((badBufs a b j) = (true)) ∧
      (((IntKind.i64) = (IntKind.i64)) ∧
       ((Int.ofNat 2) = (Int.ofNat 2)))) ∧
     (((badSlots a j) = (false)) → ((badBufs a b j) = (false)) ∧
      (((IntKind.i64) = (IntKind.i64)) ∧
       ((Int.ofNat 0) = (Int.ofNat 0)))))))))) := by kernel_rfl
theorem Bufs_fn (a b j : Int) : fnW Gb spBufs 100 iBufs [.int .i64 a, .int .i64 b, .int .u32 j] hE (fun u _ => madeK (badBufs a b j) 2 u) := by
  rw [vBufs]
  repeat' (first | exact rfl | exact trivial | apply And.intro | intro)
  all_goals
    (try simp only [ilt_t, Int.cast_ofNat_Int,  ilt_f, iofn, badSlots_t, badSlots_f] at *)
    first
      | contradiction
      | omega
      | (rw [badBufs_t]; omega)
      | (rw [badBufs_f]; omega)
def BufsF : List V → Option (Bool × Int)
  | [.int .i64 a, .int .i64 b, .int .u32 j] => some (badBufs a b j, 2)
  | _ => none
noncomputable def kBufs : KnownP := (iBufs, knownP BufsF)
theorem Bufs_ok : KnownPOk Tryz.prog kBufs :=
  known_p (sp := spBufs) (N := 100) (mk_ok _).1 (mk_ok _).2 Gb_x (kx2_ok (l := klGb) (lp := plGb) rfl) fun l b e h => by
    unfold BufsF at h
    split at h
    · cases h; exact Bufs_fn ..
    · cases h
def badLeases (a j : Int) : Bool := !decide (1 ≤ a ∧ a ≤ 64 ∧ 1 ≤ j ∧ j ≤ 4294967295)
theorem badLeases_t (a j : Int) : badLeases a j = true ↔ ¬ (1 ≤ a ∧ a ≤ 64 ∧ 1 ≤ j ∧ j ≤ 4294967295) := by simp only [badLeases, not_t, decide_eq_false_iff_not]
theorem badLeases_f (a j : Int) : badLeases a j = false ↔ (1 ≤ a ∧ a ≤ 64 ∧ 1 ≤ j ∧ j ≤ 4294967295) := by simp only [badLeases, not_f, decide_eq_true_eq]
noncomputable def spLeases : SpF where
  at' := fun f t => match Nat.beq f iLeases, t with | true, 9 => .both | true, 12 => .both | _, _ => .keep
  kx := kx2 klGb plGb
theorem vLeases (a j : Int) : (fnW Gb spLeases 100 iLeases [.int .i64 a, .int .u32 j] hE (fun u _ => madeK (badLeases a j) 2 u)) = (
(((ilt a (Int.ofNat 1)) = (true)) → ((badLeases a j) = (true)) ∧
 (((IntKind.i64) = (IntKind.i64)) ∧
  ((Int.ofNat 2) = (Int.ofNat 2)))) ∧
(((ilt a (Int.ofNat 1)) = (false)) → (((ilt (Int.ofNat 64) a) = (true)) → ((badLeases a j) = (true)) ∧
  (((IntKind.i64) = (IntKind.i64)) ∧
   ((Int.ofNat 2) = (Int.ofNat 2)))) ∧
 (((ilt (Int.ofNat 64) a) = (false)) → (((badSlots a j) = (true)) → ((badLeases a j) = (true)) ∧
   (((IntKind.i64) = (IntKind.i64)) ∧
    ((Int.ofNat 2) = (Int.ofNat 2)))) ∧
  (((badSlots a j) = (false)) → ((badLeases a j) = (false)) ∧
   (((IntKind.i64) = (IntKind.i64)) ∧
    ((Int.ofNat 0) = (Int.ofNat 0))))))) := by kernel_rfl
theorem Leases_fn (a j : Int) : fnW Gb spLeases 100 iLeases [.int .i64 a, .int .u32 j] hE (fun u _ => madeK (badLeases a j) 2 u) := by
  rw [vLeases]
  repeat' (first | exact rfl | exact trivial | apply And.intro | intro)
  all_goals
    (try simp only [ilt_t, Int.cast_ofNat_Int,  ilt_f, iofn, badSlots_t, badSlots_f] at *)
    first
      | contradiction
      | omega
      | (rw [badLeases_t]; omega)
      | (rw [badLeases_f]; omega)
def LeasesF : List V → Option (Bool × Int)
  | [.int .i64 a, .int .u32 j] => some (badLeases a j, 2)
  | _ => none
noncomputable def kLeases : KnownP := (iLeases, knownP LeasesF)
theorem Leases_ok : KnownPOk Tryz.prog kLeases :=
  known_p (sp := spLeases) (N := 100) (mk_ok _).1 (mk_ok _).2 Gb_x (kx2_ok (l := klGb) (lp := plGb) rfl) fun l b e h => by
    unfold LeasesF at h
    split at h
    · cases h; exact Leases_fn ..
    · cases h
noncomputable def klGc : List Known := [kGens, kBack, kRegIn, kAllowed]
noncomputable def plGc : List KnownP := [kColour, kStack, kBuffer, kSweep, kPhantom, kQueue, kQuota, kPhase, kSlots, kHeap, kMarker, kRefq, kTable, kFds, kBufs, kLeases]
noncomputable def Gc : Γ := mkG Tryz.prog eqs rows (ext2 klGc plGc)
theorem Gc_k : ∀ x, x ∈ klGc → KnownOk Tryz.prog x := fun x hx => by
  simp only [klGc, List.mem_cons, List.not_mem_nil, or_false] at hx
  rcases hx with rfl | rfl | rfl | rfl
  · exact Gens_ok
  · exact Back_ok
  · exact RegIn_ok
  · exact Allowed_ok

theorem Gc_p : ∀ x, x ∈ plGc → KnownPOk Tryz.prog x := fun x hx => by
  simp only [plGc, List.mem_cons, List.not_mem_nil, or_false] at hx
  rcases hx with rfl | rfl | rfl | rfl | rfl | rfl | rfl | rfl | rfl | rfl | rfl | rfl | rfl | rfl | rfl | rfl
  · exact Colour_ok
  · exact Stack_ok
  · exact Buffer_ok
  · exact Sweep_ok
  · exact Phantom_ok
  · exact Queue_ok
  · exact Quota_ok
  · exact Phase_ok
  · exact Slots_ok
  · exact Heap_ok
  · exact Marker_ok
  · exact Refq_ok
  · exact Table_ok
  · exact Fds_ok
  · exact Bufs_ok
  · exact Leases_ok

theorem Gc_x : ExtOK Tryz.prog Gc := ext2_ok (l := klGc) (lp := plGc) Gc_k Gc_p rfl
def badArena (a b j : Int) : Bool := !decide (1 ≤ a ∧ a ≤ 256 ∧ 1 ≤ b ∧ b ≤ 4 ∧ 1 ≤ j ∧ j ≤ 4294967295)
theorem badArena_t (a b j : Int) : badArena a b j = true ↔ ¬ (1 ≤ a ∧ a ≤ 256 ∧ 1 ≤ b ∧ b ≤ 4 ∧ 1 ≤ j ∧ j ≤ 4294967295) := by simp only [badArena, not_t, decide_eq_false_iff_not]
theorem badArena_f (a b j : Int) : badArena a b j = false ↔ (1 ≤ a ∧ a ≤ 256 ∧ 1 ≤ b ∧ b ≤ 4 ∧ 1 ≤ j ∧ j ≤ 4294967295) := by simp only [badArena, not_f, decide_eq_true_eq]
noncomputable def spArena : SpF where
  at' := fun f t => match Nat.beq f iArena, t with | true, 22 => .both | true, 26 => .both | true, 36 => .upto 5 | _, _ => .keep
  kx := kx2 klGc plGc
theorem vArena (a b j : Int) : (fnW Gc spArena 100 iArena [.int .i64 a, .int .i64 b, .int .u32 j] hE (fun u _ => madeK (badArena a b j) 2 u)) = (
(((badHeap a j) = (true)) → ((badArena a b j) = (true)) ∧
 (((IntKind.i64) = (IntKind.i64)) ∧
  ((Int.ofNat 2) = (Int.ofNat 2)))) ∧
(((badHeap a j) = (false)) → (((ilt b (Int.ofNat 1)) = (true)) → ((badArena a b j) = (true)) ∧
  (((IntKind.i64) = (IntKind.i64)) ∧
   ((Int.ofNat 2) = (Int.ofNat 2)))) ∧
 (((ilt b (Int.ofNat 1)) = (false)) → (((ilt (Int.ofNat 4) b) = (true)) → ((badArena a b j) = (true)) ∧
   (((IntKind.i64) = (IntKind.i64)) ∧
    ((Int.ofNat 2) = (Int.ofNat 2)))) ∧
  (((ilt (Int.ofNat 4) b) = (false)) → ((ilt b (Int.ofNat 0)) = (false)) ∧
   (((ilt b (Int.ofNat 5)) = (true)) ∧
    ((((((True) ∧
         (((b) = (Int.ofNat 0)) → ((badArena a b j) = (false)) ∧
          (((IntKind.i64) = (IntKind.i64)) ∧
           ((Int.ofNat 0) = (Int.ofNat 0))))) ∧
        (((b) = (Int.ofNat 1)) → (True) ∧
         (((badArena a b j) = (false)) ∧
          (((IntKind.i64) = (IntKind.i64)) ∧
           ((Int.ofNat 0) = (Int.ofNat 0)))))) ∧
       (((b) = (Int.ofNat 2)) → (True) ∧
        ((True) ∧
         (((badArena a b j) = (false)) ∧
          (((IntKind.i64) = (IntKind.i64)) ∧
           ((Int.ofNat 0) = (Int.ofNat 0))))))) ∧
      (((b) = (Int.ofNat 3)) → (True) ∧
       ((True) ∧
        ((True) ∧
         (((badArena a b j) = (false)) ∧
          (((IntKind.i64) = (IntKind.i64)) ∧
           ((Int.ofNat 0) = (Int.ofNat 0)))))))) ∧
     (((b) = (Int.ofNat 4)) → (True) ∧
      ((True) ∧
       ((True) ∧
        ((True) ∧
         (((badArena a b j) = (false)) ∧
          (((IntKind.i64) = (IntKind.i64)) ∧
           ((Int.ofNat 0) = (Int.ofNat 0)))))))))))))) := by kernel_rfl
theorem Arena_fn (a b j : Int) : fnW Gc spArena 100 iArena [.int .i64 a, .int .i64 b, .int .u32 j] hE (fun u _ => madeK (badArena a b j) 2 u) := by
  rw [vArena]
  repeat' (first | exact rfl | exact trivial | apply And.intro | intro)
  all_goals
    (try simp only [ilt_t, Int.cast_ofNat_Int,  ilt_f, iofn, badHeap_t, badHeap_f] at *)
    first
      | contradiction
      | omega
      | (rw [badArena_t]; omega)
      | (rw [badArena_f]; omega)
def ArenaF : List V → Option (Bool × Int)
  | [.int .i64 a, .int .i64 b, .int .u32 j] => some (badArena a b j, 2)
  | _ => none
noncomputable def kArena : KnownP := (iArena, knownP ArenaF)
theorem Arena_ok : KnownPOk Tryz.prog kArena :=
  known_p (sp := spArena) (N := 100) (mk_ok _).1 (mk_ok _).2 Gc_x (kx2_ok (l := klGc) (lp := plGc) rfl) fun l b e h => by
    unfold ArenaF at h
    split at h
    · cases h; exact Arena_fn ..
    · cases h
def badCycle (a b c d _e _f _g _h _i _j : Int) : Bool := !decide (1 ≤ a ∧ a ≤ 256 ∧ 1 ≤ b ∧ b ≤ 4 ∧ 1 ≤ c ∧ c ≤ 64 ∧ 1 ≤ d ∧ d ≤ 64)
theorem badCycle_t (a b c d e f g h i j : Int) : badCycle a b c d e f g h i j = true ↔ ¬ (1 ≤ a ∧ a ≤ 256 ∧ 1 ≤ b ∧ b ≤ 4 ∧ 1 ≤ c ∧ c ≤ 64 ∧ 1 ≤ d ∧ d ≤ 64) := by simp only [badCycle, not_t, decide_eq_false_iff_not]
theorem badCycle_f (a b c d e f g h i j : Int) : badCycle a b c d e f g h i j = false ↔ (1 ≤ a ∧ a ≤ 256 ∧ 1 ≤ b ∧ b ≤ 4 ∧ 1 ≤ c ∧ c ≤ 64 ∧ 1 ≤ d ∧ d ≤ 64) := by simp only [badCycle, not_f, decide_eq_true_eq]
noncomputable def spCycle : SpF where
  at' := fun f t => match Nat.beq f iCycle, t with | _, _ => .keep
  kx := kx2 klGc plGc
theorem vCycle (a b c d e f g h i j : Int) : (fnW Gc spCycle 100 iCycle [.agg 10 [.int .i64 a, .int .i64 b, .int .i64 c, .int .i64 d, .int .i64 e, .int .i64 f, .int .i64 g, .int .i64 h, .int .i64 i, .int .u32 j] .leaf] hE (fun u _ => madeK (badCycle a b c d e f g h i j) 2 u)) = (
(((badMarker a b c d) = (true)) → ((badCycle a b c d e f g h i j) = (true)) ∧
 (((IntKind.i64) = (IntKind.i64)) ∧
  ((Int.ofNat 2) = (Int.ofNat 2)))) ∧
(((badMarker a b c d) = (false)) → (((badSweep a) = (true)) → ((badCycle a b c d e f g h i j) = (true)) ∧
  (((IntKind.i64) = (IntKind.i64)) ∧
   ((Int.ofNat 2) = (Int.ofNat 2)))) ∧
 (((badSweep a) = (false)) → ((badCycle a b c d e f g h i j) = (false)) ∧
  (((IntKind.i64) = (IntKind.i64)) ∧
   ((Int.ofNat 0) = (Int.ofNat 0)))))) := by kernel_rfl
theorem Cycle_fn (a b c d e f g h i j : Int) : fnW Gc spCycle 100 iCycle [.agg 10 [.int .i64 a, .int .i64 b, .int .i64 c, .int .i64 d, .int .i64 e, .int .i64 f, .int .i64 g, .int .i64 h, .int .i64 i, .int .u32 j] .leaf] hE (fun u _ => madeK (badCycle a b c d e f g h i j) 2 u) := by
  rw [vCycle]
  repeat' (first | exact rfl | exact trivial | apply And.intro | intro)
  all_goals
    (try simp only [badMarker_t, badMarker_f, badSweep_t, badSweep_f] at *)
    first
      | contradiction
      | omega
      | (rw [badCycle_t]; omega)
      | (rw [badCycle_f]; omega)
def CycleF : List V → Option (Bool × Int)
  | [.agg 10 [.int .i64 a, .int .i64 b, .int .i64 c, .int .i64 d, .int .i64 e, .int .i64 f, .int .i64 g, .int .i64 h, .int .i64 i, .int .u32 j] .leaf] => some (badCycle a b c d e f g h i j, 2)
  | _ => none
noncomputable def kCycle : KnownP := (iCycle, knownP CycleF)
theorem Cycle_ok : KnownPOk Tryz.prog kCycle :=
  known_p (sp := spCycle) (N := 100) (mk_ok _).1 (mk_ok _).2 Gc_x (kx2_ok (l := klGc) (lp := plGc) rfl) fun l b e h => by
    unfold CycleF at h
    split at h
    · cases h; exact Cycle_fn ..
    · cases h
def badOuter (j : Int) : Bool := !decide (1 ≤ j ∧ j ≤ 4294967295)
theorem badOuter_t (j : Int) : badOuter j = true ↔ ¬ (1 ≤ j ∧ j ≤ 4294967295) := by simp only [badOuter, not_t, decide_eq_false_iff_not]
theorem badOuter_f (j : Int) : badOuter j = false ↔ (1 ≤ j ∧ j ≤ 4294967295) := by simp only [badOuter, not_f, decide_eq_true_eq]
noncomputable def spOuter : SpF where
  at' := fun f t => match Nat.beq f iOuter, t with | true, 11 => .both | _, _ => .keep
  kx := kx2 klGc plGc
theorem vOuter (j : Int) : (fnW Gc spOuter 100 iOuter [.int .u32 j] hE (fun u _ => madeK (badOuter j) 2 u)) = (
(((!ieq (GensV j) (Int.ofNat 0)) = (true)) → ((badOuter j) = (true)) ∧
 (((IntKind.i64) = (IntKind.i64)) ∧
  ((Int.ofNat 2) = (Int.ofNat 2)))) ∧
(((!ieq (GensV j) (Int.ofNat 0)) = (false)) → (((badFds (Int.ofNat 64) j) = (true)) → ((badOuter j) = (true)) ∧
  (((IntKind.i64) = (IntKind.i64)) ∧
   ((Int.ofNat 2) = (Int.ofNat 2)))) ∧
 (((badFds (Int.ofNat 64) j) = (false)) → (((badBufs (Int.ofNat 64) (Int.ofNat 1048576) j) = (true)) → ((badOuter j) = (true)) ∧
   (((IntKind.i64) = (IntKind.i64)) ∧
    ((Int.ofNat 2) = (Int.ofNat 2)))) ∧
  (((badBufs (Int.ofNat 64) (Int.ofNat 1048576) j) = (false)) → (((badLeases (Int.ofNat 64) j) = (true)) → ((badOuter j) = (true)) ∧
    (((IntKind.i64) = (IntKind.i64)) ∧
     ((Int.ofNat 2) = (Int.ofNat 2)))) ∧
   (((badLeases (Int.ofNat 64) j) = (false)) → (True) ∧
    (((badOuter j) = (false)) ∧
     (((IntKind.i64) = (IntKind.i64)) ∧
      ((Int.ofNat 0) = (Int.ofNat 0))))))))) := by kernel_rfl
theorem Outer_fn (j : Int) : fnW Gc spOuter 100 iOuter [.int .u32 j] hE (fun u _ => madeK (badOuter j) 2 u) := by
  rw [vOuter]
  repeat' (first | exact rfl | exact trivial | apply And.intro | intro)
  all_goals
    (try simp only [ne_eq, Int.cast_ofNat_Int,  ieq_t, ieq_f, not_t, not_f, iofn, badFds_t, badFds_f, badBufs_t, badBufs_f, badLeases_t, badLeases_f, GensV_z] at *)
    first
      | contradiction
      | omega
      | (rw [badOuter_t]; omega)
      | (rw [badOuter_f]; omega)
def OuterF : List V → Option (Bool × Int)
  | [.int .u32 j] => some (badOuter j, 2)
  | _ => none
noncomputable def kOuter : KnownP := (iOuter, knownP OuterF)
theorem Outer_ok : KnownPOk Tryz.prog kOuter :=
  known_p (sp := spOuter) (N := 100) (mk_ok _).1 (mk_ok _).2 Gc_x (kx2_ok (l := klGc) (lp := plGc) rfl) fun l b e h => by
    unfold OuterF at h
    split at h
    · cases h; exact Outer_fn ..
    · cases h
noncomputable def klGd : List Known := [kGens, kBack, kRegIn, kAllowed]
noncomputable def plGd : List KnownP := [kArena, kCycle, kRefq, kTable, kOuter, kQuota]
noncomputable def Gd : Γ := mkG Tryz.prog eqs rows (ext2 klGd plGd)
theorem Gd_k : ∀ x, x ∈ klGd → KnownOk Tryz.prog x := fun x hx => by
  simp only [klGd, List.mem_cons, List.not_mem_nil, or_false] at hx
  rcases hx with rfl | rfl | rfl | rfl
  · exact Gens_ok
  · exact Back_ok
  · exact RegIn_ok
  · exact Allowed_ok

theorem Gd_p : ∀ x, x ∈ plGd → KnownPOk Tryz.prog x := fun x hx => by
  simp only [plGd, List.mem_cons, List.not_mem_nil, or_false] at hx
  rcases hx with rfl | rfl | rfl | rfl | rfl | rfl
  · exact Arena_ok
  · exact Cycle_ok
  · exact Refq_ok
  · exact Table_ok
  · exact Outer_ok
  · exact Quota_ok

theorem Gd_x : ExtOK Tryz.prog Gd := ext2_ok (l := klGd) (lp := plGd) Gd_k Gd_p rfl
def badReg (a b c d e f g h i j : Int) : Bool := !decide (1 ≤ a ∧ a ≤ 256 ∧ 1 ≤ b ∧ b ≤ 4 ∧ 1 ≤ c ∧ c ≤ 64 ∧ 1 ≤ d ∧ d ≤ 64 ∧ 1 ≤ e ∧ e ≤ 64 ∧ 1 ≤ f ∧ f ≤ 256 ∧ 1 ≤ g ∧ g ≤ 64 ∧ 1 ≤ h ∧ h ≤ i ∧ i ≤ 1048576 ∧ 1 ≤ j ∧ j ≤ 4294967295)
theorem badReg_t (a b c d e f g h i j : Int) : badReg a b c d e f g h i j = true ↔ ¬ (1 ≤ a ∧ a ≤ 256 ∧ 1 ≤ b ∧ b ≤ 4 ∧ 1 ≤ c ∧ c ≤ 64 ∧ 1 ≤ d ∧ d ≤ 64 ∧ 1 ≤ e ∧ e ≤ 64 ∧ 1 ≤ f ∧ f ≤ 256 ∧ 1 ≤ g ∧ g ≤ 64 ∧ 1 ≤ h ∧ h ≤ i ∧ i ≤ 1048576 ∧ 1 ≤ j ∧ j ≤ 4294967295) := by simp only [badReg, not_t, decide_eq_false_iff_not]
theorem badReg_f (a b c d e f g h i j : Int) : badReg a b c d e f g h i j = false ↔ (1 ≤ a ∧ a ≤ 256 ∧ 1 ≤ b ∧ b ≤ 4 ∧ 1 ≤ c ∧ c ≤ 64 ∧ 1 ≤ d ∧ d ≤ 64 ∧ 1 ≤ e ∧ e ≤ 64 ∧ 1 ≤ f ∧ f ≤ 256 ∧ 1 ≤ g ∧ g ≤ 64 ∧ 1 ≤ h ∧ h ≤ i ∧ i ≤ 1048576 ∧ 1 ≤ j ∧ j ≤ 4294967295) := by simp only [badReg, not_f, decide_eq_true_eq]
noncomputable def spReg : SpF where
  at' := fun f t => match Nat.beq f iReg, t with | true, 7 => .both | _, _ => .keep
  kx := kx2 klGd plGd
  must := fun f => Nat.beq f iCycle || Nat.beq f iRefq || Nat.beq f iQuota
theorem vReg (a b c d e f g h i j : Int) : (fnW Gd spReg 100 iReg [.agg 10 [.int .i64 a, .int .i64 b, .int .i64 c, .int .i64 d, .int .i64 e, .int .i64 f, .int .i64 g, .int .i64 h, .int .i64 i, .int .u32 j] .leaf] hE (fun u _ => madeK (badReg a b c d e f g h i j) 2 u)) = (
(((okAllowed a b c d e f g h i j) = (true)) → (((((a) = (a)) ∧
    (((b) = (b)) ∧
     (((c) = (c)) ∧
      (((d) = (d)) ∧
       (((e) = (e)) ∧
        (((f) = (f)) ∧
         (((g) = (g)) ∧
          (((h) = (h)) ∧
           (((i) = (i)) ∧
            (((j) = (j)) ∧
             (True))))))))))) ∧
   (((a) = (a)) ∧
    (((b) = (b)) ∧
     (((c) = (c)) ∧
      (((d) = (d)) ∧
       (((e) = (e)) ∧
        (((f) = (f)) ∧
         (((g) = (g)) ∧
          (((h) = (h)) ∧
           (((i) = (i)) ∧
            (((j) = (j)) ∧
             (True)))))))))))) ∧
  (True)) ∧
 ((((badArena a b j) = (true)) → ((badCycle a b c d e f g h i j) = (false)) ∧
   (((badRefq (Int.ofNat 256) e) = (false)) ∧
    ((((badTable (Int.ofNat 256) j) = (true)) → (((badOuter j) = (true)) → ((badQuota f) = (false)) ∧
       (((badReg a b c d e f g h i j) = (true)) ∧
        (((IntKind.i64) = (IntKind.i64)) ∧
         ((Int.ofNat 2) = (Int.ofNat 2))))) ∧
      (((badOuter j) = (false)) → ((badQuota f) = (false)) ∧
       (((badReg a b c d e f g h i j) = (true)) ∧
        (((IntKind.i64) = (IntKind.i64)) ∧
         ((Int.ofNat 2) = (Int.ofNat 2)))))) ∧
     (((badTable (Int.ofNat 256) j) = (false)) → (((badOuter j) = (true)) → ((badQuota f) = (false)) ∧
       (((badReg a b c d e f g h i j) = (true)) ∧
        (((IntKind.i64) = (IntKind.i64)) ∧
         ((Int.ofNat 2) = (Int.ofNat 2))))) ∧
      (((badOuter j) = (false)) → ((badQuota f) = (false)) ∧
       (((badReg a b c d e f g h i j) = (true)) ∧
        (((IntKind.i64) = (IntKind.i64)) ∧
         ((Int.ofNat 2) = (Int.ofNat 2))))))))) ∧
  (((badArena a b j) = (false)) → ((badCycle a b c d e f g h i j) = (false)) ∧
   (((badRefq (Int.ofNat 256) e) = (false)) ∧
    ((((badTable (Int.ofNat 256) j) = (true)) → (((badOuter j) = (true)) → ((badQuota f) = (false)) ∧
       (((badReg a b c d e f g h i j) = (true)) ∧
        (((IntKind.i64) = (IntKind.i64)) ∧
         ((Int.ofNat 2) = (Int.ofNat 2))))) ∧
      (((badOuter j) = (false)) → ((badQuota f) = (false)) ∧
       (((badReg a b c d e f g h i j) = (true)) ∧
        (((IntKind.i64) = (IntKind.i64)) ∧
         ((Int.ofNat 2) = (Int.ofNat 2)))))) ∧
     (((badTable (Int.ofNat 256) j) = (false)) → (((badOuter j) = (true)) → ((badQuota f) = (false)) ∧
       (((badReg a b c d e f g h i j) = (true)) ∧
        (((IntKind.i64) = (IntKind.i64)) ∧
         ((Int.ofNat 2) = (Int.ofNat 2))))) ∧
      (((badOuter j) = (false)) → ((badQuota f) = (false)) ∧
       (((badReg a b c d e f g h i j) = (false)) ∧
        (((IntKind.i64) = (IntKind.i64)) ∧
         ((Int.ofNat 0) = (Int.ofNat 0))))))))))) ∧
(((okAllowed a b c d e f g h i j) = (false)) → ((badReg a b c d e f g h i j) = (true)) ∧
 (((IntKind.i64) = (IntKind.i64)) ∧
  ((Int.ofNat 2) = (Int.ofNat 2))))) := by kernel_rfl
theorem Reg_fn (a b c d e f g h i j : Int) : fnW Gd spReg 100 iReg [.agg 10 [.int .i64 a, .int .i64 b, .int .i64 c, .int .i64 d, .int .i64 e, .int .i64 f, .int .i64 g, .int .i64 h, .int .i64 i, .int .u32 j] .leaf] hE (fun u _ => madeK (badReg a b c d e f g h i j) 2 u) := by
  rw [vReg]
  repeat' (first | exact rfl | exact trivial | apply And.intro | intro)
  all_goals
    (try simp only [Int.cast_ofNat_Int,  iofn, badArena_t, badArena_f, badCycle_f, badRefq_f, badTable_t, badTable_f, badOuter_t, badOuter_f, badQuota_f, okAllowed_t, okAllowed_f] at *)
    first
      | contradiction
      | omega
      | (rw [badReg_t]; omega)
      | (rw [badReg_f]; omega)
def RegF : List V → Option (Bool × Int)
  | [.agg 10 [.int .i64 a, .int .i64 b, .int .i64 c, .int .i64 d, .int .i64 e, .int .i64 f, .int .i64 g, .int .i64 h, .int .i64 i, .int .u32 j] .leaf] => some (badReg a b c d e f g h i j, 2)
  | _ => none
noncomputable def kReg : KnownP := (iReg, knownP RegF)
theorem Reg_ok : KnownPOk Tryz.prog kReg :=
  known_p (sp := spReg) (N := 100) (mk_ok _).1 (mk_ok _).2 Gd_x (kx2_ok (l := klGd) (lp := plGd) rfl) fun l b e h => by
    unfold RegF at h
    split at h
    · cases h; exact Reg_fn ..
    · cases h
noncomputable def klGe : List Known := []
noncomputable def plGe : List KnownP := [kReg]
noncomputable def Ge : Γ := mkG Tryz.prog eqs rows (ext2 klGe plGe)
theorem Ge_k : ∀ x, x ∈ klGe → KnownOk Tryz.prog x := fun x hx => by cases hx
theorem Ge_p : ∀ x, x ∈ plGe → KnownPOk Tryz.prog x := fun x hx => by
  simp only [plGe, List.mem_cons, List.not_mem_nil, or_false] at hx
  rcases hx with rfl
  · exact Reg_ok

theorem Ge_x : ExtOK Tryz.prog Ge := ext2_ok (l := klGe) (lp := plGe) Ge_k Ge_p rfl
def okMach (a b c d e f g h i j : Int) : Bool := decide (1 ≤ a ∧ a ≤ 256 ∧ 1 ≤ b ∧ b ≤ 4 ∧ 1 ≤ c ∧ c ≤ 64 ∧ 1 ≤ d ∧ d ≤ 64 ∧ 1 ≤ e ∧ e ≤ 64 ∧ 1 ≤ f ∧ f ≤ 256 ∧ 1 ≤ g ∧ g ≤ 64 ∧ 1 ≤ h ∧ h ≤ i ∧ i ≤ 1048576 ∧ 1 ≤ j ∧ j ≤ 4294967295)
theorem okMach_t (a b c d e f g h i j : Int) : okMach a b c d e f g h i j = true ↔ (1 ≤ a ∧ a ≤ 256 ∧ 1 ≤ b ∧ b ≤ 4 ∧ 1 ≤ c ∧ c ≤ 64 ∧ 1 ≤ d ∧ d ≤ 64 ∧ 1 ≤ e ∧ e ≤ 64 ∧ 1 ≤ f ∧ f ≤ 256 ∧ 1 ≤ g ∧ g ≤ 64 ∧ 1 ≤ h ∧ h ≤ i ∧ i ≤ 1048576 ∧ 1 ≤ j ∧ j ≤ 4294967295) := by simp only [okMach, decide_eq_true_eq]
theorem okMach_f (a b c d e f g h i j : Int) : okMach a b c d e f g h i j = false ↔ ¬ (1 ≤ a ∧ a ≤ 256 ∧ 1 ≤ b ∧ b ≤ 4 ∧ 1 ≤ c ∧ c ≤ 64 ∧ 1 ≤ d ∧ d ≤ 64 ∧ 1 ≤ e ∧ e ≤ 64 ∧ 1 ≤ f ∧ f ≤ 256 ∧ 1 ≤ g ∧ g ≤ 64 ∧ 1 ≤ h ∧ h ≤ i ∧ i ≤ 1048576 ∧ 1 ≤ j ∧ j ≤ 4294967295) := by simp only [okMach, decide_eq_false_iff_not]
def MachV (a b c d e f g h i j : Int) : Int := match okMach a b c d e f g h i j with
  | true => 0
  | false => 2
theorem MachV_t (a b c d e f g h i j : Int) (hyp : 1 ≤ a ∧ a ≤ 256 ∧ 1 ≤ b ∧ b ≤ 4 ∧ 1 ≤ c ∧ c ≤ 64 ∧ 1 ≤ d ∧ d ≤ 64 ∧ 1 ≤ e ∧ e ≤ 64 ∧ 1 ≤ f ∧ f ≤ 256 ∧ 1 ≤ g ∧ g ≤ 64 ∧ 1 ≤ h ∧ h ≤ i ∧ i ≤ 1048576 ∧ 1 ≤ j ∧ j ≤ 4294967295) : MachV a b c d e f g h i j = 0 := by unfold MachV; rw [(okMach_t a b c d e f g h i j).2 hyp]
theorem MachV_f (a b c d e f g h i j : Int) (hyp : ¬ (1 ≤ a ∧ a ≤ 256 ∧ 1 ≤ b ∧ b ≤ 4 ∧ 1 ≤ c ∧ c ≤ 64 ∧ 1 ≤ d ∧ d ≤ 64 ∧ 1 ≤ e ∧ e ≤ 64 ∧ 1 ≤ f ∧ f ≤ 256 ∧ 1 ≤ g ∧ g ≤ 64 ∧ 1 ≤ h ∧ h ≤ i ∧ i ≤ 1048576 ∧ 1 ≤ j ∧ j ≤ 4294967295)) : MachV a b c d e f g h i j = 2 := by unfold MachV; rw [(okMach_f a b c d e f g h i j).2 hyp]
theorem MachV_z (a b c d e f g h i j : Int) : MachV a b c d e f g h i j = 0 ↔ (1 ≤ a ∧ a ≤ 256 ∧ 1 ≤ b ∧ b ≤ 4 ∧ 1 ≤ c ∧ c ≤ 64 ∧ 1 ≤ d ∧ d ≤ 64 ∧ 1 ≤ e ∧ e ≤ 64 ∧ 1 ≤ f ∧ f ≤ 256 ∧ 1 ≤ g ∧ g ≤ 64 ∧ 1 ≤ h ∧ h ≤ i ∧ i ≤ 1048576 ∧ 1 ≤ j ∧ j ≤ 4294967295) := ⟨fun hyp => Decidable.byContradiction fun q => by rw [MachV_f a b c d e f g h i j q] at hyp; omega, MachV_t a b c d e f g h i j⟩
noncomputable def spMach : SpF where
  at' := fun f t => match Nat.beq f iMach, t with | _, _ => .keep
  kx := kx2 klGe plGe
theorem vMach (a b c d e f g h i j : Int) : (fnW Ge spMach 100 iMach [.agg 10 [.int .i64 a, .int .i64 b, .int .i64 c, .int .i64 d, .int .i64 e, .int .i64 f, .int .i64 g, .int .i64 h, .int .i64 i, .int .u32 j] .leaf] hE (fun u _ => u = .int .i64 (MachV a b c d e f g h i j))) = (
(((badReg a b c d e f g h i j) = (true)) → (V.int IntKind.i64 (Int.ofNat 2)) = (V.int IntKind.i64 (MachV a b c d e f g h i j))) ∧
(((badReg a b c d e f g h i j) = (false)) → (V.int IntKind.i64 (Int.ofNat 0)) = (V.int IntKind.i64 (MachV a b c d e f g h i j)))) := by kernel_rfl
theorem Mach_fn (a b c d e f g h i j : Int) : fnW Ge spMach 100 iMach [.agg 10 [.int .i64 a, .int .i64 b, .int .i64 c, .int .i64 d, .int .i64 e, .int .i64 f, .int .i64 g, .int .i64 h, .int .i64 i, .int .u32 j] .leaf] hE (fun u _ => u = .int .i64 (MachV a b c d e f g h i j)) := by
  rw [vMach]
  repeat' (first | exact trivial | apply And.intro | intro)
  all_goals
    (try simp only [Int.cast_ofNat_Int,  iofn, badReg_t, badReg_f] at *)
    refine congrArg (V.int .i64) ?_
    first
      | contradiction
      | exact (MachV_t a b c d e f g h i j (by omega)).symm
      | exact (MachV_f a b c d e f g h i j (by omega)).symm
def MachF : List V → Option V
  | [.agg 10 [.int .i64 a, .int .i64 b, .int .i64 c, .int .i64 d, .int .i64 e, .int .i64 f, .int .i64 g, .int .i64 h, .int .i64 i, .int .u32 j] .leaf] => some (.int .i64 (MachV a b c d e f g h i j))
  | _ => none
noncomputable def kMach : Known := (iMach, known MachF)
theorem Mach_ok : KnownOk Tryz.prog kMach :=
  known_ok (sp := spMach) (N := 100) (mk_ok _).1 (mk_ok _).2 Ge_x (kx2_ok (l := klGe) (lp := plGe) rfl) fun l v h => by
    unfold MachF at h
    split at h
    · cases h; exact ⟨rfl, Mach_fn ..⟩
    · cases h
end Go.Proofs.YtemanejjmkjfnaaGreatDoor

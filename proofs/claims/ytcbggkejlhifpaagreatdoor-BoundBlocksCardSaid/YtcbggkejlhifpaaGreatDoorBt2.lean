/- bound.turn: what is known of it. -/
import Derived.Test.YtcbggkejlhifpaaGreatDoorBt1
import Derived.Test.YtcbggkejlhifpaaGreatDoorSc0
namespace Go.Proofs.YtcbggkejlhifpaaGreatDoor
set_option maxRecDepth 100000
set_option maxHeartbeats 4000000
open Go.Ev Go.RowKit
/-- whose turn an operation is: of a mutator (0, 1), mark (4), batch (5), ticks (6), cycle (7); none -/
def ClsP : Option Nat → Int → Int → OpR → Prop
  | some 0, n, _, o => o = ⟨7, 0, 0, 0, 0, []⟩ ∧ 1 ≤ n
  | some 1, n, _, o => o = ⟨7, 1, 0, 0, 0, []⟩ ∧ 2 ≤ n
  | some 4, _, _, o => ∃ a, 1 ≤ a ∧ a ≤ 3 ∧ o = ⟨13, 0, a, 0, 0, []⟩
  | some 5, _, _, o => o = ⟨14, 0, 0, 0, 0, []⟩
  | some 6, _, cap, o => o = ⟨15, 0, cap, 0, 0, []⟩ ∧ 1 ≤ cap ∧ cap ≤ 1048576
  | some 7, _, _, o => o = ⟨16, 0, 0, 0, 0, []⟩
  | none, n, _, o => 1 ≤ n ∧ n ≤ 4 ∧ ∃ K M A B C, u8r K ∧ u8r M ∧ u8r A ∧ u8r B ∧ u8r C ∧ o = mixF K M A B C n
  | _, _, _, _ => False
def clsN : Option Nat → Nat
  | some k => k
  | none => 0
def clsV (c : Option Nat) : V := .tuple [.int .i64 (Int.ofNat (clsN c)), .bool c.isSome]
namespace BT
theorem n_f {x y : Int} (h : ¬ x < y) : (!ilt x y) = true := by
  have : ilt x y = false := by rw [ilt_f]; omega
  rw [this]; rfl
theorem md {x : Int} {k : Nat} (h1 : 0 < k) : 0 ≤ x % (k : Int) ∧ x % (k : Int) < k := ⟨Int.emod_nonneg _ (by omega), Int.emod_lt_of_pos _ (by omega)⟩
theorem turn_fn {a b c d e f g h i j : Int} {o : OpR} {cl : Option Nat} (q : ClsP cl b i o) : fnW G0 sp 200 iTurn [cfgV a b c d e f g h i j, .agg 6 (opV o) .leaf] hE (fun v _ => v = clsV cl) := by
  unfold ClsP at q
  split at q
  · obtain ⟨rfl, q⟩ := q
    exact Eq.mpr (BT.k0 ..) (by repeat' (first | exact rfl | exact trivial | (rw [ilt_t, iofn]; omega) | apply And.intro))
  · obtain ⟨rfl, q⟩ := q
    exact Eq.mpr (BT.k1 ..) (by repeat' (first | exact rfl | exact trivial | (rw [ilt_t, iofn]; omega) | apply And.intro))
  · obtain ⟨x, q1, q2, rfl⟩ := q
    exact Eq.mpr (BT.k4 ..) (by repeat' (first | exact rfl | exact trivial | (apply n_f; simp only [iofn]; omega) | apply And.intro))
  · subst q
    exact Eq.mpr (BT.k5 ..) (by repeat' (first | exact rfl | exact trivial | apply And.intro))
  · obtain ⟨rfl, q1, q2⟩ := q
    exact Eq.mpr (BT.k6 ..) (by repeat' (first | exact rfl | exact trivial | (apply n_f; simp only [iofn]; omega) | (apply n_f; omega) | apply And.intro))
  · subst q
    exact Eq.mpr (BT.k7 ..) (by repeat' (first | exact rfl | exact trivial | apply And.intro))
  · obtain ⟨q1, q2, K, M, A, B, C, hK, hM, hA, hB, hC, rfl⟩ := q
    have hm : 0 ≤ M % b ∧ M % b < b := ⟨Int.emod_nonneg _ (by omega), Int.emod_lt_of_pos _ (by omega)⟩
    have a4 : 0 ≤ A % 4 ∧ A % 4 < 4 := md (k := 4) (by omega)
    have a3 : 0 ≤ A % 3 ∧ A % 3 < 3 := md (k := 3) (by omega)
    have b4 : 0 ≤ B % 4 ∧ B % 4 < 4 := md (k := 4) (by omega)
    have b3 : 0 ≤ B % 3 ∧ B % 3 < 3 := md (k := 3) (by omega)
    have b40 : 0 ≤ B % 40 ∧ B % 40 < 40 := md (k := 40) (by omega)
    have c5 : 0 ≤ C % 5 ∧ C % 5 < 5 := md (k := 5) (by omega)
    unfold mixF
    split
    · exact Eq.mpr (BT.n1 ..) (by repeat' (first | exact rfl | exact trivial | (apply n_f; simp only [iofn]; omega) | apply And.intro))
    · exact Eq.mpr (BT.n3 ..) (by repeat' (first | exact rfl | exact trivial | (apply n_f; simp only [iofn]; omega) | (apply n_f; rw [show (Int.negSucc 0) = -1 from rfl]; omega) | apply And.intro))
    · exact Eq.mpr (BT.n4 ..) (by repeat' (first | exact rfl | exact trivial | (apply n_f; simp only [iofn]; omega) | apply And.intro))
    · exact Eq.mpr (BT.n5 ..) (by repeat' (first | exact rfl | exact trivial | (apply n_f; simp only [iofn]; omega) | (apply n_f; rw [show (Int.negSucc 0) = -1 from rfl]; omega) | apply And.intro))
    · exact Eq.mpr (BT.n6 ..) (by repeat' (first | exact rfl | exact trivial | (apply n_f; simp only [iofn]; omega) | apply And.intro))
    · exact Eq.mpr (BT.n2 ..) (by repeat' (first | exact rfl | exact trivial | (apply n_f; simp only [iofn]; omega) | apply And.intro))
    · exact Eq.mpr (BT.n8 ..) (by repeat' (first | exact rfl | exact trivial | (apply n_f; simp only [iofn]; omega) | apply And.intro))
    · exact Eq.mpr (BT.n10 ..) (by repeat' (first | exact rfl | exact trivial | (apply n_f; simp only [iofn]; omega) | apply And.intro))
    · exact Eq.mpr (BT.n12 ..) (by repeat' (first | exact rfl | exact trivial | (apply n_f; simp only [iofn]; omega) | apply And.intro))
  · cases q
open Classical in
noncomputable def clsB (cl : Option Nat) (n cap : Int) (o : OpR) : Bool := decide (ClsP cl n cap o)
open Classical in
theorem clsB_t {cl : Option Nat} {n cap : Int} {o : OpR} (q : clsB cl n cap o = true) : ClsP cl n cap o := by
  unfold clsB at q
  exact of_decide_eq_true q
open Classical in
theorem clsB_of {cl : Option Nat} {n cap : Int} {o : OpR} (q : ClsP cl n cap o) : clsB cl n cap o = true := by
  unfold clsB
  exact decide_eq_true q
end BT
end Go.Proofs.YtcbggkejlhifpaaGreatDoor

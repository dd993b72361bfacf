/- The operations that are drawn are valid: what is known of op.Check and op.Mutator. -/
import Derived.Test.YtjbpagfjpdinjaaGreatDoorCk1
import Derived.Test.YtjbpagfjpdinjaaGreatDoorRn3
namespace Go.Proofs.YtjbpagfjpdinjaaGreatDoor
set_option maxRecDepth 100000
set_option maxHeartbeats 4000000
open Go.Ev Go.RowKit
/-- an operation that may be drawn -/
def Good (o : OpR) : Prop := ∃ x m : Int, 1 ≤ m ∧ m ≤ 4 ∧ o = (opF x m).2
namespace CK
open OD (opA)
def isK : OpR → Prop := fun o => fnW G0 sp 200 iOpChk [opA o] hL okV
theorem n_f {x y : Int} (h : ¬ x < y) : (!ilt x y) = true := by
  have : ilt x y = false := by rw [ilt_f]; omega
  rw [this]; rfl
theorem chk {o : OpR} (h : Good o) : isK o := by
  obtain ⟨x, m, h1, h2, rfl⟩ := h
  have rm := dr_in (x := nx (nx x)) (k := m) (by omega)
  have r2 : ∀ k : Int, 0 < k → 0 ≤ dr (nx (nx x)) k ∧ dr (nx (nx x)) k < k := fun k => dr_in
  have r3 : ∀ k : Int, 0 < k → 0 ≤ dr (nx (nx (nx x))) k ∧ dr (nx (nx (nx x))) k < k := fun k => dr_in
  have r4 : ∀ k : Int, 0 < k → 0 ≤ dr (nx (nx (nx (nx x)))) k ∧ dr (nx (nx (nx (nx x)))) k < k := fun k => dr_in
  have r5 : ∀ k : Int, 0 < k → 0 ≤ dr (nx (nx (nx (nx (nx x))))) k ∧ dr (nx (nx (nx (nx (nx x))))) k < k := fun k => dr_in
  have a35 := r3 5 (by omega)
  have a34 := r3 4 (by omega)
  have a33 := r3 3 (by omega)
  have a36 := r3 6 (by omega)
  have a38 := r3 8 (by omega)
  have a310 := r3 10 (by omega)
  have a230 := r2 30 (by omega)
  have a44 := r4 4 (by omega)
  have a43 := r4 3 (by omega)
  have a450 := r4 50 (by omega)
  have a420 := r4 20 (by omega)
  have a55 := r5 5 (by omega)
  unfold opF
  simp only
  split
  · exact Eq.mpr (CK.v1 ..) (by repeat' (first | exact rfl | exact trivial | (apply n_f; simp only [iofn]; omega) | apply And.intro))
  · exact Eq.mpr (CK.v2 ..) (by repeat' (first | exact rfl | exact trivial | (apply n_f; simp only [iofn]; omega) | apply And.intro))
  · exact Eq.mpr (CK.v3 ..) (by repeat' (first | exact rfl | exact trivial | (apply n_f; simp only [iofn]; omega) | (apply n_f; rw [show (Int.negSucc 0) = -1 from rfl]; omega) | apply And.intro))
  · exact Eq.mpr (CK.v4 ..) (by repeat' (first | exact rfl | exact trivial | (apply n_f; simp only [iofn]; omega) | apply And.intro))
  · exact Eq.mpr (CK.v5 ..) (by repeat' (first | exact rfl | exact trivial | (apply n_f; simp only [iofn]; omega) | (apply n_f; rw [show (Int.negSucc 0) = -1 from rfl]; omega) | apply And.intro))
  · exact Eq.mpr (CK.v6 ..) (by repeat' (first | exact rfl | exact trivial | (apply n_f; simp only [iofn]; omega) | apply And.intro))
  · exact Eq.mpr (CK.v7 ..) (by repeat' (first | exact rfl | exact trivial | (apply n_f; simp only [iofn]; omega) | apply And.intro))
  · generalize (dr (nx (nx (nx (nx (nx x))))) 3).toNat = q
    match q with
    | 0 => exact Eq.mpr (CK.v8a ..) (by repeat' (first | exact rfl | exact trivial | (apply n_f; simp only [iofn]; omega) | apply And.intro))
    | 1 => exact Eq.mpr (CK.v8b ..) (by repeat' (first | exact rfl | exact trivial | (apply n_f; simp only [iofn]; omega) | apply And.intro))
    | _ + 2 => exact Eq.mpr (CK.v8c ..) (by repeat' (first | exact rfl | exact trivial | (apply n_f; simp only [iofn]; omega) | apply And.intro))
  · exact Eq.mpr (CK.v9 ..) (by repeat' (first | exact rfl | exact trivial | (apply n_f; simp only [iofn]; omega) | apply And.intro))
  · exact Eq.mpr (CK.v10 ..) (by repeat' (first | exact rfl | exact trivial | (apply n_f; simp only [iofn]; omega) | apply And.intro))
  · exact Eq.mpr (CK.v11 ..) (by repeat' (first | exact rfl | exact trivial | (apply n_f; simp only [iofn]; omega) | apply And.intro))
  · exact Eq.mpr (CK.v12 ..) (by repeat' (first | exact rfl | exact trivial | (apply n_f; simp only [iofn]; omega) | apply And.intro))
  · exact Eq.mpr (CK.v13 ..) (by repeat' (first | exact rfl | exact trivial | (apply n_f; simp only [iofn]; omega) | apply And.intro))
  · exact Eq.mpr (CK.v14 ..) (by repeat' (first | exact rfl | exact trivial | (apply n_f; simp only [iofn]; omega) | apply And.intro))
  · split
    · exact Eq.mpr (CK.v15 ..) (by repeat' (first | exact rfl | exact trivial | (apply n_f; simp only [iofn]; omega) | apply And.intro))
    · exact Eq.mpr (CK.v16 ..) (by repeat' (first | exact rfl | exact trivial | (apply n_f; simp only [iofn]; omega) | apply And.intro))
    · generalize (dr (nx (nx (nx x))) 5).toNat = q
      match q with
      | 0 => exact Eq.mpr (CK.v17a ..) (by repeat' (first | exact rfl | exact trivial | apply And.intro))
      | 1 => exact Eq.mpr (CK.v17b ..) (by repeat' (first | exact rfl | exact trivial | apply And.intro))
      | 2 => exact Eq.mpr (CK.v17c ..) (by repeat' (first | exact rfl | exact trivial | apply And.intro))
      | 3 => exact Eq.mpr (CK.v17d ..) (by repeat' (first | exact rfl | exact trivial | apply And.intro))
      | _ + 4 => exact Eq.mpr (CK.v17e ..) (by repeat' (first | exact rfl | exact trivial | apply And.intro))
end CK
end Go.Proofs.YtjbpagfjpdinjaaGreatDoor

/- BoundRefuses: whatever it is called with, it returns true. -/
import Derived.Test.YtepekoojmijoiaaGreatDoorRf2
namespace Go.Proofs.YtepekoojmijoiaaGreatDoor
set_option maxRecDepth 100000
open Go.Ev Go.RowKit
namespace Rf
theorem isC_o {l : List V} (hl : l.length = 10) {x : Option O} (h : isC l x) : ∃ e o, x = some o ∧ ((O.cells e 10 l .leaf).rw = true → o.rw = true) ∧ ∀ ρ L c, ORel ρ o L c → ORel ρ (.cells e 10 l .leaf) L c := by
  unfold isC at h
  split at h
  · rename_i e n pat tr
    obtain ⟨h1, h2⟩ := h
    rw [T.beq_true] at h1
    subst h1
    refine ⟨e, _, rfl, fun _ => rfl, fun ρ L c hc => orel_cells (fun i u hu => ?_) hc⟩
    rw [← hl] at hu
    have := cell_list l i u hu
    have := (gather_spec h2).2 i u this
    rwa [Nat.zero_add] at this
  · cases h
theorem toC {ρ0 : Ren} {h0 : H} {w0 : World} {st : St} {aa : Act} {w : World} {a b c d e f g h i j m : Int} (hA : At ρ0 h0 w0 st aa w) (hk : KP a b c d e f g h i j m .normal st) : ∃ el, At ρ0 h0 w0 (S [(7, .ptr 1001 0), (8, .int .i64 m)] (hC el a b c d e f g h i j)) aa w := by
  obtain ⟨h1, h2, h3, h4, h5, h6⟩ := hk
  obtain ⟨el, o, q1, q2, q3⟩ := isC_o (l := cfgL a b c d e f g h i j) rfl h6
  have A1 := at_shape hA (h := hC el a b c d e f g h i j) h4.symm fun b x hx => by
    simp only [hC, T.get_put] at hx
    split at hx
    · rename_i q; cases hx; subst q; exact ⟨o, q1, q2, q3⟩
    · have := (hLet_get hx).1
      subst this
      exact ⟨x, h5.trans hx, id, fun _ _ _ h => h⟩
  exact ⟨el, at_less A1 (hasT_get h1) (Nat.le_of_eq h2.symm) (fun _ _ h => h) rfl (noDefs_eq h3).symm⟩
theorem hP {a b c d e f g i x y : Int} (hx : u8r a ∧ u8r b ∧ u8r c ∧ u8r d ∧ u8r e ∧ u8r f ∧ u8r g ∧ u8r i) (hx1 : 0 ≤ x ∧ x ≤ 255) (hy : 0 ≤ y ∧ y ≤ 65535) :
    evL Gl sp 100 iRefuses pre (KP (up a 12) (up b 2) (up c 4) (up d 4) (up e 4) (up f 6) (up (wr .u8 (Int.tdiv f (Int.ofNat 6))) 3) (up g 5) (capF g i) (firstF i) y) (S (args a b c d e f g i x y) (hLet letters 1000)) := by
  have hc := conf_in hx
  rw [wP]
  generalize up (wr .u8 (Int.tdiv f (Int.ofNat 6))) 3 = G' at hc ⊢
  generalize up a 12 = A at hc ⊢
  generalize up b 2 = B at hc ⊢
  generalize up c 4 = C at hc ⊢
  generalize up d 4 = D at hc ⊢
  generalize up e 4 = E at hc ⊢
  generalize up f 6 = F' at hc ⊢
  generalize up g 5 = H' at hc ⊢
  generalize capF g i = I' at hc ⊢
  generalize firstF i = J' at hc ⊢
  have hs : sizeOk A B E G' (Int.ofNat 5) (Int.ofNat 3) I' := by unfold sizeOk; unfold cfgOk at hc; simp only [iofn]; omega
  have hok : okOf A B C D E F' G' H' I' J' (Int.ofNat 5) (Int.ofNat 3) = true := decide_eq_true ⟨hc, hs⟩
  have wm : wr .i64 y = y := wr64 (by omega) (by omega)
  have add : ∀ n : Nat, n < 2000000 → wr .i64 (Int.add (Int.ofNat n) y) = n + y := fun n hn => by rw [iadd, iofn, wr64 (by omega) (by omega)]
  have s0 : wr .i64 (Int.sub (Int.ofNat 0) y) = 0 - y := by rw [isub, iofn, wr64 (by omega) (by omega)]; rfl
  have s1 : wr .i64 (Int.sub (Int.negSucc 0) y) = -1 - y := by rw [isub, show Int.negSucc 0 = -1 from rfl, wr64 (by omega) (by omega)]
  simp only [hok, ofV, ofE, wm, add 257 (by omega), add 5 (by omega), add 65 (by omega), add 2001 (by omega), add 1048577 (by omega), s0, s1]
  unfold cfgOk at hc
  clear hs hok wm add s0 s1
  have t1 : 0 ≤ Int.tmod x (Int.ofNat 14) ∧ Int.tmod x (Int.ofNat 14) < 14 := by rw [iofn, Int.tmod_eq_emod_of_nonneg hx1.1]; omega
  repeat' (first | apply And.intro | intro)
  all_goals
    first
      | (unfold markF; rw [if_neg (by unfold sizeOk; simp only [iofn]; omega)]; rfl)
      | (unfold boundF; rw [if_neg (by unfold sizeOk; simp only [iofn]; omega)]; rfl)
      | (unfold checkF; rw [if_neg (by unfold sizeOk; simp only [iofn]; omega)]; rfl)
      | exact rfl
      | exact trivial
      | (simp only [ilt_t, ilt_f, iofn] at *; omega)
theorem hR (el : Option TypeId) {a b c d e f g h i j m : Int} (hc : cfgOk a b c d e f g h i j) (hm : 0 ≤ m ∧ m ≤ 65535) :
    evW Gl sp 100 rest none iRefuses (S [(7, .ptr 1001 0), (8, .int .i64 m)] (hC el a b c d e f g h i j)) KR := by
  rw [wR]
  have e1 : MachV a b c d e f g h i j = 0 := MachV_t _ _ _ _ _ _ _ _ _ _ (by unfold cfgOk at hc; omega)
  have e2 : MachV (257 + m) b c d e f g h i j = 2 := MachV_f _ _ _ _ _ _ _ _ _ _ (by omega)
  have o1 : okOf (257 + m) b c d e f g h i j (Int.ofNat 5) (Int.ofNat 3) = false := decide_eq_false fun q => by have := q.1; unfold cfgOk at this; omega
  have o2 : okOf a b c d e f g h i j (0 - m) (Int.ofNat 3) = false := decide_eq_false fun q => by have := q.2; unfold sizeOk at this; omega
  have o3 : okOf a b c d e f g h i j (2001 + m) (Int.ofNat 3) = false := decide_eq_false fun q => by have := q.2; unfold sizeOk at this; omega
  have o4 : okOf a b c d e f g h i j (Int.ofNat 5) (-1 - m) = false := decide_eq_false fun q => by have := q.2; unfold sizeOk at this; omega
  have o5 : okOf a b c d e f g h i j (Int.ofNat 5) (2001 + m) = false := decide_eq_false fun q => by have := q.2; unfold sizeOk at this; omega
  have a1 : wr .i64 (Int.add (Int.ofNat 257) m) = 257 + m := by rw [iadd, iofn, wr64 (by omega) (by omega)]; rfl
  have a2 : wr .i64 (Int.add (Int.ofNat 2001) m) = 2001 + m := by rw [iadd, iofn, wr64 (by omega) (by omega)]; rfl
  have a3 : wr .i64 (Int.add (Int.ofNat 1) m) = 1 + m := by rw [iadd, iofn, wr64 (by omega) (by omega)]; rfl
  have s0 : wr .i64 (Int.sub (Int.ofNat 0) m) = 0 - m := by rw [isub, iofn, wr64 (by omega) (by omega)]; rfl
  have s1 : wr .i64 (Int.sub (Int.negSucc 0) m) = -1 - m := by rw [isub, show Int.negSucc 0 = -1 from rfl, wr64 (by omega) (by omega)]
  have nb : ∀ w : Int, ¬ (1 ≤ w ∧ w ≤ 2000) → noneB 0 w = false := fun w hw => (inW_f w).2 hw
  have ne : ∀ w : Int, ¬ (1 ≤ w ∧ w ≤ 2000) → noneE 0 w = 2 := fun w hw => by
    unfold noneE
    rw [show ieq 0 (Int.ofNat 0) = true from rfl, (inW_f w).2 hw]
    rfl
  simp only [a1, a2, a3, s0, s1, e1, e2, nb (0 - m) (by omega), nb (2001 + m) (by omega), ne (0 - m) (by omega), ne (2001 + m) (by omega), o1, o2, o3, o4, o5, ofV, ofE]
  clear nb ne e1 e2 o1 o2 o3 o4 o5 a1 a2 a3 s0 s1 hc
  repeat' (first | exact rfl | exact trivial | apply And.intro | intro)
  all_goals
    first
    | contradiction
    | (simp only [not_f, ieq_t, ilt_t, ilt_f, iofn] at *
       omega)
theorem ret_out {st : St} (h : retIs st) : ∃ h2 v, takeAll st.defs st.h = some h2 ∧ resultsO G0 h2 st.env fn = some v ∧ v = .bool true := by
  unfold retIs at h
  split at h
  · split at h
    · exact ⟨_, _, by assumption, by assumption, h⟩
    · cases h
  · cases h
theorem refuses_call {a b c d e f g i x y : Int} (hx : u8r a ∧ u8r b ∧ u8r c ∧ u8r d ∧ u8r e ∧ u8r f ∧ u8r g ∧ u8r i) (hx1 : 0 ≤ x ∧ x ≤ 255) (hy : 0 ≤ y ∧ y ≤ 65535) {ρ : Ren} {cargs : Array Value} {W : World}
    (ha : Rels ρ [n8 a b c d e f g i, .int .u8 x, .int .u16 y] cargs.toList) (hS : Sim ρ (hLet letters 1000) W) (k : Nat) : CallsIn Fence.wide k Tryz.prog iRefuses cargs W (fun e w' => e = .returned (.bool true) ∧ Below W.heap.size W w') := by
  have hG : GOk Tryz.prog Gl := (mk_ok _).1
  have hC' : Codes Gl := (mk_ok _).2
  have hG0 : GOk Tryz.prog G0 := (mk_ok _).1
  have hK : KxOK Gl sp.kx := kx_none _
  refine callsIn_of_wp_marks isFn body trivial ?_
  rw [tmps]
  have h0 := at_enter hS ha (n := 271) (show 3 ≤ 271 by decide)
  have A0 : At ρ (hLet letters 1000) W (S (args a b c d e f g i x y) (hLet letters 1000)) _ W := at_less h0 (hasT_get ⟨rfl, rfl, rfl, trivial⟩) (Nat.le_refl _) (fun _ _ h => h) rfl rfl
  rw [cut]
  refine at_list hG hC' Gl_x hK (N := 100) (fn := iRefuses) (rest := rest) (fun st' a' w' hK1 A1 => ?_) (fun _ _ _ h => nomatch h) (fun _ _ h => nomatch h) A0 (hP hx hx1 hy) o1
  obtain ⟨el, A2⟩ := toC A1 hK1
  refine at_w hG hC' Gl_x hK (N := 100) (fn := iRefuses) (K := KR) A2 (hR el (conf_in hx) hy) o2 fun x st' a2 w2 hK2 A3 => ?_
  cases x with
  | normal => cases hK2
  | exit _ => cases hK2
  | ret =>
    obtain ⟨h2, v, e1, e2, e3⟩ := ret_out hK2
    subst e3
    obtain ⟨ρ', s1, s2, s3, s4⟩ := A3
    exact body_out (n := k) hG0 e1 e2 s2 s1 s3 s4 fun c w2 c1 c2 c3 => ⟨by cases c1; rfl, c3.below (hLet_ro _ _)⟩
end Rf
theorem refuses_call {a b c d e f g i x y : Int} (hx : u8r a ∧ u8r b ∧ u8r c ∧ u8r d ∧ u8r e ∧ u8r f ∧ u8r g ∧ u8r i) (hx1 : 0 ≤ x ∧ x ≤ 255) (hy : 0 ≤ y ∧ y ≤ 65535) {ρ : Ren} {cargs : Array Value} {W : World}
    (ha : Rels ρ [n8 a b c d e f g i, .int .u8 x, .int .u16 y] cargs.toList) (hS : Sim ρ (hLet letters 1000) W) (k : Nat) : CallsIn Fence.wide k Tryz.prog iRefuses cargs W (fun e w' => e = .returned (.bool true) ∧ Below W.heap.size W w') := Rf.refuses_call hx hx1 hy ha hS k
end Go.Proofs.YtepekoojmijoiaaGreatDoor

/- estrayref46.Text: what it returns, whatever the numbers: the walk. -/
import Derived.Test.YtgadijnefbmgkaaGreatDoorJt3
namespace Go.Proofs.YtgadijnefbmgkaaGreatDoor
set_option maxRecDepth 100000
open Go.Ev Go.RowKit
def nothing : List UInt8 := [110, 111, 116, 104, 105, 110, 103]
open Classical in
noncomputable def resT (xs : List Int) : List UInt8 := if xs.length = 0 then nothing else if valid xs then textTo xs xs.length else []
open Classical in
noncomputable def resE (xs : List Int) : Int := if valid xs then Int.ofNat 0 else Int.ofNat 2
noncomputable def resV (xs : List Int) : V := .tuple [.str (resT xs), .int .i64 (resE xs)]
theorem valid_of {xs : List Int} (h : okTo xs xs.length) : valid xs := fun k x hx => h k (List.getElem?_eq_some_iff.1 hx).1 x hx
theorem res_bad {xs : List Int} (h : ¬ valid xs) : resV xs = .tuple [.str [], .int .i64 (Int.ofNat 2)] := by
  have : xs.length ≠ 0 := fun q => h fun k x hx => by
    have := (List.getElem?_eq_some_iff.1 hx).1
    omega
  unfold resV resT resE
  rw [if_neg this, if_neg h, if_neg h]
theorem res_none {xs : List Int} (h : xs.length = 0) : resV xs = .tuple [.str nothing, .int .i64 (Int.ofNat 0)] := by
  unfold resV resT resE
  rw [if_pos h, if_pos (valid_of (by rw [h]; intro j hj; omega))]
theorem res_good {xs : List Int} (h0 : xs.length ≠ 0) (h : valid xs) : resV xs = .tuple [.str (textTo xs xs.length), .int .i64 (Int.ofNat 0)] := by
  unfold resV resT resE
  rw [if_neg h0, if_pos h, if_pos h]
namespace RT
theorem hI_ro (n : Nat) (xs : List Int) : AllRo (hI n xs) := fun b o h => by
  simp only [hI, T.get_put, T.get_leaf] at h
  split at h
  · cases h; rfl
  · cases h
theorem isW_o {x : Option O} (h : isW x) : ∃ e o, x = some o ∧ ((O.cells e 12 words .leaf).rw = true → o.rw = true) ∧ ∀ ρ L c, ORel ρ o L c → ORel ρ (.cells e 12 words .leaf) L c := by
  unfold isW at h
  split at h
  · rename_i e n pat tr
    obtain ⟨h1, h2⟩ := h
    rw [T.beq_true] at h1
    subst h1
    refine ⟨e, _, rfl, fun _ => rfl, fun ρ L c hc => orel_cells (fun i u hu => ?_) hc⟩
    have := cell_leaf (L := words) hu
    have := (gather_spec h2).2 i u this
    rwa [Nat.zero_add] at this
  · cases h
section
variable {ρ0 : Ren} {h0 : H} {w0 : World} {l : List (Nat × V)} {st : St} {a : Act} {w : World} {n : Nat} {xs : List Int}
theorem toI (hA : At ρ0 h0 w0 st a w) (hk : hasS l st) (hn : st.h.next = 1001) (h1 : st.h.tr.get 1000 = some (roB n xs)) : At ρ0 h0 w0 (S l (hI n xs)) a w :=
  at_less hA (hasT_get hk.1) (Nat.le_of_eq hk.2.1.symm) (fun b o hb => by
    simp only [hI, T.get_put, T.get_leaf] at hb
    split at hb
    · rename_i q; cases hb; subst q; exact h1
    · cases hb) hn.symm (noDefs_eq hk.2.2).symm
theorem toY (hA : At ρ0 h0 w0 st a w) (hk : hasS l st) (hm : memP n xs st) : ∃ e, At ρ0 h0 w0 (S l (hY e n xs st.h.next)) a w := by
  obtain ⟨e, o, q1, q2, q3⟩ := isW_o hm.2
  have A1 := at_shape hA (h := hY e n xs st.h.next) rfl fun b x hx => by
    simp only [hY, T.get_put, T.get_leaf] at hx
    split at hx
    · rename_i q; cases hx; subst q; exact ⟨o, q1, q2, q3⟩
    · split at hx
      · rename_i q; cases hx; subst q; exact ⟨_, hm.1, id, fun _ _ _ h => h⟩
      · cases hx
  exact ⟨e, at_less A1 (hasT_get hk.1) (Nat.le_of_eq hk.2.1.symm) (fun _ _ h => h) rfl (noDefs_eq hk.2.2).symm⟩
end
theorem ret_out {Q : V → Prop} {st : St} (h : retIs Q st) : ∃ h2 v, takeAll st.defs st.h = some h2 ∧ resultsO G0 h2 st.env fn = some v ∧ Q v := by
  unfold retIs at h
  split at h
  · split at h
    · exact ⟨_, _, by assumption, by assumption, h⟩
    · cases h
  · cases h
theorem call {xs : List Int} {c : Cap} (hn : xs.length ≤ 30) {ρ : Ren} {cargs : Array Value} {W : World} (ha : Rels ρ [sl xs.length c] cargs.toList) (hS : Sim ρ (hI xs.length xs) W) (k : Nat) :
    CallsIn Fence.wide k Tryz.prog iRText cargs W (fun en w' => ∃ c, en = .returned c ∧ Below W.heap.size W w' ∧ Rel rE (resV xs) c) := by
  have hG : GOk Tryz.prog G0 := (mk_ok _).1
  have hC : Codes G0 := (mk_ok _).2
  have hX : ExtOK Tryz.prog G0 := ext_none
  have hK : KxOK G0 sp.kx := kx_none _
  have out : ∀ {st : St} {a' : Act} {w' : World} {Q : V → Prop}, At ρ (hI xs.length xs) W st a' w' → retIs Q st → (∀ v, Q v → v = resV xs) → LeavesInM Fence.wide k Tryz.prog fn a'.tmps (fun en w' => ∃ c, en = .returned c ∧ Below W.heap.size W w' ∧ Rel rE (resV xs) c) a'.defers .returning w' := by
    intro st a' w' Q hA hr hq
    obtain ⟨h2, v, e1, e2, e3⟩ := ret_out hr
    obtain rfl := hq v e3
    obtain ⟨ρ', s1, s2, s3, s4⟩ := hA
    exact body_out (n := k) hG e1 e2 s2 s1 s3 s4 fun c w2 c1 c2 c3 => ⟨c, rfl, c3.below (hI_ro _ _), pureV_rel rfl c1⟩
  refine callsIn_of_wp_marks isFn body trivial ?_
  rw [q7]
  have h0 := at_enter hS ha (n := 59) (show 1 ≤ 59 by decide)
  have A0 : At ρ (hI xs.length xs) W (S [(0, sl xs.length c)] (hI xs.length xs)) _ W := at_less h0 (hasT_get ⟨rfl, trivial⟩) (Nat.le_refl _) (fun _ _ h => h) rfl rfl
  rw [q0]
  refine wpIn_seq (at_w hG hC hX hK (N := 40) (fn := iRText) (K := K0 [(0, sl xs.length c)] xs.length xs 1001) A0 (by rw [RT.w0]; repeat' (first | exact rfl | exact trivial | apply And.intro)) o0 fun x st' a1 w1 hK1 A1 => ?_)
  cases x with
  | exit _ => cases hK1
  | ret => cases hK1
  | normal =>
  have A1 := toI A1 hK1.1 hK1.2.1 hK1.2.2
  show Code.wpIn Fence.wide k Tryz.prog x1 _ a1 w1
  rw [q1]
  refine wpIn_seq (at_w hG hC hX hK (N := 40) (fn := iRText) (K := K3 [(0, sl xs.length c), (4, sl4)] xs.length xs 1002) A1 (by rw [RT.w1]; repeat' (first | exact rfl | exact trivial | apply And.intro)) o1 fun x st' a2 w2 hK2 A2 => ?_)
  cases x with
  | exit _ => cases hK2
  | ret => cases hK2
  | normal =>
  obtain ⟨e2, A2⟩ := toY A2 hK2.1 hK2.2.2
  show Code.wpIn Fence.wide k Tryz.prog x2 _ a2 w2
  rw [q2]
  refine wpIn_seq (at_w hG hC hX hK (N := 40) (fn := iRText) (K := K3 [(0, sl xs.length c), (4, sl4), (5, .str [])] xs.length xs _) A2 (by rw [RT.w2]; repeat' (first | exact rfl | exact trivial | apply And.intro)) o2 fun x st' a3 w3 hK3 A3 => ?_)
  cases x with
  | exit _ => cases hK3
  | ret => cases hK3
  | normal =>
  obtain ⟨e3, A3⟩ := toY A3 hK3.1 hK3.2.2
  show Code.wpIn Fence.wide k Tryz.prog x3 _ a3 w3
  rw [q3]
  refine wpIn_seq ?_
  rw [q4]
  refine wpIn_seq (at_w hG hC hX hK (N := 40) (fn := iRText) (K := K3 (inv xs.length c [] (Int.ofNat 0)) xs.length xs _) A3 (by rw [RT.w3]; repeat' (first | exact rfl | exact trivial | apply And.intro)) o3 fun x st' a4 w4 hK4 A4 => ?_)
  cases x with
  | exit _ => cases hK4
  | ret => cases hK4
  | normal =>
  obtain ⟨e4, A4⟩ := toY A4 hK4.1 hK4.2.2
  show Code.wpIn Fence.wide k Tryz.prog bl _ a4 w4
  rw [q5]
  refine wpIn_block ?_
  rw [q6]
  refine wpIn_loop_down (fun m a' w' => ∃ i nx e, m = xs.length - i ∧ i ≤ xs.length ∧ okTo xs i ∧ At ρ (hI xs.length xs) W (S (inv xs.length c (textTo xs i) (Int.ofNat i)) (hY e xs.length xs nx)) a' w') (fun m a' w' hJ => ?_) (m := xs.length) ⟨0, _, e4, by omega, by omega, fun j hj => by omega, A4⟩
  obtain ⟨i, nx, e, j1, j2, j3, A5⟩ := hJ
  refine at_w hG hC hX hK (N := 40) (fn := iRText) A5 (round hn j2 j3) o5 fun x st' a6 w6 hK6 A6 => ?_
  cases x with
  | ret => exact out A6 hK6 fun v hv => by rw [hv.1, res_bad hv.2]
  | exit n =>
    obtain ⟨l0, l1, l2, l3⟩ := hK6
    rw [T.beq_true] at l1
    subst l1
    subst l0
    obtain ⟨e7, A7⟩ := toY A6 l2 l3
    simp only [XE, Exit.then, Exit.inBlock, if_true]
    show Code.wpIn Fence.wide k Tryz.prog x4 _ a6 w6
    refine at_w hG hC hX hK (N := 40) (fn := iRText) (K := fun x st => match x with | .ret => retIs (fun v => v = resV xs) st | _ => False) A7 ?_ o6 fun x st' a8 w8 hK8 A8 => ?_
    · refine Eq.mpr (RT.w6 ..) ?_
      have hv := valid_of j3
      refine ⟨fun q => ?_, fun q => ?_⟩
      · rw [res_none (by have := ieq_t.1 q; simp only [iofn] at this; omega)]; rfl
      · rw [res_good (by have := ieq_f.1 q; simp only [iofn] at this; omega) hv]
    cases x with
    | normal => cases hK8
    | exit _ => cases hK8
    | ret => exact out A8 hK8 fun v hv => hv
  | normal =>
    obtain ⟨l1, l2⟩ := hK6
    split at l1
    · obtain ⟨⟨⟨l3, l4⟩, l5⟩, l6⟩ := l1
      subst l5
      obtain ⟨e7, A7⟩ := toY A6 l6 l2
      have hw : wr .i64 (Int.add (Int.ofNat i) (Int.ofNat 1)) = Int.ofNat (i + 1) := by rw [iofn, iadd, wr64 (by simp only [iofn]; omega) (by simp only [iofn]; omega)]; rfl
      rw [hw] at A7
      refine ⟨xs.length - (i + 1), by omega, i + 1, _, e7, rfl, by omega, fun j hj => ?_, A7⟩
      by_cases q : j = i
      · subst q; exact l4
      · exact j3 j (by omega)
    · cases l1
end RT
end Go.Proofs.YtgadijnefbmgkaaGreatDoor

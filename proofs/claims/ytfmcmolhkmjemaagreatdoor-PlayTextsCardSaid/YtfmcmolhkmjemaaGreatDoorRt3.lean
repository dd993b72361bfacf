/- estrayref41.Text: what it returns. -/
import Derived.Test.YtfmcmolhkmjemaaGreatDoorRt2
namespace Go.Proofs.YtfmcmolhkmjemaaGreatDoor
set_option maxRecDepth 100000
open Go.Ev Go.RowKit
/-- results of numbers as they can be -/
def inR (xs : List (Int × Int)) : Prop := ∀ p, p ∈ xs → -9223372036854775808 ≤ p.1 ∧ p.1 < 9223372036854775808 ∧ -9223372036854775808 ≤ p.2 ∧ p.2 < 9223372036854775808
theorem lines_len {xs : List (Int × Int)} (hx : inR xs) : ∀ {k : Nat}, k ≤ xs.length → okTo xs k → (linesTo xs k).length ≤ 42 * k
  | 0, _, _ => by simp [linesTo]
  | k + 1, hk, ho => by
    have hp : xs[k]? = some xs[k] := List.getElem?_eq_getElem (by omega)
    have ih := lines_len hx (k := k) (by omega) fun j hj => ho j (by omega)
    rw [linesTo_succ hp]
    have hb := ho k (by omega) xs[k].1 xs[k].2 hp
    obtain ⟨b1, b2, b3, b4⟩ := hx _ (List.mem_of_getElem? hp)
    unfold badR at hb
    have d1 := dig_le (x := xs[k].1) (by omega) b2
    have d2 := dig_le (x := xs[k].2) (by omega) b4
    unfold lineR
    simp only [List.length_append, List.length_cons, List.length_nil]
    omega
theorem res_bad {xs : List (Int × Int)} (h0 : ¬ 2000 < xs.length) {i : Nat} {x y : Int} (h : xs[i]? = some (x, y)) (hb : badR x y) : resV xs = .tuple [.str [], .int .i64 (Int.ofNat 2)] := by
  unfold resV
  rw [if_neg h0, if_neg fun q => q i (List.getElem?_eq_some_iff.1 h).1 x y h hb]
theorem res_good {xs : List (Int × Int)} (h0 : ¬ 2000 < xs.length) (h : okTo xs xs.length) : resV xs = .tuple [.str (linesTo xs xs.length), .int .i64 (Int.ofNat 0)] := by
  unfold resV
  rw [if_neg h0, if_pos h]
theorem res_many {xs : List (Int × Int)} (h0 : 2000 < xs.length) : resV xs = .tuple [.str [], .int .i64 (Int.ofNat 11)] := by
  unfold resV
  rw [if_pos h0]
theorem resV_pure (xs : List (Int × Int)) : pureV (resV xs) = true := by
  unfold resV
  split
  · rfl
  · split <;> rfl
namespace RT
theorem hI_get {L : List V} {b : Nat} {o : O} (h : (hI L).tr.get b = some o) : b = 1000 ∧ o = .ro none L.length L .leaf := by
  simp only [hI, T.get_put, T.get_leaf] at h
  split at h
  · rename_i q; cases h; exact ⟨q, rfl⟩
  · cases h
theorem hI_ro (L : List V) : AllRo (hI L) := fun b o h => by
  obtain ⟨_, rfl⟩ := hI_get h
  rfl
theorem eqH_eq {a b : H} (h : eqH a b) : a = b := BT.eqH_eq h
theorem ret_out {Q : V → Prop} {st : St} (h : retIs Q st) : ∃ h2 v, takeAll st.defs st.h = some h2 ∧ resultsO G0 h2 st.env fn = some v ∧ Q v := by
  unfold retIs at h
  split at h
  · split at h
    · exact ⟨_, _, by assumption, by assumption, h⟩
    · cases h
  · cases h
theorem okO_res (xs : List (Int × Int)) : okO 1001 (.ro none (resC xs).length (resC xs) .leaf) := fun i v hv => by
  obtain ⟨x, rfl⟩ := resC_int (List.mem_of_getElem? (cell_leaf hv))
  rfl
theorem GR_x : ExtOK Tryz.prog GR := extL_ok (l := [DT.kD big]) (fun x hx => by
  simp only [List.mem_cons, List.not_mem_nil, or_false] at hx
  subst hx
  exact DT.dig_ok big (Nat.le_refl _)) rfl
theorem call {xs : List (Int × Int)} {c : Cap} (hx : inR xs) {ρ : Ren} {cargs : Array Value} {W : World} (ha : Rels ρ [sl xs.length c] cargs.toList) (hS : Sim ρ (hI (resC xs)) W) (k : Nat) :
    CallsIn Fence.wide k Tryz.prog iRText cargs W (fun en w' => ∃ c, en = .returned c ∧ Below W.heap.size W w' ∧ ∀ ρ, Rel ρ (resV xs) c) := by
  have hG : GOk Tryz.prog GR := (mk_ok _).1
  have hG0 : GOk Tryz.prog G0 := (mk_ok _).1
  have hC : Codes GR := (mk_ok _).2
  have hX := GR_x
  have hK : KxOK GR sp.kx := DT.kx_ok big
  have out : ∀ {st : St} {a' : Act} {w' : World} {Q : V → Prop}, At ρ (hI (resC xs)) W st a' w' → retIs Q st → (∀ v, Q v → v = resV xs) → LeavesInM Fence.wide k Tryz.prog fn a'.tmps (fun en w' => ∃ c, en = .returned c ∧ Below W.heap.size W w' ∧ ∀ ρ, Rel ρ (resV xs) c) a'.defers .returning w' := by
    intro st a' w' Q hA hr hq
    obtain ⟨h2, v, e1, e2, e3⟩ := ret_out hr
    obtain rfl := hq v e3
    obtain ⟨ρ', s1, s2, s3, s4⟩ := hA
    exact body_out (n := k) hG0 e1 e2 s2 s1 s3 s4 fun c w2 c1 c2 c3 => ⟨c, rfl, c3.below (hI_ro _), fun ρ => pureV_rel (resV_pure xs) c1⟩
  refine callsIn_of_wp_marks isFn body trivial ?_
  rw [tmps]
  have h0 := at_enter hS ha (n := 57) (show 1 ≤ 57 by decide)
  have A0 : At ρ (hI (resC xs)) W (S [(0, sl xs.length c)] (hI (resC xs))) _ W := at_less h0 (hasT_get ⟨rfl, trivial⟩) (Nat.le_refl _) (fun _ _ h => h) rfl rfl
  rw [cut]
  refine at_list hG hC hX hK (N := 40) (fn := iRText) (K := K0 [(0, sl xs.length c), (4, .str [])] (hI (resC xs)) (fun v => 2000 < xs.length ∧ v = .tuple [.str [], .int .i64 (Int.ofNat 11)]) (¬ 2000 < xs.length)) (rest := x3) (fun st a1 w1 k1 A1 => ?_) (fun x st a1 w1 hx k1 A1 => ?_) A0 ?_ ok0
  rotate_left
  · cases x with
    | normal => exact absurd rfl hx
    | ret => exact out A1 k1 fun v hv => by rw [hv.2, res_many hv.1]
    | exit _ => cases k1
  · refine Eq.mpr (RT.w0 ..) ⟨fun q => ⟨by have := ilt_t.1 q; simp only [iofn] at this; omega, rfl⟩, fun q => ⟨by have := ilt_f.1 q; simp only [iofn] at this; omega, ?_⟩⟩
    repeat' (first | exact rfl | exact trivial | apply And.intro)
  obtain ⟨hm, g1, g2⟩ := k1
  have g2 := eqH_eq g2
  have A2 : At ρ (hI (resC xs)) W (S [(0, sl xs.length c), (4, .str [])] (hI (resC xs))) a1 w1 := at_less A1 (hasT_get g1.1) (Nat.le_of_eq g1.2.1.symm) (fun _ _ h => by rw [g2]; exact h) (by rw [g2]) (noDefs_eq g1.2.2).symm
  rw [q3]
  refine wpIn_seq ?_
  rw [q4]
  refine wpIn_seq (at_w hG hC hX hK (N := 40) (fn := iRText) (K := K0 (inv xs.length c [] (Int.ofNat 0)) (hI (resC xs)) (fun _ => False) True) A2 (by refine Eq.mpr (RT.w4 ..) ?_; repeat' (first | exact rfl | exact trivial | apply And.intro)) ok4 fun x st' a4 w4 hK4 A4 => ?_)
  cases x with
  | exit _ => cases hK4
  | ret => 
    obtain ⟨_, _, _, _, q⟩ := ret_out hK4
    exact q.elim
  | normal =>
  obtain ⟨_, g3, g4⟩ := hK4
  have g4 := eqH_eq g4
  have A5 : At ρ (hI (resC xs)) W (S (inv xs.length c [] (Int.ofNat 0)) (hI (resC xs))) a4 w4 := at_less A4 (hasT_get g3.1) (Nat.le_of_eq g3.2.1.symm) (fun _ _ h => by rw [g4]; exact h) (by rw [g4]) (noDefs_eq g3.2.2).symm
  show Code.wpIn Fence.wide k Tryz.prog bl _ a4 w4
  rw [q5]
  refine wpIn_block ?_
  rw [q6]
  refine wpIn_loop_down (fun m a' w' => ∃ i, m = xs.length - i ∧ i ≤ xs.length ∧ okTo xs i ∧ At ρ (hI (resC xs)) W (S (inv xs.length c (linesTo xs i) (Int.ofNat i)) (hI (resC xs))) a' w') (fun m a' w' hJ => ?_) (m := xs.length) ⟨0, by omega, by omega, fun j hj => by omega, A5⟩
  obtain ⟨i, j1, j2, j3, A6⟩ := hJ
  have hlen := lines_len hx j2 j3
  refine at_w hG hC hX hK (N := 40) (fn := iRText) A6 (round hx j2 (by omega)) ok5 fun x st' a6 w6 hK6 A7 => ?_
  cases x with
  | ret =>
    refine out A7 hK6 fun v hv => ?_
    obtain ⟨⟨x, y, h1, h2⟩, h3⟩ := hv
    rw [h3, res_bad hm h1 h2]
  | exit n =>
    obtain ⟨l0, l1, l2⟩ := hK6
    rw [T.beq_true] at l1
    subst l1
    subst l0
    have A8 : At ρ (hI (resC xs)) W (S [(4, .str (linesTo xs xs.length))] ⟨.leaf, st'.h.next⟩) a6 w6 := at_less A7 (hasT_get l2.1) (Nat.le_of_eq l2.2.1.symm) (fun b o h => by simp [T.get_leaf] at h) rfl (noDefs_eq l2.2.2).symm
    simp only [XE, Exit.then, Exit.inBlock, if_true]
    show Code.wpIn Fence.wide k Tryz.prog x4 _ a6 w6
    refine at_w hG hC hX hK (N := 40) (fn := iRText) (K := fun x st => match x with | .ret => retIs (fun v => v = resV xs) st | _ => False) A8 ?_ ok6 fun x st' a8 w8 hK8 A9 => ?_
    · refine Eq.mpr (RT.w6 ..) ?_
      rw [res_good hm j3]
    cases x with
    | normal => cases hK8
    | exit _ => cases hK8
    | ret => exact out A9 hK8 fun v hv => hv
  | normal =>
    obtain ⟨l1, l2⟩ := hK6
    split at l1
    · obtain ⟨⟨x, y, u1, u2, u3⟩, l6⟩ := l1
      subst u3
      have hlt := (List.getElem?_eq_some_iff.1 u1).1
      have hw : wr .i64 (Int.add (Int.ofNat i) (Int.ofNat 1)) = Int.ofNat (i + 1) := by rw [iofn, iadd, wr64 (by simp only [iofn]; omega) (by simp only [iofn]; omega)]; rfl
      rw [hw, ← linesTo_succ u1] at l6
      have A8 := drop (sz := 57) (m := 1001) (l := inv xs.length c (linesTo xs (i + 1)) (Int.ofNat (i + 1))) (base := (hI (resC xs)).tr) A7 (Nat.le_of_eq l6.2.1.symm) (noDefs_eq l6.2.2) l6.1 (Nat.le_refl _) (show 1000 ≤ 1001 by omega) (fun b o hb => by
        obtain ⟨rfl, rfl⟩ := hI_get hb
        exact ⟨by omega, okO_res xs, l2⟩) (fun p hp => by
          simp only [inv, List.mem_cons, List.not_mem_nil, or_false] at hp
          rcases hp with rfl | rfl | rfl <;> rfl)
      refine ⟨xs.length - (i + 1), by omega, i + 1, rfl, by omega, fun j hj x' y' hxy => ?_, A8⟩
      by_cases q : j = i
      · subst q
        rw [u1] at hxy
        cases hxy
        exact u2
      · exact j3 j (by omega) x' y' hxy
    · cases l1
end RT
end Go.Proofs.YtfmcmolhkmjemaaGreatDoor

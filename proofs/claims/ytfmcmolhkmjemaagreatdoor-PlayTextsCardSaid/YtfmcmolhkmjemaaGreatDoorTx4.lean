/- play.Text: what it returns, whatever the results: the walk. -/
import Derived.Test.YtfmcmolhkmjemaaGreatDoorTx3
namespace Go.Proofs.YtfmcmolhkmjemaaGreatDoor
set_option maxRecDepth 100000
open Go.Ev Go.RowKit
namespace PT
theorem ret_out {Q : V → Prop} {st : St} (h : retIs Q st) : ∃ h2 v, takeAll st.defs st.h = some h2 ∧ resultsO G0 h2 st.env fn = some v ∧ Q v := by
  unfold retIs at h
  split at h
  · split at h
    · exact ⟨_, _, by assumption, by assumption, h⟩
    · cases h
  · cases h
theorem hI_ro (L : List V) : AllRo (hI L) := fun b o h => by
  rcases base_get h with ⟨_, rfl⟩ | ⟨_, q⟩
  · rfl
  · exact hVars_ro gsP 1000 _ _ q
theorem hF_get {L : List V} {nx : Nat} {b : Nat} {o : O} (h : (hF L nx).tr.get b = some o) : (b = 1001 ∧ o = bO .nilp .nils) ∨ (base L).get b = some o := by
  simp only [hF, T.get_put] at h
  split at h
  · rename_i q; cases h; exact .inl ⟨q, rfl⟩
  · exact .inr h
theorem nameS : ST.fn.name ≠ "runtime.NumGoroutine" := fun h => absurd (show (ST.fn.name == "runtime.NumGoroutine") = false by kernel_rfl) (by rw [h]; decide)
/-- String at the end of the run: the memory is forgotten -/
theorem readW {L : List V} {s : List UInt8} {m : Nat} (hm : s.length = m + 1) (hk : m + 1 ≤ 100000) {ρ : Ren} {cargs : Array Value} {w : World} (hS : Sim ρ (hW L (m + 1) (byts s) 1003) w) (ha : Rels ρ [.ptr 1001 0] cargs.toList) (k : Nat) :
    CallsIn Fence.wide k Tryz.prog iStr cargs w (Ret (Post ρ (hW L (m + 1) (byts s) 1003) w (.str s) ⟨.leaf, 1015⟩)) := by
  have F : Framed (hW L (m + 1) (byts s) 1003) (ST.hE m (byts s) 1003) ((ST.hE m (byts s) 1015).set 1002 (some (.ro none (byts s).length (byts s) .leaf))) ⟨.leaf, 1015⟩ := by
    refine ⟨rfl, fun b o hb => ?_, rfl, fun b o hb => by simp [T.get_leaf] at hb⟩
    rcases BT.hB_get hb with ⟨rfl, rfl⟩ | ⟨rfl, _, rfl⟩
    · simp only [hW, T.get_put, if_pos]
    · simp only [hW, T.get_put]; rfl
  refine (ST.read hm hk ha (hS.sub (Nat.le_refl _) F.part) k).mono fun en w' ⟨c, e1, ρ', p1, p2, p3⟩ => ?_
  obtain ⟨u1, u2⟩ := frame_rule F hS p1 p2
  exact ⟨c, e1, ρ', u1, u2, p3⟩
theorem call (hk : KnownOk Tryz.prog kI) {xs : List (Int × Int)} {c : Cap} (hx : inR xs) {ρ : Ren} {cargs : Array Value} {W : World} (ha : Rels ρ [sl xs.length c] cargs.toList) (hS : Sim ρ (hI (resC xs)) W) (k : Nat) :
    CallsIn Fence.wide k Tryz.prog iText cargs W (fun en w' => ∃ c, en = .returned c ∧ Below W.heap.size W w' ∧ ∀ ρ, Rel ρ (resV xs) c) := by
  have hG : GOk Tryz.prog GP := (mk_ok _).1
  have hG0 : GOk Tryz.prog G0 := (mk_ok _).1
  have hC : Codes GP := (mk_ok _).2
  have hX := GP_x hk
  have hK : KxOK GP sp.kx := kxI_ok
  have out : ∀ {st : St} {a' : Act} {w' : World} {Q : V → Prop}, At ρ (hI (resC xs)) W st a' w' → retIs Q st → (∀ v, Q v → v = resV xs) → LeavesInM Fence.wide k Tryz.prog fn a'.tmps (fun en w' => ∃ c, en = .returned c ∧ Below W.heap.size W w' ∧ ∀ ρ, Rel ρ (resV xs) c) a'.defers .returning w' := by
    intro st a' w' Q hA hr hq
    obtain ⟨h2, v, e1, e2, e3⟩ := ret_out hr
    obtain rfl := hq v e3
    obtain ⟨ρ', s1, s2, s3, s4⟩ := hA
    exact body_out (n := k) hG0 e1 e2 s2 s1 s3 s4 fun c w2 c1 c2 c3 => ⟨c, rfl, c3.below (hI_ro _), fun ρ => pureV_rel (resV_pure xs) c1⟩
  refine callsIn_of_wp_marks isFn body trivial ?_
  rw [tmps]
  have h0 := at_enter hS ha (n := 51) (show 1 ≤ 51 by decide)
  have A0 : At ρ (hI (resC xs)) W (S [(0, sl xs.length c)] (hI (resC xs))) _ W := at_less h0 (hasT_get ⟨rfl, trivial⟩) (Nat.le_refl _) (fun _ _ h => h) rfl rfl
  rw [cut]
  refine at_list hG hC hX hK (N := 40) (fn := iText) (K := K0 [(0, sl xs.length c), (4, .ptr 1001 0)] (resC xs) 1002 (fun v => 2000 < xs.length ∧ v = .tuple [.str [], .int .i64 (Int.ofNat 11)]) (¬ 2000 < xs.length)) (rest := x3) (fun st a1 w1 k1 A1 => ?_) (fun x st a1 w1 hx k1 A1 => ?_) A0 ?_ ok0
  rotate_left
  · cases x with
    | normal => exact absurd rfl hx
    | ret => exact out A1 k1 fun v hv => by rw [hv.2, res_many hv.1]
    | exit _ => cases k1
  · refine Eq.mpr (PT.w0 ..) ⟨fun q => ⟨by have := ilt_t.1 q; simp only [iofn] at this; omega, rfl⟩, fun q => ⟨by have := ilt_f.1 q; simp only [iofn] at this; omega, ?_⟩⟩
    repeat' (first | exact rfl | exact trivial | apply And.intro)
  obtain ⟨hm, g1, g2, g3, g4, g5⟩ := k1
  obtain ⟨ob, p1, p2, p3⟩ := isB_o g3
  have A1' := at_shape A1 (h := hF (resC xs) 1002) g2.symm fun b o hb => by
    rcases hF_get hb with ⟨rfl, rfl⟩ | hb
    · exact ⟨ob, p1, p2, p3⟩
    · rcases base_get hb with ⟨rfl, rfl⟩ | ⟨rfl, q⟩
      · exact ⟨_, g4, id, fun _ _ _ h => h⟩
      · exact ⟨_, g5.trans q, id, fun _ _ _ h => h⟩
  have A2 : At ρ (hI (resC xs)) W (S [(0, sl xs.length c), (4, .ptr 1001 0)] (hF (resC xs) 1002)) a1 w1 := at_less A1' (hasT_get g1.1) (Nat.le_of_eq g1.2.1.symm) (fun _ _ h => h) rfl (noDefs_eq g1.2.2).symm
  rw [q3]
  refine wpIn_seq ?_
  rw [q4]
  refine wpIn_seq (at_w hG hC hX hK (N := 40) (fn := iText) (K := K4 (inv xs.length c (Int.ofNat 0)) (hF (resC xs) 1002)) A2 (by refine Eq.mpr (PT.w4 ..) ?_; repeat' (first | exact rfl | exact trivial | apply And.intro)) ok4 fun x st' a4 w4 hK4 A4 => ?_)
  cases x with
  | exit _ => cases hK4
  | ret => cases hK4
  | normal =>
  obtain ⟨g6, g7⟩ := hK4
  have g7 := BT.eqH_eq g7
  have A5 : At ρ (hI (resC xs)) W (S (inv xs.length c (Int.ofNat 0)) (hF (resC xs) 1002)) a4 w4 := at_less A4 (hasT_get g6.1) (Nat.le_of_eq g6.2.1.symm) (fun _ _ h => by rw [g7]; exact h) (by rw [g7]) (noDefs_eq g6.2.2).symm
  show Code.wpIn Fence.wide k Tryz.prog bl _ a4 w4
  rw [q5]
  refine wpIn_block ?_
  rw [q6]
  refine wpIn_loop_down (fun m a' w' => ∃ i, m = xs.length - i ∧ i ≤ xs.length ∧ okTo xs i ∧ ((i = 0 ∧ At ρ (hI (resC xs)) W (S (inv xs.length c (Int.ofNat i)) (hF (resC xs) 1002)) a' w') ∨ (0 < (linesTo xs i).length ∧ At ρ (hI (resC xs)) W (S (inv xs.length c (Int.ofNat i)) (hW (resC xs) (linesTo xs i).length (byts (linesTo xs i)) 1003)) a' w'))) (fun m a' w' hJ => ?_) (m := xs.length) ⟨0, by omega, by omega, fun j hj => by omega, .inl ⟨rfl, A5⟩⟩
  obtain ⟨i, j1, j2, j3, hA⟩ := hJ
  have hlen := lines_len hx j2 j3
  have next : ∀ {x y : Int}, xs[i]? = some (x, y) → ¬ badR x y → okTo xs (i + 1) := fun u1 u2 j hj x' y' hxy => by
    by_cases q : j = i
    · subst q
      rw [u1] at hxy
      cases hxy
      exact u2
    · exact j3 j (by omega) x' y' hxy
  have hw : i < xs.length → wr .i64 (Int.add (Int.ofNat i) (Int.ofNat 1)) = Int.ofNat (i + 1) := fun q => by rw [iofn, iadd, wr64 (by simp only [iofn]; omega) (by simp only [iofn]; omega)]; rfl
  rcases hA with ⟨i0, A6⟩ | ⟨i0, A6⟩
  · subst i0
    refine at_w hG hC hX hK (N := 40) (fn := iText) A6 (roundA hx j2) ok5 fun x st' a6 w6 hK6 A7 => ?_
    cases x with
    | ret =>
      refine out A7 hK6 fun v hv => ?_
      obtain ⟨⟨x, y, h1, h2⟩, h3⟩ := hv
      rw [h3, res_bad hm h1 h2]
    | exit n =>
      obtain ⟨l0, l1, l2, l3⟩ := hK6
      rw [T.beq_true] at l1
      subst l1
      have l3 := BT.eqH_eq l3
      have A8 : At ρ (hI (resC xs)) W (S [(4, .ptr 1001 0)] (hF (resC xs) 1002)) a6 w6 := at_less A7 (hasT_get l2.1) (Nat.le_of_eq l2.2.1.symm) (fun _ _ h => by rw [l3]; exact h) (by rw [l3]) (noDefs_eq l2.2.2).symm
      simp only [XE, Exit.then, Exit.inBlock, if_true]
      show Code.wpIn Fence.wide k Tryz.prog x4 _ a6 w6
      refine at_w hG hC hX hK (N := 40) (fn := iText) (K := fun x st => match x with | .ret => retIs (fun v => v = resV xs) st | _ => False) A8 ?_ ok6 fun x st' a8 w8 hK8 A9 => ?_
      · refine Eq.mpr (PT.w6A ..) ⟨by repeat' (first | exact rfl | exact trivial | apply And.intro), ?_⟩
        have e : linesTo xs xs.length = [] := by rw [← l0]; rfl
        rw [res_good hm (by rw [← l0]; exact j3), e]
      cases x with
      | normal => cases hK8
      | exit _ => cases hK8
      | ret => exact out A9 hK8 fun v hv => hv
    | normal =>
      obtain ⟨l1, l2, l3, l4⟩ := hK6
      split at l1
      · rename_i o1 o2 c1 c2
        obtain ⟨x, y, u1, u2, rfl, rfl⟩ := l1
        have hlt := (List.getElem?_eq_some_iff.1 u1).1
        rw [hw hlt] at l2
        have e : linesTo xs (0 + 1) = line1 x y := by rw [linesTo_succ u1, lineR_eq]; rfl
        have A8 := renamed (xs := xs) rfl (by omega) A7 l2 c1 c2 l3 l4
        refine ⟨xs.length - 1, by omega, 0 + 1, by omega, by omega, next u1 u2, .inr ?_⟩
        rw [e]
        exact ⟨by unfold line1; simp only [List.length_append, List.length_cons, List.length_nil]; omega, A8⟩
      · cases l1
  · refine at_w hG hC hX hK (N := 40) (fn := iText) A6 (roundB hx j2 (byts_len _) (by omega)) ok5 fun x st' a6 w6 hK6 A7 => ?_
    cases x with
    | ret =>
      refine out A7 hK6 fun v hv => ?_
      obtain ⟨⟨x, y, h1, h2⟩, h3⟩ := hv
      rw [h3, res_bad hm h1 h2]
    | exit n =>
      obtain ⟨l0, l1, l2, l3⟩ := hK6
      rw [T.beq_true] at l1
      subst l1
      have l3 := BT.eqH_eq l3
      obtain ⟨m1, hm1⟩ : ∃ m1, (linesTo xs i).length = m1 + 1 := ⟨(linesTo xs i).length - 1, by omega⟩
      have A8 : At ρ (hI (resC xs)) W (S [(4, .ptr 1001 0)] (hW (resC xs) (m1 + 1) (byts (linesTo xs i)) 1003)) a6 w6 := at_less A7 (hasT_get l2.1) (Nat.le_of_eq l2.2.1.symm) (fun _ _ h => by rw [l3, hm1]; exact h) (by rw [l3]; rfl) (noDefs_eq l2.2.2).symm
      simp only [XE, Exit.then, Exit.inBlock, if_true]
      show Code.wpIn Fence.wide k Tryz.prog x4 _ a6 w6
      rw [q11]
      refine wpIn_seq ?_
      rw [q11r]
      refine region_parts ?_
      rw [q11n]
      show wpOpsIn Fence.wide k Tryz.prog (cOps r11) _ (List.range' 0 (2 + 1)) a6 w6
      have n11 : (cOps r11).size = 3 := q11n
      refine at_callM hG (i := 0) (m := 2) A8 p11 g11 act11 ST.isFn nameS ST.body (v := .str (linesTo xs i)) (h' := ⟨.leaf, 1015⟩) (fun ρ cargs hS' ha' k' => readW hm1 (by omega) hS' ha' k') (env' := ⟨51, T.put (envL 51 [(4, .ptr 1001 0)]).tr 50 (some (.str (linesTo xs i)))⟩) (by rw [d11]; rfl) fun a7 w7 A9 => ?_
      have A10 : At ρ (hI (resC xs)) W (S [(50, .str (linesTo xs i))] ⟨.leaf, 1015⟩) a7 w7 := at_less A9 (hasT_get ⟨rfl, trivial⟩) (Nat.le_refl _) (fun _ _ h => h) rfl rfl
      refine at_partW hG hC hX hK (N := 40) (fn := iText) (n := 2) (m := 0) (K := KH [(2, .str (linesTo xs i)), (3, .int .i64 (Int.ofNat 0))] ⟨.leaf, 1015⟩) A10 (by omega) (by refine Eq.mpr (PT.w6B ..) ?_; repeat' (first | exact rfl | exact trivial | apply And.intro)) fun env h a8 w8 hk8 A11 => ?_
      obtain ⟨v1, v2, v3⟩ := hk8
      subst v3
      have A12 : At ρ (hI (resC xs)) W (S [(2, .str (linesTo xs i)), (3, .int .i64 (Int.ofNat 0))] ⟨.leaf, 1015⟩) a8 w8 := at_less A11 (hasT_get v1) (Nat.le_of_eq v2.symm) (fun _ _ h => h) rfl rfl
      show Code.wpIn Fence.wide k Tryz.prog .ret _ a8 w8
      refine at_w hG hC hX hK (N := 40) (fn := iText) (K := fun x st => match x with | .ret => retIs (fun v => v = resV xs) st | _ => False) A12 ?_ rfl fun x st' a9 w9 hK9 A13 => ?_
      · refine Eq.mpr (PT.w6C ..) ?_
        rw [res_good hm (by rw [← l0]; exact j3), l0]
      cases x with
      | normal => cases hK9
      | exit _ => cases hK9
      | ret => exact out A13 hK9 fun v hv => hv
    | normal =>
      obtain ⟨l1, l2, l3, l4⟩ := hK6
      split at l1
      · rename_i o1 o2 c1 c2
        obtain ⟨x, y, u1, u2, rfl, rfl⟩ := l1
        have hlt := (List.getElem?_eq_some_iff.1 u1).1
        rw [hw hlt] at l2
        have e : linesTo xs (i + 1) = linesTo xs i ++ line1 x y := by rw [linesTo_succ u1, lineR_eq]
        rw [← byts_app, ← e] at c2
        rw [← List.length_append, ← e] at c1
        have A8 := renamed (xs := xs) rfl (by omega) A7 l2 c1 c2 l3 l4
        refine ⟨xs.length - (i + 1), by omega, i + 1, rfl, by omega, next u1 u2, .inr ⟨by rw [e, List.length_append]; omega, A8⟩⟩
      · cases l1
end PT
end Go.Proofs.YtfmcmolhkmjemaaGreatDoor

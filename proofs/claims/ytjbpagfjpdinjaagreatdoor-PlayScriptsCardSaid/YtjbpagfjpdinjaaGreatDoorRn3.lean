/- play.Random: what it returns, and leaves in memory: the walk. -/
import Derived.Test.YtjbpagfjpdinjaaGreatDoorRn2
namespace Go.Proofs.YtjbpagfjpdinjaaGreatDoor
set_option maxRecDepth 100000
open Go.Ev Go.RowKit
namespace RN
open OD (opA)
noncomputable def hR : H := ⟨.leaf, 1010⟩
def rV : Nat → V
  | 0 => .nils
  | i + 1 => .slice 1046 0 (i + 1) (.atl (i + 1) 6)
noncomputable def tI (x m : Int) : Nat → T O
  | 0 => OD.tD x m
  | i + 1 => T.put (OD.tD (stF x m (i + 1)) m) 1046 (some (rowO (cellsR (opsR x m (i + 1)))))
noncomputable def hI (x m : Int) (i : Nat) : H := ⟨tI x m i, 1047⟩
/-- what is left of memory -/
noncomputable def hE (x m : Int) : Nat → H
  | 0 => ⟨.leaf, 1047⟩
  | i + 1 => ⟨T.put .leaf 1046 (some (rowO (cellsR (opsR x m (i + 1))))), 1047⟩
theorem readyI {x m n : Int} {i : Nat} (hx : inX x) (h1 : 1 ≤ m) (h2 : m ≤ 4) (hi : i ≤ 90000) : ∃ h ro, Ready n i (rV i) (tI x m i) h ro (opF (stF x m i) m).2 (stF x m (i + 1)) m (cellsR (opsR x m (i + 1))) := by
  cases i with
  | zero =>
    have e : cellsR (opsR x m (0 + 1)) = opV (opF (stF x m 0) m).2 := by
      simp only [opsR, List.nil_append, cellsR, List.flatMap_cons, List.flatMap_nil, List.append_nil]
    rw [e]
    exact ⟨_, _, readyF hx h1 h2⟩
  | succ i =>
    have e : cellsR (opsR x m (i + 1 + 1)) = cellsR (opsR x m (i + 1)) ++ opV (opF (stF x m (i + 1)) m).2 := by
      simp only [opsR]
      rw [cellsR_snoc, cellsR_snoc]
    rw [e]
    exact ⟨_, _, readyW (stF_in hx _) h1 h2 (by rw [cellsR_len, opsR_len]) (by omega) hi⟩
theorem isOp : ∃ fn, Tryz.prog.funcs[iOp]? = some fn ∧ fn.name ≠ "runtime.NumGoroutine" ∧ ∃ c, fn.body = some c := by
  have h : (match Tryz.prog.funcs[iOp]? with
    | some f => (f.name == "runtime.NumGoroutine") == false && f.body.isSome
    | .none => false) = true := by kernel_rfl
  split at h
  · rename_i f hf
    simp only [Bool.and_eq_true, beq_iff_eq] at h
    refine ⟨f, hf, fun q => ?_, Option.isSome_iff_exists.1 h.2⟩
    rw [q] at h
    exact absurd h.1 (by decide)
  · cases h
theorem toS {ρ0 : Ren} {h0 : H} {w0 : World} {st : St} {a : Act} {w : World} (hA : At ρ0 h0 w0 st a w) {l : List (Nat × V)} {h : H} (hs : hasS l st) (hh : st.h = h) : At ρ0 h0 w0 (S l h) a w := by
  subst hh
  exact at_less hA (hasT_get hs.1) (Nat.le_of_eq hs.2.1.symm) (fun _ _ q => q) rfl (noDefs_eq hs.2.2).symm
theorem ret_out {Q : V → Prop} {h : H} {st : St} (hr : retIs Q h st) : ∃ h2 v, takeAll st.defs st.h = some h2 ∧ resultsO G0 h2 st.env fn = some v ∧ Q v ∧ h2 = h := by
  unfold retIs at hr
  split at hr
  · split at hr
    · exact ⟨_, _, by assumption, by assumption, hr⟩
    · cases hr
  · cases hr
theorem hE_next (x m : Int) (i : Nat) : (hE x m i).next = (hI x m i).next := by
  cases i <;> rfl
theorem hE_sub (x m : Int) (i : Nat) : ∀ b o, (hE x m i).tr.get b = some o → (hI x m i).tr.get b = some o := fun b o hb => by
  cases i with
  | zero => simp only [hE, T.get_leaf] at hb; cases hb
  | succ i =>
    simp only [hE, T.get_put] at hb
    split at hb
    · rename_i q
      cases hb; subst q
      simp only [hI, tI, T.get_put]; rfl
    · rw [T.get_leaf] at hb; cases hb
def okCells : O → Bool
  | .cells _ n pat .leaf => Nat.beq pat.length n && pat.all (okB 1046)
  | _ => false
theorem okCells_o {o : O} (h : okCells o = true) : okO 1046 o := by
  unfold okCells at h
  split at h
  · simp only [Bool.and_eq_true, T.beq_true, List.all_eq_true] at h
    obtain ⟨h1, h2⟩ := h
    intro i v hv
    rw [← h1] at hv
    exact h2 v (List.mem_of_getElem? (cell_leaf hv))
  · cases h
theorem okO_tD {x m : Int} {b : Nat} {o : O} (h : (OD.tD x m).get b = some o) : okO 1046 o := by
  rcases OD.tD_get h with ⟨rfl, rfl⟩ | h
  · exact okCells_o rfl
  · have : OD.kept.all (fun p => okCells p.2) = true := by kernel_rfl
    rw [List.all_eq_true] at this
    exact okCells_o (this _ h)
theorem okO_row (l : List OpR) : okO 1046 (rowO (cellsR l)) := fun i v hv => by
  have hv := List.mem_of_getElem? (cell_leaf hv)
  simp only [cellsR, List.mem_flatMap] at hv
  obtain ⟨o, _, ho⟩ := hv
  simp only [opV, List.mem_cons, List.not_mem_nil, or_false] at ho
  rcases ho with rfl | rfl | rfl | rfl | rfl | rfl <;> rfl
theorem call {a b c d e f g h i j s : Int} (hM : MachV a b c d e f g h i j = 0) (hb1 : 1 ≤ b) (hb2 : b ≤ 4) (hx : inX (wr .u32 s)) {n : Nat} (hn : n ≤ 2000) {ρ : Ren} {cargs : Array Value} {W : World} (ha : Rels ρ [cfgV a b c d e f g h i j, .int .u64 s, .int .i64 (Int.ofNat n)] cargs.toList) (hS : Sim ρ hR W) (k : Nat) :
    CallsIn Fence.wide k Tryz.prog iRandom cargs W (Ret (Post ρ hR W (.tuple [rV n, .int .i64 (Int.ofNat 0)]) (hE (wr .u32 s) b n))) := by
  have hG : GOk Tryz.prog GN := (mk_ok _).1
  have hG0 : GOk Tryz.prog G0 := (mk_ok _).1
  have hC : Codes GN := (mk_ok _).2
  have hX := GN_x
  have hK : KxOK GN sp.kx := kx_none _
  refine callsIn_of_wp_marks isFn body trivial ?_
  rw [tmps]
  have hen := at_enter hS ha (n := 42) (show 3 ≤ 42 by decide)
  have A0 : At ρ hR W (S [(0, cfgV a b c d e f g h i j), (1, .int .u64 s), (2, .int .i64 (Int.ofNat n))] hR) _ W := at_less hen (hasT_get ⟨rfl, rfl, rfl, trivial⟩) (Nat.le_refl _) (fun _ _ h => h) rfl rfl
  rw [cut]
  refine at_list hG hC hX hK (N := 60) (fn := iRandom) (K := K0 [(11, .nils), (9, dP), (10, rS), (2, .int .i64 (Int.ofNat n))] (fun d q nx => d = some (.int .u32 (wr .u32 s), .int .i64 b) ∧ q = true ∧ nx ≤ 1046)) (rest := x5) (fun st a1 w1 k1 A1 => ?_) (fun x st a1 w1 hx k1 A1 => ?_) A0 ?_ ok0
  rotate_left
  · cases x with
    | normal => exact absurd rfl hx
    | ret => cases k1
    | exit _ => cases k1
  · refine Eq.mpr (RN.wA ..) ?_
    rw [hM]
    have l1 : ilt (Int.ofNat n) (Int.ofNat 0) = false := by rw [ilt_f]; simp only [iofn]; omega
    have l2 : ilt (Int.ofNat 2000) (Int.ofNat n) = false := by rw [ilt_f]; simp only [iofn]; omega
    rw [l1, l2]
    repeat' (first | exact rfl | exact trivial | exact Nat.le_refl _ | apply And.intro)
  obtain ⟨k1, k2, k3, k4⟩ := k1
  have A2 : At ρ hR W (S [(11, .nils), (9, dP), (10, rS), (2, .int .i64 (Int.ofNat n))] (hI (wr .u32 s) b 0)) a1 w1 := at_less (at_kept A1 (h2 := hI (wr .u32 s) b 0) (show st.h.next ≤ 1047 by omega) (OD.keeps k2 k3 (n := 1047))) (hasT_get k1.1) (Nat.le_of_eq k1.2.1.symm) (fun _ _ h => h) rfl (noDefs_eq k1.2.2).symm
  rw [q5]
  refine wpIn_seq ?_
  rw [q6]
  refine wpIn_seq (at_w hG hC hX hK (N := 60) (fn := iRandom) (K := KN (inv .nils (Int.ofNat n) (Int.ofNat 0)) (hI (wr .u32 s) b 0)) A2 (by refine Eq.mpr (RN.w10 ..) ?_; repeat' (first | exact rfl | exact trivial | apply And.intro)) ok10 fun x st' a4 w4 hK4 A4 => ?_)
  cases x with
  | exit _ => cases hK4
  | ret => cases hK4
  | normal =>
  have A5 := toS A4 hK4.1 hK4.2
  show Code.wpIn Fence.wide k Tryz.prog bl _ a4 w4
  rw [q7]
  refine wpIn_block ?_
  rw [q8]
  refine wpIn_loop_down (fun m a' w' => ∃ i, m = n - i ∧ i ≤ n ∧ At ρ hR W (S (inv (rV i) (Int.ofNat n) (Int.ofNat i)) (hI (wr .u32 s) b i)) a' w') (fun m a' w' hJ => ?_) (m := n) ⟨0, by omega, by omega, A5⟩
  obtain ⟨i, j1, j2, A6⟩ := hJ
  rw [q9]
  refine at_list hG hC hX hK (N := 60) (fn := iRandom) (K := KX (inv (rV i) (Int.ofNat n) (Int.ofNat i)) (hI (wr .u32 s) b i) (i < n)) (rest := y2) (fun st a6 w6 k6 A7 => ?_) (fun x st a6 w6 hx k6 A7 => ?_) A6 ?_ ok11
  rotate_left
  · cases x with
    | normal => exact absurd rfl hx
    | ret => cases k6
    | exit q =>
      obtain ⟨l0, l1, l2, l3⟩ := k6
      rw [T.beq_true] at l1
      subst l1
      have hin : i = n := by have := Nat.not_lt.1 l0; omega
      subst hin
      have A8 := toS A7 l2 l3
      simp only [XE, Exit.then, Exit.inBlock, if_true]
      show Code.wpIn Fence.wide k Tryz.prog x6 _ a6 w6
      have A9 : At ρ hR W (S [(11, rV i)] (hE (wr .u32 s) b i)) a6 w6 := at_less A8 (hasT_get ⟨rfl, trivial⟩) (Nat.le_refl _) (hE_sub _ _ _) (hE_next _ _ _) rfl
      refine at_w hG hC hX hK (N := 60) (fn := iRandom) (K := fun x st => match x with | .ret => retIs (fun v => v = .tuple [rV i, .int .i64 (Int.ofNat 0)]) (hE (wr .u32 s) b i) st | _ => False) A9 ?_ ok14 fun x st' a8 w8 hK8 A10 => ?_
      · refine Eq.mpr (RN.w14 ..) ?_
        repeat' (first | exact rfl | exact trivial | apply And.intro)
      cases x with
      | normal => cases hK8
      | exit _ => cases hK8
      | ret =>
        obtain ⟨h2, v, e1, e2, e3, e4⟩ := ret_out hK8
        subst e3
        subst e4
        obtain ⟨ρ', s1, s2, s3, s4⟩ := A10
        exact body_out (n := k) hG0 e1 e2 s2 s1 s3 s4 fun c w2 c1 c2 c3 => ⟨c, rfl, ρ', c2, c3, c1⟩
  · refine Eq.mpr (RN.w11 ..) ?_
    refine ⟨fun q => ⟨by have := ilt_t.1 q; simp only [iofn] at this; omega, ?_⟩, fun q => ⟨fun _ => by have := ilt_f.1 q; simp only [iofn] at this; omega, ?_⟩⟩
    repeat' (first | exact rfl | exact trivial | apply And.intro)
  obtain ⟨hlt, k7, k8⟩ := k6
  have A8 := toS A7 k7 k8
  obtain ⟨h1, ro, R1, R2, R3⟩ := readyI (n := Int.ofNat n) (i := i) hx hb1 hb2 (by omega)
  rw [q10]
  refine wpIn_seq ?_
  rw [q11]
  refine wpIn_block ?_
  rw [q12]
  refine region_parts ?_
  rw [q12n]
  show wpOpsIn Fence.wide k Tryz.prog (cOps r12) _ (List.range' 0 (3 + (1 + (1 + (1 + (1 + 0)))))) a6 w6
  have n12 : (cOps r12).size = 7 := q12n
  refine at_partW hG hC hX hK (N := 60) (fn := iRandom) (n := 3) (K := KH ([(34, rV i), (35, dP), (36, rS)] ++ inv (rV i) (Int.ofNat n) (Int.ofNat i)) (hI (wr .u32 s) b i)) A8 (by omega) (by refine Eq.mpr (RN.w12a ..) ?_; repeat' (first | exact rfl | exact trivial | apply And.intro)) fun env h a7 w7 hk A9 => ?_
  obtain ⟨g1, g2, g3'⟩ := hk
  subst g3'
  have A10 : At ρ hR W (S ([(34, rV i), (35, dP), (36, rS)] ++ inv (rV i) (Int.ofNat n) (Int.ofNat i)) (hI (wr .u32 s) b i)) a7 w7 := at_less A9 (hasT_get g1) (Nat.le_of_eq g2.symm) (fun _ _ h => h) rfl rfl
  obtain ⟨fo, o1, o2, co, o3⟩ := isOp
  show wpOpsIn Fence.wide k Tryz.prog (cOps r12) _ (List.range' 3 (3 + 1)) a7 w7
  refine at_callM hG (i := 3) (m := 3) A10 p3 g3 (act3 _ _ _) o1 o2 o3 (v := opA (opF (stF (wr .u32 s) b i) b).2) (h' := h1) (fun ρ cargs hS' ha' k' => R1 ρ cargs _ hS' ha' k') (env' := ⟨42, T.put (envL 42 ([(34, rV i), (35, dP), (36, rS)] ++ inv (rV i) (Int.ofNat n) (Int.ofNat i))).tr 37 (some (opA (opF (stF (wr .u32 s) b i) b).2))⟩) (by rw [d3]; rfl) fun a8 w8 A11 => ?_
  have A12 : At ρ hR W ⟨envL 42 ([(37, opA (opF (stF (wr .u32 s) b i) b).2), (34, rV i)] ++ inv (rV i) (Int.ofNat n) (Int.ofNat i)), h1, []⟩ a8 w8 := at_less A11 (hasT_get ⟨rfl, rfl, rfl, rfl, rfl, rfl, rfl, trivial⟩) (Nat.le_refl _) (fun _ _ h => h) rfl rfl
  show wpOpsIn Fence.wide k Tryz.prog (cOps r12) _ (List.range' 4 (1 + 2)) a8 w8
  refine at_partW hG hC hX hK (N := 60) (fn := iRandom) (n := 1) A12 (by omega) R2 fun env h a9 w9 hk A13 => ?_
  have A14 : At ρ hR W ⟨envL 42 ([(34, rV i), (38, .slice 1200 0 1 (.known 1))] ++ inv (rV i) (Int.ofNat n) (Int.ofNat i)), hO (stF (wr .u32 s) b (i + 1)) b ro (opF (stF (wr .u32 s) b i) b).2, []⟩ a9 w9 := at_less (at_kept A13 (h2 := hO (stF (wr .u32 s) b (i + 1)) b ro (opF (stF (wr .u32 s) b i) b).2) (Nat.le_of_eq hk.2.2.1) (keO hk)) (hasT_get hk.1) (Nat.le_of_eq hk.2.1.symm) (fun _ _ h => h) rfl rfl
  refine R3 A14 fun a10 w10 A15 => ?_
  refine at_partW hG hC hX hK (N := 60) (fn := iRandom) (n := 1) (m := 0) (K := KH (inv (.slice 1201 0 (i + 1) (.atl (i + 1) 6)) (Int.ofNat n) (Int.ofNat i)) (hT (stF (wr .u32 s) b (i + 1)) b (cellsR (opsR (wr .u32 s) b (i + 1))))) A15 (by omega) (by refine Eq.mpr (RN.w12c ..) ?_; repeat' (first | exact rfl | exact trivial | apply And.intro)) fun env h a11 w11 hk A16 => ?_
  obtain ⟨g1, g2, g3'⟩ := hk
  subst g3'
  have A17 : At ρ hR W (S (inv (.slice 1201 0 (i + 1) (.atl (i + 1) 6)) (Int.ofNat n) (Int.ofNat i)) (hT (stF (wr .u32 s) b (i + 1)) b (cellsR (opsR (wr .u32 s) b (i + 1))))) a11 w11 := at_less A16 (hasT_get g1) (Nat.le_of_eq g2.symm) (fun _ _ h => h) rfl rfl
  show Code.wpIn Fence.wide k Tryz.prog y3 _ a11 w11
  refine at_w hG hC hX hK (N := 60) (fn := iRandom) (K := KN (inv (.slice 1201 0 (i + 1) (.atl (i + 1) 6)) (Int.ofNat n) (wr .i64 (Int.add (Int.ofNat i) (Int.ofNat 1)))) (hT (stF (wr .u32 s) b (i + 1)) b (cellsR (opsR (wr .u32 s) b (i + 1))))) A17 (by refine Eq.mpr (RN.w13 ..) ?_; repeat' (first | exact rfl | exact trivial | apply And.intro)) ok13 fun x st' a12 w12 hK12 A18 => ?_
  cases x with
  | exit _ => cases hK12
  | ret => cases hK12
  | normal =>
  have hw : wr .i64 (Int.add (Int.ofNat i) (Int.ofNat 1)) = Int.ofNat (i + 1) := by rw [iofn, iadd, wr64 (by simp only [iofn]; omega) (by simp only [iofn]; omega)]; rfl
  rw [hw] at hK12
  have A19 := toS A18 hK12.1 hK12.2
  have A20 := back (m := 1046) (base := OD.tD (stF (wr .u32 s) b (i + 1)) b) (b' := 1201) (t := 11) A19 (by omega) (by show 1010 ≤ 1046; omega) (by show 1000 ≤ 1010; omega) (fun b0 o0 h => ⟨tD_lt h, okO_tD h⟩) (okO_row _) (fun p hp => by
    simp only [List.mem_cons, List.not_mem_nil, or_false] at hp
    rcases hp with rfl | rfl | rfl | rfl <;> rfl)
  exact ⟨n - 1 - i, by omega, i + 1, by omega, by omega, A20⟩
end RN
end Go.Proofs.YtjbpagfjpdinjaaGreatDoor

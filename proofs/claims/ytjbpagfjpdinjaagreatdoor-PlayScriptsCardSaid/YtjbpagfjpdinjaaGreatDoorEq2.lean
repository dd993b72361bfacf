/- slices.Equal at two rows of operations, the one the beginning of the other: the walk. -/
import Derived.Test.YtjbpagfjpdinjaaGreatDoorEq1
import Derived.Test.YtjbpagfjpdinjaaGreatDoorJb
namespace Go.Proofs.YtjbpagfjpdinjaaGreatDoor
set_option maxRecDepth 100000
open Go.Ev Go.RowKit
theorem cellsR_get : ∀ {l : List OpR} {k : Nat} {o : OpR}, l[k]? = some o → ∀ j, j < 6 → (cellsR l)[6 * k + j]? = (opV o)[j]?
  | p :: l, 0, o, h, j, hj => by
    simp only [List.getElem?_cons_zero, Option.some.injEq] at h
    subst h
    simp only [cellsR, List.flatMap_cons, Nat.mul_zero, Nat.zero_add]
    rw [List.getElem?_append_left (by rw [opV_len]; exact hj)]
  | p :: l, k + 1, o, h, j, hj => by
    simp only [List.getElem?_cons_succ] at h
    have := cellsR_get h j hj
    simp only [cellsR, List.flatMap_cons] at this ⊢
    rw [List.getElem?_append_right (by rw [opV_len]; omega), opV_len, ← this]
    congr 1
    omega
  | [], k, o, h, _, _ => by simp at h
theorem tyOp : ∃ t, G0.ty tOp = some t ∧ t.agg = true ∧ t.size = 6 := by
  have : (match G0.ty tOp with | some t => t.agg && Nat.beq t.size 6 | none => false) = true := by kernel_rfl
  revert this
  cases G0.ty tOp with
  | none => intro h; cases h
  | some t =>
    intro h
    simp only [Bool.and_eq_true, T.beq_true] at h
    exact ⟨t, rfl, h.1, h.2⟩
/-- an operation, as it is loaded -/
theorem part_op {l : List OpR} {k : Nat} {o : OpR} (h : l[k]? = some o) : Ev.partAt true 6 (cellsR l).length (cellsR l) .leaf (Nat.add 0 (Nat.mul k 6)) = some (.agg 6 (opV o) .leaf) := by
  have hg : gather (cellsR l).length (cellsR l) .leaf (Nat.add 0 (Nat.mul k 6)) 6 = some (opV o) := gather_all _ _ _ (opV_len o).symm fun j v hj => by
    have e : Nat.add 0 (Nat.mul k 6) = 6 * k := by show 0 + k * 6 = _; omega
    rw [e]
    have hj6 : j < 6 := by have := (List.getElem?_eq_some_iff.1 hj).1; rwa [opV_len] at this
    exact leaf_cell (by rw [cellsR_get h j hj6]; exact hj)
  simp only [Ev.partAt]
  split
  · rename_i q
    simp only [Bool.and_eq_true, T.beq_true] at q
    have hk : k = 0 := by have : 0 + k * 6 = 0 := q.1; omega
    subst hk
    have hl : l.length = 1 := by have := cellsR_len l; omega
    match l, hl with
    | [p], _ => cases h; rfl
  · rw [hg]
    rfl
theorem load_op {l : List OpR} {k b : Nat} {o : OpR} (h : l[k]? = some o) {H0 : H} {ob : O} (hb : H0.tr.get b = some ob) (ho : ob = RN.rowO (cellsR l) ∨ ob = .ro none (cellsR l).length (cellsR l) .leaf) : rLoad (G0.ty tOp) H0 (some (.ptr b (Nat.add 0 (Nat.mul k 6)))) = some (.agg 6 (opV o) .leaf) := by
  obtain ⟨t, t1, t2, t3⟩ := tyOp
  unfold rLoad
  rw [t1]
  rcases ho with rfl | rfl
  · simp only [hb, RN.rowO, t2, t3]
    exact part_op h
  · simp only [hb, t2, t3]
    exact part_op h
namespace EQ
theorem hQ_get {A B : List V} {b : Nat} {o : O} (h : (hQ A B).tr.get b = some o) : (b = 1003 ∧ o = roO B) ∨ (b = 1002 ∧ o = roO A) := by
  simp only [hQ, T.get_put] at h
  split at h
  · rename_i q; cases h; exact .inl ⟨q, rfl⟩
  · split at h
    · rename_i q; cases h; exact .inr ⟨q, rfl⟩
    · rw [T.get_leaf] at h; cases h
theorem hQ_ro (A B : List V) : AllRo (hQ A B) := fun b o h => by
  rcases hQ_get h with ⟨_, rfl⟩ | ⟨_, rfl⟩ <;> rfl
theorem okO_ro (l : List OpR) {m : Nat} : okO m (roO (cellsR l)) := fun i v hv => by
  have hv := List.mem_of_getElem? (cell_leaf hv)
  simp only [cellsR, List.mem_flatMap] at hv
  obtain ⟨o, _, ho⟩ := hv
  simp only [opV, List.mem_cons, List.not_mem_nil, or_false] at ho
  rcases ho with rfl | rfl | rfl | rfl | rfl | rfl <;> rfl
theorem toS {ρ0 : Ren} {h0 : H} {w0 : World} {st : St} {a : Act} {w : World} (hA : At ρ0 h0 w0 st a w) {l : List (Nat × V)} {h : H} (hs : hasS l st) (hh : eqH st.h h) : At ρ0 h0 w0 (S l h) a w := by
  have hh := RN.eqH_eq hh
  subst hh
  exact at_less hA (hasT_get hs.1) (Nat.le_of_eq hs.2.1.symm) (fun _ _ q => q) rfl (noDefs_eq hs.2.2).symm
theorem ret_out {Q : V → Prop} {st : St} (hr : retIs Q st) : ∃ h2 v, takeAll st.defs st.h = some h2 ∧ resultsO G0 h2 st.env fn = some v ∧ Q v := by
  unfold retIs at hr
  split at hr
  · split at hr
    · exact ⟨_, _, by assumption, by assumption, hr⟩
    · cases hr
  · cases hr
theorem call {A B : List OpR} {n : Nat} (h0 : 0 < n) (hn : n ≤ 2000) (hA : A.length = n) (hB : ∀ j, j < n → B[j]? = A[j]?) {c d : Cap} {ρ : Ren} {cargs : Array Value} {W : World} (ha : Rels ρ [sA n c, sB n d] cargs.toList) (hS : Sim ρ (hQ (cellsR A) (cellsR B)) W) (k : Nat) :
    CallsIn Fence.wide k Tryz.prog iEqual cargs W (fun en w' => en = .returned (.bool true) ∧ Below W.heap.size W w') := by
  have hG : GOk Tryz.prog G0 := (mk_ok _).1
  have hC : Codes G0 := (mk_ok _).2
  have hX : ExtOK Tryz.prog G0 := ext_none
  have hK : KxOK G0 sp.kx := kx_none _
  refine callsIn_of_wp_marks isFn body trivial ?_
  rw [tmps]
  have hen := at_enter hS ha (n := 26) (show 2 ≤ 26 by decide)
  have A0 : At ρ (hQ (cellsR A) (cellsR B)) W (S [(0, sA n c), (1, sB n d)] (hQ (cellsR A) (cellsR B))) _ W := at_less hen (hasT_get ⟨rfl, rfl, trivial⟩) (Nat.le_refl _) (fun _ _ h => h) rfl rfl
  rw [cut]
  refine at_list hG hC hX hK (N := 60) (fn := iEqual) (K := KN [(0, sA n c), (1, sB n d)] (hQ (cellsR A) (cellsR B))) (rest := u2) (fun st a1 w1 k1 A1 => ?_) (fun x st a1 w1 hx k1 A1 => ?_) A0 ?_ ok0
  rotate_left
  · cases x with
    | normal => exact absurd rfl hx
    | ret => cases k1
    | exit _ => cases k1
  · refine Eq.mpr (EQ.w1 ..) ?_
    have e : ieq (Int.ofNat n) (Int.ofNat n) = true := ieq_refl _
    rw [e]
    repeat' (first | exact rfl | exact trivial | apply And.intro)
  have A2 := toS A1 k1.1 k1.2
  rw [q3]
  refine wpIn_seq ?_
  rw [q4]
  refine wpIn_seq (at_w hG hC hX hK (N := 60) (fn := iEqual) (K := KN (inv n c d (Int.ofNat 0)) (hQ (cellsR A) (cellsR B))) A2 (by refine Eq.mpr (EQ.w3 ..) ?_; repeat' (first | exact rfl | exact trivial | apply And.intro)) ok3 fun x st' a4 w4 hK4 A4 => ?_)
  cases x with
  | exit _ => cases hK4
  | ret => cases hK4
  | normal =>
  have A5 := toS A4 hK4.1 hK4.2
  show Code.wpIn Fence.wide k Tryz.prog bl _ a4 w4
  rw [q5]
  refine wpIn_block ?_
  rw [q6]
  refine wpIn_loop_down (fun m a' w' => ∃ i, m = n - i ∧ i ≤ n ∧ At ρ (hQ (cellsR A) (cellsR B)) W (S (inv n c d (Int.ofNat i)) (hQ (cellsR A) (cellsR B))) a' w') (fun m a' w' hJ => ?_) (m := n) ⟨0, by omega, by omega, A5⟩
  obtain ⟨i, j1, j2, A6⟩ := hJ
  refine at_w hG hC hX hK (N := 60) (fn := iEqual) (K := K5 n c d (Int.ofNat i) (hQ (cellsR A) (cellsR B)) (i < n)) A6 ?_ ok5 fun x st a6 w6 k6 A7 => ?_
  · refine Eq.mpr (EQ.w5 ..) ⟨fun q => ?_, fun q => ?_⟩
    · have hi : i < n := by have := ilt_t.1 q; simp only [iofn] at this; omega
      obtain ⟨o, ho⟩ : ∃ o, A[i]? = some o := ⟨A[i], List.getElem?_eq_getElem (by omega)⟩
      have l1 : ldQ 1002 i (cellsR A) (cellsR B) = some (.agg 6 (opV o) .leaf) := load_op ho (ob := roO (cellsR A)) (by simp only [hQ, T.get_put]; rfl) (.inr rfl)
      have l2 : ldQ 1003 i (cellsR A) (cellsR B) = some (.agg 6 (opV o) .leaf) := load_op ((hB i hi).trans ho) (ob := roO (cellsR B)) (by simp only [hQ, T.get_put]; rfl) (.inr rfl)
      refine ⟨rfl, q, ⟨_, l1, rfl, rfl, rfl, rfl, rfl, trivial⟩, fun y0 y1 y2 y3 y4 y5 hy => ?_⟩
      rw [l1] at hy
      cases hy
      refine ⟨rfl, q, ⟨_, l2, rfl, rfl, rfl, rfl, rfl, trivial⟩, fun y6 y7 y8 y9 y10 y11 hy => ?_⟩
      rw [l2] at hy
      cases hy
      simp only [ieq_refl, beq_self_eq_true, Bool.and_self, Bool.not_true]
      refine ⟨trivial, ?_⟩
      repeat' (first | exact l1 | exact l2 | exact hi | exact rfl | exact trivial | apply And.intro)
    · refine ⟨fun h => by have := ilt_f.1 q; simp only [iofn] at this; omega, ?_⟩
      repeat' (first | exact rfl | exact trivial | apply And.intro)
  cases x with
  | ret => cases k6
  | exit q =>
    obtain ⟨l0, l1, l2, l3⟩ := k6
    rw [T.beq_true] at l1
    subst l1
    have A8 := toS A7 l2 l3
    simp only [XE, Exit.then, Exit.inBlock, if_true]
    show Code.wpIn Fence.wide k Tryz.prog u3 _ a6 w6
    refine at_w hG hC hX hK (N := 60) (fn := iEqual) (K := fun x st => match x with | .ret => retIs (fun v => v = .bool true) st | _ => False) A8 (Eq.mpr (EQ.w9 ..) rfl) ok9 fun x st' a8 w8 hK8 A9 => ?_
    cases x with
    | normal => cases hK8
    | exit _ => cases hK8
    | ret =>
      obtain ⟨h2, v, e1, e2, e3⟩ := ret_out hK8
      subst e3
      obtain ⟨ρ', s1, s2, s3, s4⟩ := A9
      exact body_out (n := k) hG e1 e2 s2 s1 s3 s4 fun c w2 c1 c2 c3 => ⟨by cases c1; rfl, c3.below (hQ_ro _ _)⟩
  | normal =>
    obtain ⟨hlt, l2, l3⟩ := k6
    have hw : wr .i64 (Int.add (Int.ofNat i) (Int.ofNat 1)) = Int.ofNat (i + 1) := by rw [iofn, iadd, wr64 (by simp only [iofn]; omega) (by simp only [iofn]; omega)]; rfl
    rw [hw] at l2
    have A8 := toS A7 l2 l3
    have A9 := drop (sz := 26) (m := 1010) (l := inv n c d (Int.ofNat (i + 1))) (base := (hQ (cellsR A) (cellsR B)).tr) A8 (Nat.le_refl _) rfl ⟨rfl, rfl, rfl, rfl, trivial⟩ (Nat.le_refl _) (show 1000 ≤ 1010 by omega) (fun b o hb => by
      refine ⟨?_, ?_, hb⟩
      · rcases hQ_get hb with ⟨rfl, _⟩ | ⟨rfl, _⟩ <;> omega
      · rcases hQ_get hb with ⟨_, rfl⟩ | ⟨_, rfl⟩ <;> exact okO_ro _) (fun p hp => by
      simp only [inv, List.mem_cons, List.not_mem_nil, or_false] at hp
      rcases hp with rfl | rfl | rfl | rfl <;> rfl)
    exact ⟨n - 1 - i, by omega, i + 1, by omega, by omega, A9⟩
end EQ
end Go.Proofs.YtjbpagfjpdinjaaGreatDoor

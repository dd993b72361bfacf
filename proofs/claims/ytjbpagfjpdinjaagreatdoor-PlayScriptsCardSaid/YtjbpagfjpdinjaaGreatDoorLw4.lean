/- PlayScripts: the loop over the longer script, and the end. -/
import Derived.Test.YtjbpagfjpdinjaaGreatDoorLw3
namespace Go.Proofs.YtjbpagfjpdinjaaGreatDoor
set_option maxRecDepth 100000
set_option maxHeartbeats 2000000
open Go.Ev Go.RowKit
namespace LT
section
variable {a b c d e f g h i j : Int} {x : Int} {n : Nat} {W : World} {ρ : Ren} {kk : Nat} {Q : Exit → Act → World → Prop}
theorem tM_get {L B : List V} {k : Nat} {o : O} (q : (tM L B).get k = some o) : (k = 1003 ∧ o = RN.rowO B) ∨ (tB L).get k = some o := by
  simp only [tM, T.get_put] at q
  split at q
  · rename_i r; cases q; exact .inl ⟨r, rfl⟩
  · exact .inr q
theorem last (hW : ExtOK Tryz.prog GL) {aa : Act} {w : World} (A0 : At ρ hA W (S [] ⟨varsT gs, 1010⟩) aa w)
    (hQ : ∀ st a w, At ρ hA W st a w → retIs (fun v => v = .bool true) st → Q .ret a w) : x6.wpIn Fence.wide kk Tryz.prog Q aa w := by
  have hG : GOk Tryz.prog GL := (mk_ok _).1
  have hC : Codes GL := (mk_ok _).2
  refine at_w hG hC hW kxU_ok (sp := sp) (N := 60) (fn := iScripts) (K := fun x st => match x with | .ret => retIs (fun v => v = .bool true) st | _ => False) A0 (Eq.mpr LT.w8 rfl) ok8 fun x st' a8 w8 hK8 A9 => ?_
  cases x with
  | normal => cases hK8
  | exit _ => cases hK8
  | ret => exact hQ _ _ _ A9 hK8
theorem loop (hW : ExtOK Tryz.prog GL) (hb1 : 1 ≤ b) (hb2 : b ≤ 4) (hn : n ≤ 510) {aa : Act} {w : World}
    (A0 : At ρ hA W (S [(12, .slice 1003 0 n (.atl n 6)), (9, bP)] ⟨tM (cfgL a b c d e f g h i j) (cellsR (opsR x b n)), 1010⟩) aa w)
    (hQ : ∀ st a w, At ρ hA W st a w → retIs (fun v => v = .bool true) st → Q .ret a w) : x5.wpIn Fence.wide kk Tryz.prog Q aa w := by
  have hG : GOk Tryz.prog GL := (mk_ok _).1
  have hC : Codes GL := (mk_ok _).2
  rw [q5]
  refine wpIn_seq ?_
  rw [q6]
  refine wpIn_seq (at_w hG hC hW kxU_ok (sp := sp) (N := 60) (fn := iScripts) (K := KV (inv n (.atl n 6) (Int.ofNat 0)) ⟨tM (cfgL a b c d e f g h i j) (cellsR (opsR x b n)), 1010⟩) A0 (by refine Eq.mpr (LT.w6 ..) ?_; repeat' (first | exact rfl | exact trivial | apply And.intro)) ok6 fun x' st' a4 w4 hK4 A4 => ?_)
  cases x' with
  | exit _ => cases hK4
  | ret => cases hK4
  | normal =>
  have A5 := toS A4 hK4.1 hK4.2
  show Code.wpIn Fence.wide kk Tryz.prog bl _ a4 w4
  rw [q7]
  refine wpIn_block ?_
  rw [q8]
  refine wpIn_loop_down (fun m a' w' => ∃ k, m = n - k ∧ k ≤ n ∧ At ρ hA W (S (inv n (.atl n 6) (Int.ofNat k)) ⟨tM (cfgL a b c d e f g h i j) (cellsR (opsR x b n)), 1010⟩) a' w') (fun m a' w' hJ => ?_) (m := n) ⟨0, by omega, by omega, A5⟩
  obtain ⟨k, j1, j2, A6⟩ := hJ
  refine at_w hG hC hW kxU_ok (sp := sp) (N := 60) (fn := iScripts) (K := K7 n (.atl n 6) (Int.ofNat k) (cfgL a b c d e f g h i j) (cellsR (opsR x b n)) (k < n)) A6 ?_ ok7 fun x' st a6 w6 k6 A7 => ?_
  · refine Eq.mpr (LT.w7 ..) ⟨fun q => ?_, fun q => ?_⟩
    · have hk : k < n := by have := ilt_t.1 q; simp only [iofn] at this; omega
      obtain ⟨o, ho⟩ : ∃ o, (opsR x b n)[k]? = some o := ⟨_, List.getElem?_eq_getElem (by rw [opsR_len]; exact hk)⟩
      have l1 : ldL k (cfgL a b c d e f g h i j) (cellsR (opsR x b n)) = some (.agg 6 (opV o) .leaf) := load_op ho (ob := RN.rowO (cellsR (opsR x b n))) (by simp only [tM, T.get_put]; rfl) (.inl rfl)
      obtain ⟨y, hy⟩ := ops_at ho
      have hg : Good o := ⟨y, b, hb1, hb2, hy⟩
      have hk2 := op_kind (x := y) hb1
      rw [← hy] at hk2
      refine ⟨rfl, q, ⟨_, l1, rfl, rfl, rfl, rfl, rfl, trivial⟩, fun y0 y1 y2 y3 y4 y5 hl => ?_⟩
      rw [l1] at hl
      cases hl
      have e1 : KB.goodB o.kind o.m o.a o.b o.c o.t = true := KB.goodB_of hg
      have e2 : KB.inK o.kind = true := decide_eq_true ⟨hk2.1, hk2.2.1⟩
      refine ⟨by rw [e1]; rfl, by rw [e2]; rfl, fun hm => ⟨?_, ?_⟩, fun _ => ?_⟩
      · have hm := of_decide_eq_true hm
        have : ilt o.m b = true := ilt_t.2 (hk2.2.2 hm)
        rw [this]; rfl
      · repeat' (first | exact hk | exact rfl | exact trivial | apply And.intro)
      · repeat' (first | exact hk | exact rfl | exact trivial | apply And.intro)
    · refine ⟨fun h => by have := ilt_f.1 q; simp only [iofn] at this; omega, ?_⟩
      repeat' (first | exact rfl | exact trivial | apply And.intro)
  cases x' with
  | ret => cases k6
  | exit q =>
    obtain ⟨l0, l1, l2, l3, l4⟩ := k6
    rw [T.beq_true] at l1
    subst l1
    simp only [XE, Exit.then, Exit.inBlock, if_true]
    show Code.wpIn Fence.wide kk Tryz.prog x6 _ a6 w6
    have A8 : At ρ hA W (S [] ⟨varsT gs, 1010⟩) a6 w6 := at_less (at_kept A7 (h2 := ⟨varsT gs, 1010⟩) (Nat.le_of_eq l4) fun b0 o0 hb => vars_keep l3 hb) (hasT_get trivial) (Nat.le_of_eq l2.2.1.symm) (fun _ _ h => h) rfl (noDefs_eq l2.2.2).symm
    exact last hW A8 hQ
  | normal =>
    obtain ⟨hlt, l2, l3, l4, l5⟩ := k6
    have hw : wr .i64 (Int.add (Int.ofNat k) (Int.ofNat 1)) = Int.ofNat (k + 1) := by rw [iofn, iadd, wr64 (by simp only [iofn]; omega) (by simp only [iofn]; omega)]; rfl
    rw [hw] at l2
    have A8 : At ρ hA W ⟨envL 93 (inv n (.atl n 6) (Int.ofNat (k + 1))), ⟨tM (cfgL a b c d e f g h i j) (cellsR (opsR x b n)), max st.h.next 1010⟩, []⟩ a6 w6 := at_less (at_kept A7 (h2 := ⟨tM (cfgL a b c d e f g h i j) (cellsR (opsR x b n)), max st.h.next 1010⟩) (Nat.le_max_left _ _) fun b0 o0 hb => by
      rcases tM_get hb with ⟨rfl, rfl⟩ | hb
      · exact ⟨_, l4, id, fun _ _ _ h => h⟩
      · rcases tB_get hb with ⟨rfl, rfl⟩ | ⟨_, hb⟩
        · exact ⟨_, l3, id, fun _ _ _ h => h⟩
        · exact vars_keep l5 hb) (hasT_get l2.1) (Nat.le_of_eq l2.2.1.symm) (fun _ _ h => h) rfl (noDefs_eq l2.2.2).symm
    have A9 := drop (sz := 93) (m := 1010) (l := inv n (.atl n 6) (Int.ofNat (k + 1))) (base := tM (cfgL a b c d e f g h i j) (cellsR (opsR x b n))) A8 (Nat.le_refl _) rfl ⟨rfl, rfl, rfl, rfl, trivial⟩ (show 1000 ≤ 1010 by omega) (show 1000 ≤ 1000 by omega) (fun b0 o0 hb => by
      refine ⟨?_, ?_, hb⟩
      · rcases tM_get hb with ⟨rfl, _⟩ | hb
        · omega
        · have := tB_lt hb; omega
      · rcases tM_get hb with ⟨_, rfl⟩ | hb
        · exact okO_rowm _
        · exact okO_tB hb) (fun p hp => by
      simp only [inv, List.mem_cons, List.not_mem_nil, or_false] at hp
      rcases hp with rfl | rfl | rfl | rfl <;> rfl)
    exact ⟨n - 1 - k, by omega, k + 1, by omega, by omega, A9⟩
end
end LT
end Go.Proofs.YtjbpagfjpdinjaaGreatDoor

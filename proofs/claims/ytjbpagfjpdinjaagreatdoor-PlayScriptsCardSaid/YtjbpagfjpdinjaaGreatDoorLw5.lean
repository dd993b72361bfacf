/- PlayScripts: the comparison of the two scripts. -/
import Derived.Test.YtjbpagfjpdinjaaGreatDoorLw4
namespace Go.Proofs.YtjbpagfjpdinjaaGreatDoor
set_option maxRecDepth 100000
set_option maxHeartbeats 2000000
open Go.Ev Go.RowKit
namespace LT
section
variable {a b c d e f g h i j : Int} {x : Int} {W : World} {ρ : Ren} {kk : Nat} {Q : Exit → Act → World → Prop}
theorem ok4' : okC x4 = true := by kernel_rfl
theorem ne_eq' {n m : Nat} {y : Int} (h : y = Int.ofNat m) (e : n = m) : (!ieq (Int.ofNat n) y) = false := by
  rw [h, e, show ieq (Int.ofNat m) (Int.ofNat m) = true from ieq_refl _]
  rfl
theorem mid (hW : ExtOK Tryz.prog GL) (hb1 : 1 ≤ b) (hb2 : b ≤ 4) {p q : Nat} (hp : p ≤ 255) (hq : q ≤ 255) {aa : Act} {w : World}
    (A0 : At ρ hA W (S (e4 p q (lV 1002 p) (lV 1003 (p + q))) ⟨tS x b 1003 (tS x b 1002 (tB (cfgL a b c d e f g h i j)) p) (p + q), 1010⟩) aa w)
    (hQ : ∀ st a w, At ρ hA W st a w → retIs (fun v => v = .bool true) st → Q .ret a w) : x4.wpIn Fence.wide kk Tryz.prog Q aa w := by
  have hG : GOk Tryz.prog GL := (mk_ok _).1
  have hC : Codes GL := (mk_ok _).2
  have hs := sm_eq hp hq
  unfold sm at hs
  cases p with
  | zero =>
    cases q with
    | zero =>
      refine at_w hG hC hW kxU_ok (sp := sp) (N := 60) (fn := iScripts) (K := fun x st => match x with | .ret => retIs (fun v => v = .bool true) st | _ => False) A0 ?_ ok4' fun x st' a8 w8 hK8 A9 => ?_
      · refine Eq.mpr (LT.w4N ..) ⟨rfl, rfl, fun h => (nomatch h), fun _ => rfl⟩
      cases x with
      | normal => cases hK8
      | exit _ => cases hK8
      | ret => exact hQ _ _ _ A9 hK8
    | succ q =>
      have en : 0 + (q + 1) = q + 1 := Nat.zero_add _
      rw [en] at A0
      have A1 : At ρ hA W (S (e4 0 (q + 1) .nils (.slice 1003 0 (q + 1) (.atl (q + 1) 6))) ⟨tM (cfgL a b c d e f g h i j) (cellsR (opsR x b (q + 1))), 1010⟩) aa w := A0
      rw [q4]
      refine at_list hG hC hW kxU_ok (sp := spS 0 (q + 1)) (N := 60) (fn := iScripts) (K := KN [(12, .slice 1003 0 (q + 1) (.atl (q + 1) 6)), (9, bP)] ⟨tM (cfgL a b c d e f g h i j) (cellsR (opsR x b (q + 1))), 1010⟩) (rest := x5) (fun st a1 w1 k1 A2 => ?_) (fun x st a1 w1 hx k1 A2 => ?_) A1 ?_ ok4
      · have h2 := RN.eqH_eq k1.2
        exact loop hW hb1 hb2 (by omega) (toS A2 k1.1 h2) hQ
      · cases x with
        | normal => exact absurd rfl hx
        | ret => cases k1
        | exit _ => cases k1
      · refine Eq.mpr (LT.w4F ..) ⟨rfl, ne_eq' hs (by omega), ?_⟩
        repeat' (first | exact rfl | exact trivial | apply And.intro)
  | succ p =>
    obtain ⟨n, hn⟩ : ∃ n, p + 1 + q = n + 1 := ⟨p + q, by omega⟩
    rw [hn] at A0 hs
    have A1 : At ρ hA W (S (e4 (p + 1) q (.slice 1002 0 (p + 1) (.atl (p + 1) 6)) (.slice 1003 0 (n + 1) (.atl (n + 1) 6))) ⟨tLM (cfgL a b c d e f g h i j) (cellsR (opsR x b (p + 1))) (cellsR (opsR x b (n + 1))), 1010⟩) aa w := A0
    rw [q4]
    refine at_list hG hC hW kxU_ok (sp := spS (p + 1) (n + 1)) (N := 60) (fn := iScripts) (K := KN [(12, .slice 1003 0 (n + 1) (.atl (n + 1) 6)), (9, bP)] ⟨tLM (cfgL a b c d e f g h i j) (cellsR (opsR x b (p + 1))) (cellsR (opsR x b (n + 1))), 1010⟩) (rest := x5) (fun st a1 w1 k1 A2 => ?_) (fun x st a1 w1 hx k1 A2 => ?_) A1 ?_ ok4
    · have h2 := RN.eqH_eq k1.2
      have A3 := toS A2 k1.1 h2
      refine loop hW hb1 hb2 (by omega) (at_kept A3 (h2 := ⟨tM (cfgL a b c d e f g h i j) (cellsR (opsR x b (n + 1))), 1010⟩) (Nat.le_refl _) fun b0 o0 hb => ⟨o0, ?_, id, fun _ _ _ h => h⟩) hQ
      rcases tM_get hb with ⟨rfl, rfl⟩ | hb
      · simp only [tLM, T.get_put]; rfl
      · have := tB_lt hb
        simp only [tLM, tL, T.get_put]
        rw [if_neg (by omega), if_neg (by omega)]
        exact hb
    · cases x with
      | normal => exact absurd rfl hx
      | ret => cases k1
      | exit _ => cases k1
    · have hE : ∀ H : H, H = ⟨tLM (cfgL a b c d e f g h i j) (cellsR (opsR x b (p + 1))) (cellsR (opsR x b (n + 1))), 1010⟩ → (!(Nat.beq (p + 1) (p + 1) && KB.eqB (p + 1) H)) = false := fun H e => by
        subst e
        have : KB.eqB (p + 1) ⟨tLM (cfgL a b c d e f g h i j) (cellsR (opsR x b (p + 1))) (cellsR (opsR x b (n + 1))), 1010⟩ = true := KB.eqB_of ⟨by omega, by omega, Nat.le_refl _, opsR x b (p + 1), opsR x b (n + 1), by simp only [tLM, tL, T.get_put]; rfl, by simp only [tLM, T.get_put]; rfl, opsR_len _ _ _, fun j hj => by rw [← hn]; exact ops_same j hj⟩
        rw [this, show Nat.beq (p + 1) (p + 1) = true from (T.beq_true).2 rfl]
        rfl
      refine Eq.mpr (LT.w4W ..) ⟨ne_eq' (wr8 hp) rfl, ne_eq' hs rfl, ?_, hE _ ?_, ?_⟩
      · exact ⟨rfl, Nat.ble_eq_true_of_le (by omega), rfl, rfl, rfl, rfl, rfl⟩
      · kernel_rfl
      · repeat' (first | exact rfl | exact trivial | apply And.intro)
end
end LT
end Go.Proofs.YtjbpagfjpdinjaaGreatDoor

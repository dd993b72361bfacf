/- PlayTexts: a row of no results that is not nil. -/
import Derived.Test.YtfmcmolhkmjemaaGreatDoorPl3
namespace Go.Proofs.YtfmcmolhkmjemaaGreatDoor
set_option maxRecDepth 100000
open Go.Ev Go.RowKit
namespace LT
noncomputable abbrev hZ : H := ⟨.leaf, 1001⟩
noncomputable def spK : SpF where
  at' := fun _ _ => .keep
noncomputable abbrev noneV : V := .tuple [.str [], .int .i64 (Int.ofNat 0)]
theorem vTextZ (c : Cap) : (fnW PT.GP spK 40 iText [.slice 1000 0 0 c] hZ (fun v _ => v = noneV)) = (
(((True) ∧
  ((Int.ofNat 0) = (Int.ofNat 0))) ∧
 (((True) ∧
   (True)) ∧
  (((True) ∧
    (True)) ∧
   (True)))) ∧
((V.tuple [V.str [], V.int IntKind.i64 (Int.ofNat 0)]) = (V.tuple [V.str [], V.int IntKind.i64 (Int.ofNat 0)]))) := by kernel_rfl
theorem vRTextZ (c : Cap) : (fnW RT.GR spK 40 iRText [.slice 1000 0 0 c] hZ (fun v _ => v = noneV)) = (
(V.tuple [V.str [], V.int IntKind.i64 (Int.ofNat 0)]) = (V.tuple [V.str [], V.int IntKind.i64 (Int.ofNat 0)])) := by kernel_rfl
theorem textZ (c : Cap) : fnW PT.GP spK 40 iText [.slice 1000 0 0 c] hZ (fun v _ => v = noneV) := by
  refine Eq.mpr (LT.vTextZ ..) ?_
  repeat' (first | exact rfl | exact trivial | apply And.intro)
theorem rtextZ (c : Cap) : fnW RT.GR spK 40 iRText [.slice 1000 0 0 c] hZ (fun v _ => v = noneV) := by
  refine Eq.mpr (LT.vRTextZ ..) ?_
  repeat' (first | exact rfl | exact trivial | apply And.intro)
theorem says_zero {G : Γ} (hG : GOk Tryz.prog G) (hC : Codes G) (hX : ExtOK Tryz.prog G) {f : FuncId} {c : Cap} {sp : SpF} (hk : KxOK G sp.kx) (hw : fnW G sp 40 f [.slice 1000 0 0 c] hZ (fun v _ => v = noneV)) : Says f (.slice 1000 0 0 c) .none [] (Int.ofNat 0) := fun ρ cargs W hS ha k => by
  refine (call_w hG hC hX hk hw ha (hS.sub (Nat.le_refl _) fun b x hb => by simp [T.get_leaf] at hb) k).mono fun en w' ⟨v, h', c, ρ', q1, q2, q3, q4, q5⟩ => ?_
  subst q1
  exact ⟨_, rfl, q4.below (fun b x hb => by simp [T.get_leaf] at hb), c, q2, fun ρ2 => pureV_rel (v := noneV) rfl q5⟩
theorem law_zero (hI : ShelfItoa) {W : World} {B o cap : Nat} (hV : VarsOk gs W) (k : Nat) : CallsIn Fence.wide k Tryz.prog iTexts #[.slice (some ⟨B, o, none⟩) 0 cap] W (fun en w' => en = .returned (.bool true) ∧ Below W.heap.size W w') := by
  have S0 := sim_vars hV (Nat.le_refl 1000)
  let ρ : Ren := fun b => if b = 1000 then some (B, o, 0) else rVars (roomOf W) b
  have r0 : ρ 1000 = some (B, o, 0) := by simp [ρ]
  have r1 : ∀ b, b ≠ 1000 → ρ b = rVars (roomOf W) b := fun b hb => by simp [ρ, hb]
  have le : (rVars (roomOf W)).le ρ := fun b L hL => by
    by_cases q : b = 1000
    · subst q
      simp [rVars] at hL
    · rw [r1 b q]; exact hL
  have get : ∀ b x, (hA .none).tr.get b = some x → b ≠ 1000 ∧ (hVars gs 1000).tr.get b = some x := fun b x h => by
    simp only [hA, T.get_put] at h
    split at h
    · cases h
    · exact ⟨by assumption, h⟩
  have hS : Sim ρ (hA .none) W := by
    refine ⟨fun g hg => ?_, fun b L hb => ?_, fun b x hb => ?_, fun b b' x x' L L' hb hb' hL hL' e => ?_⟩
    · obtain ⟨z, hz⟩ := S0.glob g hg
      exact ⟨z, le _ _ hz⟩
    · show b < 1001
      by_cases q : b = 1000
      · omega
      · rw [r1 b q] at hb
        have : b < 1000 := S0.dom b L hb
        omega
    · obtain ⟨_, hb⟩ := get b x hb
      obtain ⟨L, c, l1, l2, l3⟩ := S0.live b x hb
      exact ⟨L, c, le _ _ l1, l2, l3.mono le⟩
    · obtain ⟨n1, hb⟩ := get b x hb
      obtain ⟨n2, hb'⟩ := get b' x' hb'
      rw [r1 b n1] at hL
      rw [r1 b' n2] at hL'
      exact S0.inj b b' x x' L L' hb hb' hL hL' e
  refine law (ρ := ρ) (arg := .slice 1000 0 0 (.known cap)) (E := True) (s := []) (e := Int.ofNat 0) (fun x h => by cases h) ?_ (fun _ => says_zero (mk_ok _).1 (mk_ok _).2 (PT.GP_x (PT.kI_ok hI)) (kx_none _) (textZ _)) (fun _ => says_zero (mk_ok _).1 (mk_ok _).2 RT.GR_x (kx_none _) (rtextZ _)) (Rels.cons (.sliceK (o := 0) r0) Rels.nil) hS k
  refine Eq.mpr (LT.w1 ..) ?_
  repeat' (first | exact rfl | exact trivial | apply And.intro | intro _)
end LT
end Go.Proofs.YtfmcmolhkmjemaaGreatDoor

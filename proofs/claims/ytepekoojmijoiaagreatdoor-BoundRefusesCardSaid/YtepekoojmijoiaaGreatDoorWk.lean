/- What 'works' does: the examples of the chapter hold, in whatever memory in which the letters of answers lie as they are laid. -/
import Derived.Test.YtepekoojmijoiaaGreatDoorR4
namespace Go.Proofs.YtepekoojmijoiaaGreatDoor
set_option maxRecDepth 100000
open Go.Ev Go.RowKit
theorem works_hit : r11.hit iWorks [] (hLet letters 1000) = true := by kernel_rfl
theorem works_val : r11.v = .bool true := by kernel_rfl
theorem works_ok {W : World} (hL : LetOk letters W) (k : Nat) : CallsIn Fence.wide k P iWorks #[] W (fun e w' => e = .returned (.bool true) ∧ Below W.heap.size W w') := by
  obtain ⟨z, hz⟩ := sim_let hL
  refine (r11_snd iWorks [] (hLet letters 1000) works_hit (rLet z) #[] W Rels.nil (hz 1000 (Nat.le_refl _)) k).mono fun e w' ⟨c, h1, ρ', h2, h3, h4⟩ => ?_
  rw [works_val] at h4
  cases h4
  exact ⟨h1, h3.below (hLet_ro _ _)⟩
/-- 'works', as it is known -/
noncomputable def kWorks : Known := (iWorks, fun args h => match args, knows letters h with
  | [], true => some (.bool true)
  | _, _ => .none)
theorem kWorks_ok : KnownOk P kWorks := by
  intro args h v hv ρ cargs w ha hS n
  simp only [kWorks] at hv
  split at hv
  · rename_i h2
    cases hv
    have hc : cargs = #[] := by
      have := ha.of_nil
      rw [← Array.toArray_toList (xs := cargs), this]
    subst hc
    exact (works_ok (knows_let h2 hS) n).mono fun e w' ⟨e1, e2⟩ => ⟨_, e1, e2, .bool true⟩
  · cases hv
end Go.Proofs.YtepekoojmijoiaaGreatDoor

/- What 'works' of chapter 41 does: its examples hold, in whatever memory in which the four variables lie as they are laid; what is known of calls. -/
import Derived.Test.YtemanejjmkjfnaaGreatDoorRx
import Derived.Test.YtemanejjmkjfnaaGreatDoorRd
namespace Go.Proofs.YtemanejjmkjfnaaGreatDoor
set_option maxRecDepth 100000
open Go.Ev Go.RowKit
theorem works_hit : r9.hit iWorks [] (hVars gs 1000) = true := by kernel_rfl
theorem works_val : r9.v = .bool true := by kernel_rfl
theorem works_ok {W : World} (hV : VarsOk gs W) (k : Nat) : CallsIn Fence.wide k P iWorks #[] W (fun e w' => e = .returned (.bool true) ∧ Below W.heap.size W w') := by
  refine (r9_snd iWorks [] (hVars gs 1000) works_hit _ #[] W Rels.nil (sim_vars hV (Nat.le_refl _)) k).mono fun e w' ⟨c, h1, ρ', h2, h3, h4⟩ => ?_
  rw [works_val] at h4
  cases h4
  exact ⟨h1, h3.below (hVars_ro _ _)⟩
namespace RT
theorem kWorks_ok : KnownOk P kWorks := by
  intro args h v hv ρ cargs w ha hS n
  simp only [kWorks] at hv
  split at hv
  · rename_i h2
    cases hv
    have hc : cargs = #[] := by
      have := ha.of_nil
      rw [← Array.toArray_toList (xs := cargs), this]
    subst hc
    exact (works_ok (vars_of_has gs_pure gs_lt h2 hS) n).mono fun e w' ⟨e1, e2⟩ => ⟨_, e1, e2, .bool true⟩
  · cases hv
theorem GL_x (bb : Int) : ExtOK P (GL bb) := extU_ok (kB_ok bb) (ext5_ok (l := kl) (lp := lm) (fun x hx => by
  simp only [kl, List.mem_cons, List.not_mem_nil, or_false] at hx
  rcases hx with rfl | rfl | rfl
  · exact Gens_ok
  · exact Allowed_ok
  · exact kWorks_ok) (fun x hx => by
  simp only [lm, List.mem_cons, List.not_mem_nil, or_false] at hx
  rcases hx with rfl
  exact SlotsM_ok) rfl)
end RT
end Go.Proofs.YtemanejjmkjfnaaGreatDoor

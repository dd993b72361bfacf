/- What 'works' of chapter 45 does: its examples hold, in whatever memory in which the letters of answers lie as they are laid; what is known of calls. -/
import Derived.Test.YtcbggkejlhifpaaGreatDoorRx
import Derived.Test.YtcbggkejlhifpaaGreatDoorLb1
namespace Go.Proofs.YtcbggkejlhifpaaGreatDoor
set_option maxRecDepth 100000
open Go.Ev Go.RowKit
theorem works_hit : r11.hit iWorks [] (hVars gs 1000) = true := by kernel_rfl
theorem works_val : r11.v = .bool true := by kernel_rfl
theorem works_ok {W : World} (hV : VarsOk gs W) (k : Nat) : CallsIn Fence.wide k P iWorks #[] W (fun e w' => e = .returned (.bool true) ∧ Below W.heap.size W w') := by
  refine (r11_snd iWorks [] (hVars gs 1000) works_hit _ #[] W Rels.nil (sim_vars hV (Nat.le_refl _)) k).mono fun e w' ⟨c, h1, ρ', h2, h3, h4⟩ => ?_
  rw [works_val] at h4
  cases h4
  exact ⟨h1, h3.below (hVars_ro _ _)⟩
theorem vars_of_has {l : List (Nat × List V)} (hp : ∀ p, p ∈ l → ∀ v, v ∈ p.2 → pureS v = true) (hl : ∀ p, p ∈ l → p.1 < 1000) {h : H} (hh : Go.Ev.has h (roL l) = true) {ρ : Ren} {w : World} (hS : Sim ρ h w) : VarsOk l w := by
  intro g vs hm
  obtain ⟨o, h1, h2⟩ := has_get hh (g, .ro (some 0) vs.length vs .leaf) (List.mem_map.2 ⟨(g, vs), hm, rfl⟩)
  obtain ⟨L, c, l1, l2, l3⟩ := hS.live g o h1
  obtain ⟨z, hz⟩ := hS.glob g (hl _ hm)
  rw [hz] at l1
  cases l1
  obtain ⟨cs, el, fr, q1, q2, q3, q5, q6⟩ := (O.beq_rel h2).2 _ _ _ l3
  subst q1
  have q2 : cs.size = z := q2
  have q3 : 0 + vs.length ≤ z := q3
  have q4 : z = vs.length := (q5 _ rfl).2
  refine ⟨hl _ hm, cs, el, fr, l2, by omega, fun i v hv => ?_⟩
  have hi := (List.getElem?_eq_some_iff.1 hv).1
  have hc : cs[i]? = some cs[i] := Array.getElem?_eq_getElem (by omega)
  refine ⟨_, hc, q6.1 i _ hi (by rw [Nat.zero_add]; exact hc), fun ρ' => pureS_rel (hp _ hm v (List.mem_of_getElem? hv)) (q6.2 i v _ (leaf_cell hv) (by rw [Nat.zero_add]; exact hc))⟩
theorem kWorks_ok : KnownOk P kWorks := by
  intro args h v hv ρ cargs w ha hS n
  simp only [kWorks] at hv
  split at hv
  · rename_i h2
    cases hv
    have hc : cargs = #[] := by
      have := ha.of_nil
      rw [← Array.toArray_toList (xs := cargs), this]
    subst hc
    exact (works_ok (vars_of_has gs_pure gs_lt h2 hS) n).mono fun e w' ⟨e1, e2⟩ => ⟨_, e1, e2, .bool true⟩
  · cases hv
theorem GL_x : ExtOK P GL := extL_ok (l := [kConf, kWorks]) (fun x hx => by
  simp only [List.mem_cons, List.not_mem_nil, or_false] at hx
  rcases hx with rfl | rfl
  · exact conf_ok
  · exact kWorks_ok) rfl
end Go.Proofs.YtcbggkejlhifpaaGreatDoor

/- strconv.Itoa at numbers from 0 on, as a call that is known: from the library's contract. -/
import Derived.Test.YtfmcmolhkmjemaaGreatDoorTx4
namespace Go.Proofs.YtfmcmolhkmjemaaGreatDoor
set_option maxRecDepth 100000
open Go.Ev Go.RowKit
/-- what the library's contract says at this program -/
def ShelfItoa : Prop := ∀ (n : Int) (w : World), 0 ≤ n → n < 9223372036854775808 → VarsOk gsP w → Calls Tryz.prog iItoa #[.int .i64 n] w fun e w' => e = .returned (.string ⟨(Lib.itoa n).toArray⟩) ∧ Below w.heap.size w w'
theorem vars_of_has {l : List (Nat × List V)} (hp : ∀ p, p ∈ l → ∀ v, v ∈ p.2 → pureS v = true) (hl : ∀ p, p ∈ l → p.1 < 1000) {h : H} (hh : Go.Ev.has h (roL l) = true) {ρ : Ren} {w : World} (hS : Sim ρ h w) : VarsOk l w := by
  intro g vs hm
  obtain ⟨o, h1, h2⟩ := has_get hh (g, .ro (some 0) vs.length vs .leaf) (List.mem_map.2 ⟨(g, vs), hm, rfl⟩)
  obtain ⟨L, c, l1, l2, l3⟩ := hS.live g o h1
  obtain ⟨z, hz⟩ := hS.glob g (hl _ hm)
  rw [hz] at l1
  cases l1
  obtain ⟨cs, el, fr, q1, q2, q3, q5, q6⟩ := (O.beq_rel h2).2 _ _ _ l3
  subst q1
  have q2 : cs.size = z := q2
  have q3 : 0 + vs.length ≤ z := q3
  have q4 : z = vs.length := (q5 _ rfl).2
  refine ⟨hl _ hm, cs, el, fr, l2, by omega, fun i v hv => ?_⟩
  have hi := (List.getElem?_eq_some_iff.1 hv).1
  have hc : cs[i]? = some cs[i] := Array.getElem?_eq_getElem (by omega)
  refine ⟨_, hc, q6.1 i _ hi (by rw [Nat.zero_add]; exact hc), fun ρ' => pureS_rel (hp _ hm v (List.mem_of_getElem? hv)) (q6.2 i v _ (leaf_cell hv) (by rw [Nat.zero_add]; exact hc))⟩
theorem gsP_lt : ∀ p, p ∈ gsP → p.1 < 1000 := fun p hp => by
  simp only [gsP, List.mem_cons, List.not_mem_nil, or_false] at hp
  subst hp
  show gPow < 1000; decide
theorem gsP_pure : ∀ p, p ∈ gsP → ∀ v, v ∈ p.2 → pureS v = true := fun p hp v hv => by
  simp only [gsP, List.mem_cons, List.not_mem_nil, or_false] at hp
  subst hp
  simp only [pow10, List.mem_map] at hv
  obtain ⟨n, _, rfl⟩ := hv
  rfl
namespace PT
theorem kI_ok (hI : ShelfItoa) : KnownOk Tryz.prog kI := by
  intro args h v hv ρ cargs w ha hS n
  simp only [kI] at hv
  split at hv
  · rename_i x hh
    split at hv
    · rename_i hb
      cases hv
      obtain ⟨h1, h2⟩ := DT.inB_iff.1 hb
      have h2 : x < 9223372036854775808 := h2
      obtain ⟨c, cs', e1, q1, q2⟩ := ha.uncons
      have q2 := q2.of_nil
      cases q1
      have hc : cargs = #[.int .i64 x] := by
        rw [← Array.toArray_toList (xs := cargs), e1, q2]
      subst hc
      have e : Lib.itoa x = digF x := by
        unfold Lib.itoa digF
        rw [if_neg (by omega)]
      refine (callsIn_wide.2 (hI x w h1 h2 (vars_of_has gsP_pure gsP_lt hh hS))).mono fun en w' ⟨r1, r2⟩ => ⟨_, r1, r2, ?_⟩
      rw [e]
      exact .str _
    · cases hv
  · cases hv
end PT
end Go.Proofs.YtfmcmolhkmjemaaGreatDoor

/- Runs of chapter 46 in parts: what is known of calls. -/
import Derived.Test.YtgadijnefbmgkaaGreatDoorShj
namespace Go.Proofs.YtgadijnefbmgkaaGreatDoor
set_option maxRecDepth 100000
open Go.Ev Go.RowKit
/-- the package-level variables -/
noncomputable def gs : List (Nat × List V) := [(iLetters, bytesV letters), (gWords, words)]
noncomputable def GR (t : T Rec) : Γ := mkG Tryz.prog eqs rows (ext3 (ext3 (extL [kJoin]) (sortedX iSorted iKeys1 tInt)) (extR t))
theorem GR_x {t : T Rec} (ht : TabOk P t) : ExtOK P (GR t) := by
  refine ext3_ok (ext3_ok (extL_ok (l := [kJoin]) (fun x hx => ?_) rfl) ?_) (ext_recs ht)
  · simp only [List.mem_cons, List.not_mem_nil, or_false] at hx
    subst hx
    exact kJoin_ok shelfJoin
  · intro f args h v h' hr ρ cargs w ha hS n
    exact sortedX_ok Tryz.underlying3 shelfSorted hr ha hS n
theorem snd_of {t : T Rec} (ht : TabOk P t) {r : Rec} (h : r.ok (evT (GR t) 100000 r.f r.args r.start) = true) : Snd P r := fun _ _ _ hh _ _ _ ha hS n =>
  Rec.sound (mk_ok _).1 (mk_ok _).2 (GR_x ht) h hh ha hS n
/-! memory that knows the variables -/
noncomputable def roL (l : List (Nat × List V)) : List (Nat × O) := l.map fun p => (p.1, .ro .none p.2.length p.2 .leaf)
theorem vars_of_has {l : List (Nat × List V)} (hp : ∀ p, p ∈ l → ∀ v, v ∈ p.2 → pureS v = true) (hl : ∀ p, p ∈ l → p.1 < 1000) {h : H} (hh : Go.Ev.has h (roL l) = true) {ρ : Ren} {w : World} (hS : Sim ρ h w) : VarsOk l w := by
  intro g vs hm
  obtain ⟨o, h1, h2⟩ := has_get hh (g, .ro .none vs.length vs .leaf) (List.mem_map.2 ⟨(g, vs), hm, rfl⟩)
  obtain ⟨L, c, l1, l2, l3⟩ := hS.live g o h1
  obtain ⟨z, hz⟩ := hS.glob g (hl _ hm)
  rw [hz] at l1
  cases l1
  obtain ⟨cs, el, fr, q1, q2, q3, q5, q6⟩ := (O.beq_rel h2).2 _ _ _ l3
  subst q1
  have q2 : cs.size = z := q2
  have q3 : 0 + vs.length ≤ z := q3
  refine ⟨hl _ hm, cs, el, fr, l2, fun i v hv => ?_⟩
  have hi := (List.getElem?_eq_some_iff.1 hv).1
  have hc : cs[i]? = some cs[i] := Array.getElem?_eq_getElem (by omega)
  refine ⟨_, hc, q6.1 i _ hi (by rw [Nat.zero_add]; exact hc), fun ρ' => pureS_rel (hp _ hm v (List.mem_of_getElem? hv)) (q6.2 i v _ (leaf_cell hv) (by rw [Nat.zero_add]; exact hc))⟩
theorem gs_lt : ∀ p, p ∈ gs → p.1 < 1000 := fun p hp => by
  simp only [gs, List.mem_cons, List.not_mem_nil, or_false] at hp
  rcases hp with rfl | rfl
  · show iLetters < 1000; decide
  · show gWords < 1000; decide
theorem words_pure' {v : V} (h : v ∈ words) : pureS v = true := by
  simp only [words, List.mem_cons, List.not_mem_nil, or_false] at h
  rcases h with rfl | rfl | rfl | rfl | rfl | rfl | rfl | rfl | rfl | rfl | rfl | rfl <;> rfl
theorem gs_pure : ∀ p, p ∈ gs → ∀ v, v ∈ p.2 → pureS v = true := fun p hp v hv => by
  simp only [gs, List.mem_cons, List.not_mem_nil, or_false] at hp
  rcases hp with rfl | rfl
  · simp only [bytesV, List.mem_map] at hv
    obtain ⟨n, _, rfl⟩ := hv
    rfl
  · exact words_pure' hv
/-- 'works', as it is known -/
noncomputable def kWorks : Known := (iWorks, fun args h => match args, Go.Ev.has h (roL gs) with
  | [], true => some (.bool true)
  | _, _ => .none)
noncomputable def GL : Γ := mkG Tryz.prog eqs rows (extL [kWorks])
end Go.Proofs.YtgadijnefbmgkaaGreatDoor

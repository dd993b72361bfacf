/- judge.Text: one text more in the row: the region with append; the row's block gets its number again. -/
import Derived.Test.YtgadijnefbmgkaaGreatDoorJt6
namespace Go.Proofs.YtgadijnefbmgkaaGreatDoor
set_option maxRecDepth 100000
open Go.Ev Go.RowKit
theorem pure_rel {ρ ρ' : Ren} {n : Nat} {pat : List V} {tr : T V} {cs : Array Value} {d : Nat} (hp : ∀ i v, cell n pat tr i = some v → pureS v = true) (h : CRel ρ n pat tr cs d) : CRel ρ' n pat tr cs d :=
  ⟨h.1, fun i v x a b => pureS_rel (hp i v a) (h.2 i v x a b)⟩
theorem ints_pure {n : Nat} {xs : List Int} {i : Nat} {v : V} (h : cell n (ints xs) .leaf i = some v) : pureS v = true := by
  have := List.mem_of_getElem? (cell_pat h).2
  simp only [ints, List.mem_map] at this
  obtain ⟨x, _, rfl⟩ := this
  rfl
theorem words_pure {n : Nat} {i : Nat} {v : V} (h : cell n words .leaf i = some v) : pureS v = true := by
  have := List.mem_of_getElem? (cell_pat h).2
  simp only [words, List.mem_cons, List.not_mem_nil, or_false] at this
  rcases this with rfl | rfl | rfl | rfl | rfl | rfl | rfl | rfl | rfl | rfl | rfl | rfl <;> rfl
theorem strs_pure {n : Nat} {xs : List Int} {k i : Nat} {v : V} (h : cell n (strs xs k) .leaf i = some v) : pureS v = true := by
  have := List.mem_of_getElem? (cell_pat h).2
  simp only [strs, List.mem_map] at this
  obtain ⟨x, _, rfl⟩ := this
  rfl
namespace JT
theorem hop (env : Env) : act G0 env.get op5.op = .ef (fun h => fAppend G0 (G0.ty 54) (G0.ty 54) h (env.get (.tmp 24)) (env.get (.tmp 28))) := by kernel_rfl
noncomputable def tyS : TY := match G0.ty 54 with
  | some t => t
  | none => ⟨.slice 0, 0, false, none, #[]⟩
noncomputable def tyE : TY := match G0.ty 9 with
  | some t => t
  | none => ⟨.slice 0, 0, false, none, #[]⟩
theorem t1 : G0.ty 54 = some tyS := by kernel_rfl
theorem t2 : tyS.desc = .slice 9 := by kernel_rfl
theorem t3 : G0.ty 9 = some tyE := by kernel_rfl
theorem t4 : isInt tyS.desc = some false := by kernel_rfl
theorem t5 : tyE.size = 1 := by kernel_rfl
noncomputable def f (b' : Nat) (b : Nat) : Option Nat := if b < 1001 then some b else if b = 1001 then some b' else none
theorem f_val {b' b x : Nat} (h : f b' b = some x) : (b < 1001 ∧ x = b) ∨ (b = 1001 ∧ x = b') := by
  unfold f at h
  split at h
  · cases h; exact .inl ⟨by assumption, rfl⟩
  · split at h
    · cases h; exact .inr ⟨by assumption, rfl⟩
    · cases h
noncomputable def hB (b : Nat) (e : Option TypeId) (n : Nat) (xs : List Int) (L : List V) : H := ⟨T.put (T.put (T.put .leaf gWords (some roW)) 1000 (some (roB n xs))) b (some (.cells e L.length L .leaf)), b + 1⟩
theorem renamed {h0 : H} {ρ0 : Ren} {w0 : World} (e0 : h0.next = 1001) {n m : Nat} {xs : List Int} {c : Cap} {p i : Int} {e : Option TypeId} {k b' : Nat} (hb : 1002 ≤ b') {aa : Act} {w : World}
    (hA : At ρ0 h0 w0 (S (inv7 n c (ou b' m) p i) (hB b' e n xs (strs xs k))) aa w) : At ρ0 h0 w0 (S (inv7 n c (ou 1001 m) p i) (hL e n xs (strs xs k))) aa w := by
  refine at_rename hA (f b') (fun b hb => ?_) ?_ (fun b x hx => ?_) (by omega) (fun b1 b2 x h1 h2 => ?_) (fun b o hbo => ?_) (Nat.le_refl _) (fun t v hv => ?_) rfl
  · unfold f; rw [if_pos (by omega)]
  · show h0.next ≤ 1002; omega
  · show b < 1002
    rcases f_val hx with h | h <;> omega
  · rcases f_val h1 with h | h <;> rcases f_val h2 with h' | h' <;> omega
  · simp only [hL, T.get_put, T.get_leaf] at hbo
    split at hbo
    · rename_i q; cases hbo; subst q
      refine ⟨b', .cells e (strs xs k).length (strs xs k) .leaf, rfl, ?_, id, fun ρ ρ' hr L c ⟨cs, el, lo, hi, h1, h2, h3, h4, h5, h6⟩ => ⟨cs, el, lo, hi, h1, h2, h3, h4, h5, pure_rel (fun _ _ => strs_pure) h6⟩⟩
      simp only [S, hB, T.get_put, if_pos]
    · split at hbo
      · rename_i q; cases hbo; subst q
        refine ⟨1000, roB n xs, rfl, ?_, id, fun ρ ρ' hr L c ⟨cs, el, fr, h1, h2, h3, h5, h6⟩ => ⟨cs, el, fr, h1, h2, h3, h5, pure_rel (fun _ _ => ints_pure) h6⟩⟩
        simp only [S, hB, T.get_put]
        rw [if_neg (by omega), if_pos trivial]
      · split at hbo
        · rename_i q; cases hbo; subst q
          refine ⟨gWords, roW, rfl, ?_, id, fun ρ ρ' hr L c ⟨cs, el, fr, h1, h2, h3, h5, h6⟩ => ⟨cs, el, fr, h1, h2, h3, h5, pure_rel (fun _ _ => words_pure) h6⟩⟩
          have hg : gWords < 1000 := by decide
          simp only [S, hB, T.get_put]
          rw [if_neg (by omega), if_neg (by omega), if_pos trivial]
        · cases hbo
  · have hv : (putL (inv7 n c (ou 1001 m) p i)).get t = some v := hv
    simp only [inv7, putL, T.get_put, T.get_leaf] at hv
    have all : ∀ u : V, (putL (inv7 n c (ou b' m) p i)).get t = some u → (∀ ρ ρ' : Ren, (∀ b b2, f b' b = some b2 → ρ' b = ρ b2) → ∀ c, Rel ρ u c → Rel ρ' v c) → ∃ v', (S (inv7 n c (ou b' m) p i) (hB b' e n xs (strs xs k))).env.tr.get t = some v' ∧ ∀ ρ ρ' : Ren, (∀ b b2, f b' b = some b2 → ρ' b = ρ b2) → ∀ c, Rel ρ v' c → Rel ρ' v c := fun u h1 h2 => ⟨u, h1, h2⟩
    split at hv
    · rename_i q; cases hv; subst q
      refine all (ou b' m) rfl fun ρ ρ' hr c hc => ?_
      cases hc with
      | sliceA h1 h2 h3 => exact .sliceA ((hr 1001 b' rfl).trans h1) h2 h3
      | sliceZ a => exact .sliceZ a
    · split at hv
      · rename_i q; cases hv; subst q
        exact all _ rfl fun ρ ρ' hr c hc => pureS_rel rfl hc
      · split at hv
        · rename_i q; cases hv; subst q
          refine all (sl n c) rfl fun ρ ρ' hr c hc => ?_
          cases hc with
          | sliceK h1 => exact .sliceK ((hr 1000 1000 rfl).trans h1)
          | sliceA h1 h2 h3 => exact .sliceA ((hr 1000 1000 rfl).trans h1) h2 h3
          | sliceZ a => exact .sliceZ a
        · split at hv
          · rename_i q; cases hv; subst q
            exact all _ rfl fun ρ ρ' hr c hc => pureS_rel rfl hc
          · split at hv
            · rename_i q; cases hv; subst q
              exact all _ rfl fun ρ ρ' hr c hc => pureS_rel rfl hc
            · cases hv
end JT
end Go.Proofs.YtgadijnefbmgkaaGreatDoor

/- PlayTexts, called with whatever argument: it returns true, and nothing that was there turns. -/
import Derived.Test.YtfmcmolhkmjemaaGreatDoorJa1
import Derived.Test.YtfmcmolhkmjemaaGreatDoorShj
import Derived.Test.YtfmcmolhkmjemaaGreatDoorPl4
import Derived.Test.YtfmcmolhkmjemaaGreatDoorTie
import Derived.Test.YtfmcmolhkmjemaaGreatDoorCards
import Derived.ProofKit
import Derived.LaidMore
import Derived.OpenShut
import Derived.Stop.Joined
import Derived.SevenTiedAt
import Derived.Carry
import Derived.Lib.LaidTab
import Derived.ChangeSame
namespace Go.Proofs.YtfmcmolhkmjemaaGreatDoor
set_option maxRecDepth 100000
open Go.ChangeShapes Go.WideShapes Go.ChangeAt Go.WideMaps Go.WideElems Go.RowKit
namespace Claim
open Ev in
theorem resC_at {xs : List (Int × Int)} {i : Nat} {v : V} (h : (resC xs)[i]? = some v) : ∃ j x y, xs[j]? = some (x, y) ∧ ((i = 2 * j ∧ v = .int .i64 x) ∨ (i = 2 * j + 1 ∧ v = .int .i64 y)) := by
  have hi := (List.getElem?_eq_some_iff.1 h).1
  rw [resC_len] at hi
  have hj : i / 2 < xs.length := by omega
  obtain ⟨g1, g2⟩ := resC_get (l := xs) (k := i / 2) (x := xs[i / 2].1) (y := xs[i / 2].2) (List.getElem?_eq_getElem hj)
  refine ⟨i / 2, _, _, List.getElem?_eq_getElem (l := xs) hj, ?_⟩
  by_cases q : i % 2 = 0
  · have e : i = 2 * (i / 2) := by omega
    rw [← e, h] at g1
    cases g1
    exact .inl ⟨e, rfl⟩
  · have e : i = 2 * (i / 2) + 1 := by omega
    rw [← e, h] at g2
    cases g2
    exact .inr ⟨e, rfl⟩
open Ev in
/-- memory: the variables, and the results that are handed in -/
theorem sim_row {W : World} (hH : Held W) {B o : Nat} {xs : List (Int × Int)} (h0 : 0 < xs.length) (hx : ∀ (i : Nat) x y, xs[i]? = some (x, y) → W.cell? ⟨B, o + 2 * i, .none⟩ = some (.int .i64 x) ∧ W.cell? ⟨B, o + (2 * i + 1), .none⟩ = some (.int .i64 y)) :
    ∃ z ρ, ρ 1000 = some (B, o, z) ∧ Sim ρ (LT.hA (some (LT.roR xs))) W := by
  have hV := vars_of_held hH
  have S0 := sim_vars hV (Nat.le_refl 1000)
  have cell : ∀ (i : Nat) (v : V), (resC xs)[i]? = some v → ∃ x, v = .int .i64 x ∧ W.cell? ⟨B, o + i, .none⟩ = some (.int .i64 x) := fun i v hv => by
    obtain ⟨j, x, y, hj, ⟨rfl, rfl⟩ | ⟨rfl, rfl⟩⟩ := resC_at hv
    · exact ⟨_, rfl, (hx j x y hj).1⟩
    · exact ⟨_, rfl, (hx j x y hj).2⟩
  have hl2 := resC_len xs
  have c0 : ∃ x, W.cell? ⟨B, o + 0, .none⟩ = some (.int .i64 x) := by
    obtain ⟨x, _, h⟩ := cell 0 _ (List.getElem?_eq_getElem (by omega))
    exact ⟨x, h⟩
  -- the block
  have hb : ∃ cs el fr, W.heap[B]? = some (.cells cs el fr) ∧ ∀ (i : Nat) (v : V), (resC xs)[i]? = some v → ∃ x, v = .int .i64 x ∧ cs[o + i]? = some (.int .i64 x) := by
    obtain ⟨x0, h1⟩ := c0
    unfold World.cell? at h1
    split at h1
    · rename_i cs el fr hw
      refine ⟨cs, el, fr, hw, fun i v hi => ?_⟩
      obtain ⟨x, e, h2⟩ := cell i v hi
      refine ⟨x, e, ?_⟩
      unfold World.cell? at h2
      rw [hw] at h2
      simpa using h2
    · cases h1
  obtain ⟨cs, el, fr, hw, hc⟩ := hb
  have hlen : o + (resC xs).length ≤ cs.size := by
    obtain ⟨_, _, h1⟩ := hc ((resC xs).length - 1) _ (List.getElem?_eq_getElem (by omega))
    have := (Array.getElem?_eq_some_iff.1 h1).1
    omega
  -- it is none of the variables
  have hne : ∀ g l, (g, l) ∈ gs → g ≠ B := by
    intro g l hm e
    subst e
    obtain ⟨x0, h1⟩ := c0
    simp only [gs, List.mem_cons, Prod.mk.injEq, List.not_mem_nil, or_false] at hm
    rcases hm with ⟨rfl, _⟩ | ⟨rfl, _⟩ | ⟨rfl, _⟩ | ⟨rfl, _⟩
    · exact absurd (tab_kind hH.pow h1) (by decide)
    · exact absurd (tab_kind hH.de32 h1) (by decide)
    · exact absurd (tab_kind hH.de64 h1) (by decide)
    · exact absurd (tab_kind hH.letters h1) (by decide)
  let ρ : Ren := fun b => if b = 1000 then some (B, o, cs.size) else rVars (roomOf W) b
  have r0 : ρ 1000 = some (B, o, cs.size) := by simp [ρ]
  have r1 : ∀ b, b ≠ 1000 → ρ b = rVars (roomOf W) b := fun b hb => by simp [ρ, hb]
  have le : (rVars (roomOf W)).le ρ := fun b L hL => by
    by_cases q : b = 1000
    · subst q
      simp [rVars] at hL
    · rw [r1 b q]; exact hL
  have get : ∀ b x, (LT.hA (some (LT.roR xs))).tr.get b = some x → (b = 1000 ∧ x = LT.roR xs) ∨ (b ≠ 1000 ∧ (hVars gs 1000).tr.get b = some x) := fun b x h => by
    simp only [LT.hA, T.get_put] at h
    split at h
    · cases h; exact .inl ⟨by assumption, rfl⟩
    · exact .inr ⟨by assumption, h⟩
  have ingl : ∀ b x, (hVars gs 1000).tr.get b = some x → ∃ l, (b, l) ∈ gs := fun b x h => by
    obtain ⟨l, h1, _⟩ := varsT_get h
    exact ⟨l, h1⟩
  have blk : ∀ b x L, (hVars gs 1000).tr.get b = some x → ρ b = some L → L.1 = b ∧ b < 1000 := fun b x L hb hL => by
    obtain ⟨l, hm⟩ := ingl b x hb
    have hlt := gs_lt _ hm
    rw [r1 b (by have : b < 1000 := hlt; omega)] at hL
    simp only [rVars] at hL
    have hlt : b < 1000 := hlt
    rw [if_pos hlt] at hL
    cases hL
    exact ⟨rfl, hlt⟩
  refine ⟨cs.size, ρ, r0, fun g hg => ?_, fun b L hb => ?_, fun b x hb => ?_, fun b b' x x' L L' hb hb' hL hL' e => ?_⟩
  · obtain ⟨z, hz⟩ := S0.glob g hg
    exact ⟨z, le _ _ hz⟩
  · show b < 1001
    by_cases q : b = 1000
    · omega
    · rw [r1 b q] at hb
      have : b < 1000 := S0.dom b L hb
      omega
  · rcases get b x hb with ⟨rfl, rfl⟩ | ⟨hn, hb⟩
    · refine ⟨_, _, r0, hw, cs, el, fr, rfl, rfl, hlen, fun e' h => (nomatch h), fun i y hi hy => ?_, fun i v y hv hy => ?_⟩
      · obtain ⟨x, _, this⟩ := hc i _ (List.getElem?_eq_getElem hi)
        rw [this] at hy
        cases hy; rfl
      · have hv' : (resC xs)[i]? = some v := cell_leaf hv
        obtain ⟨x, rfl, this⟩ := hc i v hv'
        rw [this] at hy
        cases hy
        exact .int _ _
    · obtain ⟨L, c, l1, l2, l3⟩ := S0.live b x hb
      exact ⟨L, c, le _ _ l1, l2, l3.mono le⟩
  · rcases get b x hb with ⟨rfl, rfl⟩ | ⟨hn, hb⟩ <;> rcases get b' x' hb' with ⟨rfl, rfl⟩ | ⟨hn', hb'⟩
    · rfl
    · rw [r0] at hL
      cases hL
      obtain ⟨l, hm⟩ := ingl b' x' hb'
      exact absurd ((blk b' x' L' hb' hL').1.symm.trans e.symm) (hne b' l hm)
    · rw [r0] at hL'
      cases hL'
      obtain ⟨l, hm⟩ := ingl b x hb
      exact absurd ((blk b x L hb hL).1.symm.trans e) (hne b l hm)
    · rw [← (blk b x L hb hL).1, ← (blk b' x' L' hb' hL').1]
      exact e
open Ev in
theorem sim_bare {W : World} (hH : Held W) : ∃ ρ, Sim ρ (LT.hA .none) W := by
  refine ⟨_, (sim_vars (vars_of_held hH) (show 1000 ≤ 1001 by decide)).sub (Nat.le_refl _) fun b x hb => ?_⟩
  simp only [LT.hA, T.get_put] at hb
  split at hb
  · cases hb
  · exact hb
open Ev in
theorem law_call {W : World} {v0 : Value} {xs : List (Int × Int)} (hH : Held W) (h0 : Row W v0 xs) (k : Nat) :
    CallsIn Fence.wide k Tryz.prog iTexts #[v0] W (fun e w' => e = .returned (.bool true) ∧ Below W.heap.size W w') := by
  cases h0 with
  | nil =>
    obtain ⟨ρ, hS⟩ := sim_bare hH
    exact LT.law_none shelfItoa (ρ := ρ) (Rels.cons .nils Rels.nil) hS k
  | @some B o cap xs hc hx =>
    by_cases q : 0 < xs.length
    · obtain ⟨z, ρ, r0, hS⟩ := sim_row hH q hc
      exact LT.law_some shelfItoa hx (ρ := ρ) (Rels.cons (.sliceK (o := 0) r0) Rels.nil) hS k
    · have q : xs = [] := List.length_eq_zero_iff.1 (by omega)
      subst q
      exact LT.law_zero shelfItoa (vars_of_held hH) k
theorem post_below {H : Type} {enc : TypeId × Value → H} {W W' : World} {v0 : Value} {d0 : DataW H} {p0 before : List MemPlace} (hW : DataW.Whole enc Tryz.prog Tryz.f3.params.toList Rows.playTextsSpec.vars false W [v0] [d0] [] before) (hp : before = p0)
    (h0 : DataW.Trod enc Tryz.prog W 0 (fun _ => true) true 22 v0 d0 p0) (hb : Below W.heap.size W W') :
    Rows.playTextsSpec.post enc Tryz.prog Tryz.f3 false true false false W #[v0] (.bool true) W' := by
  have hlt : ∀ x ∈ before, x.block < W.heap.size := fun x hx => by simpa using hW.lt x hx
  rw [hp] at hlt
  refine ⟨[d0], [], before, [], p0, [], hW, ?_, ?_, rfl, hb.frame _, fun h => by cases h⟩
  · rw [show Tryz.f3.resultTypes = #[4] by kernel_rfl]
    exact trodAll_mk1 (shut_bool (by kernel_rfl) true)
  · rw [show Tryz.f3.params = #[22] from Tryz.params3]
    exact trodAll_mk1 (Below.trod laidOut (by kernel_rfl) (of_decide_eq_true (by kernel_rfl)) h0 hb fun x hx => hlt x (by simp [hx]))
end Claim
end Go.Proofs.YtfmcmolhkmjemaaGreatDoor

/- BoundBlocks, called with whatever arguments: it returns true, and nothing that was there turns. -/
import Derived.Test.YtcbggkejlhifpaaGreatDoorJa1
import Derived.Test.YtcbggkejlhifpaaGreatDoorWk
import Derived.Test.YtcbggkejlhifpaaGreatDoorLb7
import Derived.Test.YtcbggkejlhifpaaGreatDoorTie
import Derived.Test.YtcbggkejlhifpaaGreatDoorCards
import Derived.ProofKit
import Derived.LaidMore
import Derived.OpenShut
import Derived.Stop.Joined
import Derived.SevenTiedAt
import Derived.Carry
import Derived.Lib.LaidTab
import Derived.ChangeSame
namespace Go.Proofs.YtcbggkejlhifpaaGreatDoor
set_option maxRecDepth 100000
open Go.ChangeShapes Go.WideShapes Go.ChangeAt Go.WideMaps Go.WideElems Go.RowKit
namespace Claim
open Ev in
theorem rel_agg {ρ : Ren} {vs : List V} {cs : Array Value} (h : Rels ρ vs cs.toList) (ho : ∀ (i : Nat) (x : Value), cs[i]? = some x → one x = true) : Rel ρ (.agg vs.length vs .leaf) (.agg cs) := by
  refine .agg (by rw [← h.1, Array.length_toList]) ho fun i v x hv hx => ?_
  have hi := cell_lt hv
  have hb : Nat.blt i vs.length = true := Nat.ble_eq_true_of_le hi
  have hn : nth vs i = some vs[i] := by rw [nth_eq]; exact List.getElem?_eq_getElem hi
  simp only [cell, hb, T.get_leaf, patAt, hn] at hv
  cases hv
  exact h.2 i _ x (List.getElem?_eq_getElem hi) (by simpa using hx)
theorem int_cell {W : World} {base : Nat} {t : TypeId} {v : Value} {k : IntKind} (hu : Tryz.prog.underlying t = some (.int k)) (h : Cell.okWide Tryz.prog W .any base t v) : ∃ n, v = .int k n ∧ k.min ≤ n ∧ n ≤ k.max := by
  unfold Cell.okWide at h
  rw [hu] at h
  cases v <;> simp [Cell.ok, hu] at h
  rename_i k' n
  obtain ⟨h1, h2⟩ := h
  subst h1
  exact ⟨n, rfl, h2.1, h2.2⟩
def isArray : Option TypeDesc → Bool
  | some (.array _ _) => true
  | _ => false
theorem isArray_eq {d : Option TypeDesc} (h : isArray d = true) : ∃ n e, d = some (.array n e) := by
  unfold isArray at h
  split at h
  · exact ⟨_, _, rfl⟩
  · cases h
open Ev in
/-- eight small numbers, as the evaluator sees them -/
theorem eight_in {W : World} {base : Nat} {v : Value} (h : Value.okWide Tryz.prog W .any base 22 v) : ∃ a b c d e f g i : Int, (u8r a ∧ u8r b ∧ u8r c ∧ u8r d ∧ u8r e ∧ u8r f ∧ u8r g ∧ u8r i) ∧ ∀ ρ, Rel ρ (n8 a b c d e f g i) v := by
  have u8 : Tryz.prog.underlying 5 = some (.int .u8) := by kernel_rfl
  have ct : Tryz.prog.cellTypes Tryz.prog.depth 22 = some [5, 5, 5, 5, 5, 5, 5, 5] := by kernel_rfl
  have c8 : Tryz.prog.cellsOf 22 = 8 := by kernel_rfl
  obtain ⟨_, _, wA⟩ : ∃ n e, Tryz.prog.underlying 22 = some (.array n e) := isArray_eq (by kernel_rfl)
  unfold Value.okWide at h
  rw [wA] at h
  obtain ⟨cs, rfl, s0, ts, e0, _, r0⟩ := h
  rw [ct] at e0; cases e0
  rw [c8] at s0
  have at0 : ∀ j, j < 8 → ∃ n, cs[j]? = some (.int .u8 n) ∧ u8r n := fun j hj => by
    have hc : cs[j]? = some cs[j] := Array.getElem?_eq_getElem (by omega)
    obtain ⟨u', q1, q2⟩ := r0 j _ hc
    have hu : u' = 5 := by
      have hm := List.mem_of_getElem? q1
      simpa using hm
    subst hu
    obtain ⟨n, e1, e2, e3⟩ := int_cell u8 q2
    rw [e1] at hc
    have m0 : IntKind.u8.min = 0 := by decide
    have m1 : IntKind.u8.max = 255 := by decide
    exact ⟨n, hc, by unfold u8r; omega⟩
  obtain ⟨a, pa, la⟩ := at0 0 (by decide)
  obtain ⟨b, pb, lb⟩ := at0 1 (by decide)
  obtain ⟨c, pc, lc⟩ := at0 2 (by decide)
  obtain ⟨d, pd, ld⟩ := at0 3 (by decide)
  obtain ⟨e, pe, le⟩ := at0 4 (by decide)
  obtain ⟨f, pf, lf⟩ := at0 5 (by decide)
  obtain ⟨g, pg, lg⟩ := at0 6 (by decide)
  obtain ⟨i, ph, li⟩ := at0 7 (by decide)
  have hcs : cs.toList = [.int .u8 a, .int .u8 b, .int .u8 c, .int .u8 d, .int .u8 e, .int .u8 f, .int .u8 g, .int .u8 i] := by
    refine List.ext_getElem? fun j => ?_
    rw [Array.getElem?_toList]
    match j with
    | 0 => exact pa
    | 1 => exact pb
    | 2 => exact pc
    | 3 => exact pd
    | 4 => exact pe
    | 5 => exact pf
    | 6 => exact pg
    | 7 => exact ph
    | j + 8 => rw [Array.getElem?_eq_none (by omega)]; rfl
  refine ⟨a, b, c, d, e, f, g, i, ⟨la, lb, lc, ld, le, lf, lg, li⟩, fun ρ => rel_agg (vs := [_, _, _, _, _, _, _, _]) ?_ fun j y hy => ?_⟩
  · rw [hcs]
    exact Rels.cons (.int _ _) (Rels.cons (.int _ _) (Rels.cons (.int _ _) (Rels.cons (.int _ _) (Rels.cons (.int _ _) (Rels.cons (.int _ _) (Rels.cons (.int _ _) (Rels.cons (.int _ _) Rels.nil)))))))
  · have hm : y ∈ cs.toList := by simpa using Array.mem_of_getElem? hy
    rw [hcs] at hm
    simp only [List.mem_cons, List.not_mem_nil, or_false] at hm
    rcases hm with rfl | rfl | rfl | rfl | rfl | rfl | rfl | rfl <;> rfl
open Ev in
/-- one number, as the evaluator sees it -/
theorem one_in {W : World} {base : Nat} {t : TypeId} {v : Value} {k : IntKind} (hu : Tryz.prog.underlying t = some (.int k)) (h : Value.okWide Tryz.prog W .any base t v) : ∃ n : Int, v = .int k n ∧ k.min ≤ n ∧ n ≤ k.max := by
  unfold Value.okWide at h
  rw [hu] at h
  exact int_cell hu h
open Ev in
/-- memory: the variable, and the doings that are handed in -/
theorem sim_row {W : World} (hH : Held W) {B o : Nat} {xs : List MixR} (h0 : 0 < xs.length) (hx : ∀ (i : Nat) z, (flatZ xs)[i]? = some z → W.cell? ⟨B, o + i, .none⟩ = some (.int .u8 z)) :
    ∃ z ρ, ρ 1000 = some (B, o, z) ∧ Sim ρ (LB.hA (some (LB.roM (mixC xs)))) W := by
  have hV := vars_of_held hH
  have S0 := sim_vars hV (Nat.le_refl 1000)
  have hl2 := mixC_len xs
  have cell : ∀ (i : Nat) (v : V), (mixC xs)[i]? = some v → ∃ x, v = .int .u8 x ∧ W.cell? ⟨B, o + i, .none⟩ = some (.int .u8 x) := fun i v hv => by
    rw [mixC_eq, List.getElem?_map, Option.map_eq_some_iff] at hv
    obtain ⟨z, hz, rfl⟩ := hv
    exact ⟨z, rfl, hx i z hz⟩
  -- the block
  have hb : ∃ cs el fr, W.heap[B]? = some (.cells cs el fr) ∧ ∀ (i : Nat) (v : V), (mixC xs)[i]? = some v → ∃ x, v = .int .u8 x ∧ cs[o + i]? = some (.int .u8 x) := by
    obtain ⟨x0, _, h1⟩ := cell 0 _ (List.getElem?_eq_getElem (by omega))
    unfold World.cell? at h1
    split at h1
    · rename_i cs el fr hw
      refine ⟨cs, el, fr, hw, fun i v hi => ?_⟩
      obtain ⟨x, e, h2⟩ := cell i v hi
      refine ⟨x, e, ?_⟩
      unfold World.cell? at h2
      rw [hw] at h2
      simpa using h2
    · cases h1
  obtain ⟨cs, el, fr, hw, hc⟩ := hb
  have hlen : o + (mixC xs).length ≤ cs.size := by
    obtain ⟨_, _, h1⟩ := hc ((mixC xs).length - 1) _ (List.getElem?_eq_getElem (by omega))
    have := (Array.getElem?_eq_some_iff.1 h1).1
    omega
  -- it is not the variable
  have hne : ∀ g l, (g, l) ∈ gs → g ≠ B := by
    intro g l hm e
    subst e
    obtain ⟨x, _, h1⟩ := cell 4 _ (List.getElem?_eq_getElem (by omega))
    simp only [gs, List.mem_cons, Prod.mk.injEq, List.not_mem_nil, or_false] at hm
    obtain ⟨rfl, _⟩ := hm
    exact tab_short hH (by omega) h1
  let ρ : Ren := fun b => if b = 1000 then some (B, o, cs.size) else rVars (roomOf W) b
  have r0 : ρ 1000 = some (B, o, cs.size) := by simp [ρ]
  have r1 : ∀ b, b ≠ 1000 → ρ b = rVars (roomOf W) b := fun b hb => by simp [ρ, hb]
  have le : (rVars (roomOf W)).le ρ := fun b L hL => by
    by_cases q : b = 1000
    · subst q
      simp [rVars] at hL
    · rw [r1 b q]; exact hL
  have get : ∀ b x, (LB.hA (some (LB.roM (mixC xs)))).tr.get b = some x → (b = 1000 ∧ x = LB.roM (mixC xs)) ∨ (b ≠ 1000 ∧ (hVars gs 1000).tr.get b = some x) := fun b x h => by
    simp only [LB.hA, LB.tA, T.get_put] at h
    split at h
    · cases h; exact .inl ⟨by assumption, rfl⟩
    · exact .inr ⟨by assumption, h⟩
  have ingl : ∀ b x, (hVars gs 1000).tr.get b = some x → ∃ l, (b, l) ∈ gs := fun b x h => by
    obtain ⟨l, h1, _⟩ := varsT_get h
    exact ⟨l, h1⟩
  have blk : ∀ b x L, (hVars gs 1000).tr.get b = some x → ρ b = some L → L.1 = b ∧ b < 1000 := fun b x L hb hL => by
    obtain ⟨l, hm⟩ := ingl b x hb
    have hlt := gs_lt _ hm
    rw [r1 b (by have : b < 1000 := hlt; omega)] at hL
    simp only [rVars] at hL
    have hlt : b < 1000 := hlt
    rw [if_pos hlt] at hL
    cases hL
    exact ⟨rfl, hlt⟩
  refine ⟨cs.size, ρ, r0, fun g hg => ?_, fun b L hb => ?_, fun b x hb => ?_, fun b b' x x' L L' hb hb' hL hL' e => ?_⟩
  · obtain ⟨z, hz⟩ := S0.glob g hg
    exact ⟨z, le _ _ hz⟩
  · show b < 1001
    by_cases q : b = 1000
    · omega
    · rw [r1 b q] at hb
      have : b < 1000 := S0.dom b L hb
      omega
  · rcases get b x hb with ⟨rfl, rfl⟩ | ⟨hn, hb⟩
    · refine ⟨_, _, r0, hw, cs, el, fr, rfl, rfl, hlen, fun e' h => (nomatch h), fun i y hi hy => ?_, fun i v y hv hy => ?_⟩
      · obtain ⟨x, _, this⟩ := hc i _ (List.getElem?_eq_getElem hi)
        rw [this] at hy
        cases hy; rfl
      · have hv' : (mixC xs)[i]? = some v := cell_leaf hv
        obtain ⟨x, rfl, this⟩ := hc i v hv'
        rw [this] at hy
        cases hy
        exact .int _ _
    · obtain ⟨L, c, l1, l2, l3⟩ := S0.live b x hb
      exact ⟨L, c, le _ _ l1, l2, l3.mono le⟩
  · rcases get b x hb with ⟨rfl, rfl⟩ | ⟨hn, hb⟩ <;> rcases get b' x' hb' with ⟨rfl, rfl⟩ | ⟨hn', hb'⟩
    · rfl
    · rw [r0] at hL
      cases hL
      obtain ⟨l, hm⟩ := ingl b' x' hb'
      exact absurd ((blk b' x' L' hb' hL').1.symm.trans e.symm) (hne b' l hm)
    · rw [r0] at hL'
      cases hL'
      obtain ⟨l, hm⟩ := ingl b x hb
      exact absurd ((blk b x L hb hL).1.symm.trans e) (hne b l hm)
    · rw [← (blk b x L hb hL).1, ← (blk b' x' L' hb' hL').1]
      exact e
open Ev in
theorem sim_bare {W : World} (hH : Held W) : ∃ ρ, Sim ρ (LB.hA .none) W := by
  refine ⟨_, (sim_vars (vars_of_held hH) (show 1000 ≤ 1001 by decide)).sub (Nat.le_refl _) fun b x hb => ?_⟩
  simp only [LB.hA, LB.tA, T.get_put] at hb
  split at hb
  · cases hb
  · exact hb
open Ev in
/-- a row of none: its block need not be there -/
theorem sim_zero {W : World} (hH : Held W) (B o : Nat) : ∃ ρ, ρ 1000 = some (B, o, 0) ∧ Sim ρ (LB.hA .none) W := by
  have S0 := sim_vars (vars_of_held hH) (Nat.le_refl 1000)
  let ρ : Ren := fun b => if b = 1000 then some (B, o, 0) else rVars (roomOf W) b
  have r0 : ρ 1000 = some (B, o, 0) := by simp [ρ]
  have r1 : ∀ b, b ≠ 1000 → ρ b = rVars (roomOf W) b := fun b hb => by simp [ρ, hb]
  have le : (rVars (roomOf W)).le ρ := fun b L hL => by
    by_cases q : b = 1000
    · subst q
      simp [rVars] at hL
    · rw [r1 b q]; exact hL
  have get : ∀ b x, (LB.hA .none).tr.get b = some x → b ≠ 1000 ∧ (hVars gs 1000).tr.get b = some x := fun b x h => by
    simp only [LB.hA, LB.tA, T.get_put] at h
    split at h
    · cases h
    · exact ⟨by assumption, h⟩
  refine ⟨ρ, r0, fun g hg => ?_, fun b L hb => ?_, fun b x hb => ?_, fun b b' x x' L L' hb hb' hL hL' e => ?_⟩
  · obtain ⟨z, hz⟩ := S0.glob g hg
    exact ⟨z, le _ _ hz⟩
  · show b < 1001
    by_cases q : b = 1000
    · omega
    · rw [r1 b q] at hb
      have : b < 1000 := S0.dom b L hb
      omega
  · obtain ⟨_, hb⟩ := get b x hb
    obtain ⟨L, c, l1, l2, l3⟩ := S0.live b x hb
    exact ⟨L, c, le _ _ l1, l2, l3.mono le⟩
  · obtain ⟨n1, hb⟩ := get b x hb
    obtain ⟨n2, hb'⟩ := get b' x' hb'
    rw [r1 b n1] at hL
    rw [r1 b' n2] at hL'
    exact S0.inj b b' x x' L L' hb hb' hL hL' e
open Ev in
/-- the arguments, as the evaluator sees them -/
theorem arg_in {W : World} {v1 : Value} {xs : List MixR} (hH : Held W) (h1 : Row W v1 xs) : ∃ (l : V) (o : Option O) (ρ : Ren), LB.ArgIs l o xs ∧ Rel ρ l v1 ∧ Sim ρ (LB.hA o) W ∧ ∀ m, m ∈ xs → mixIn m := by
  cases h1 with
  | nil =>
    obtain ⟨ρ, hS⟩ := sim_bare hH
    exact ⟨.nils, .none, ρ, .inl ⟨rfl, rfl, rfl⟩, .nils, hS, fun m hm => by cases hm⟩
  | @some B o cap xs hc hx =>
    by_cases q : 0 < xs.length
    · obtain ⟨z, ρ, r0, hS⟩ := sim_row hH q hc
      exact ⟨.slice 1000 0 xs.length (.known cap), _, ρ, .inr (.inl ⟨_, rfl, rfl⟩), .sliceK (o := 0) r0, hS, hx⟩
    · have q : xs = [] := List.length_eq_zero_iff.1 (by omega)
      subst q
      obtain ⟨ρ, r0, hS⟩ := sim_zero hH B o
      exact ⟨.slice 1000 0 0 (.known cap), .none, ρ, .inr (.inr ⟨_, rfl, rfl, rfl⟩), .sliceK (o := 0) r0, hS, fun m hm => by cases hm⟩
open Ev in
theorem law_call {W : World} {base : Nat} {v0 v1 v2 v3 : Value} {xs : List MixR} (hH : Held W) (h0 : Value.okWide Tryz.prog W .any base 22 v0) (h1 : Row W v1 xs) (h2 : Value.okWide Tryz.prog W .any base 5 v2) (h3 : Value.okWide Tryz.prog W .any base 5 v3) (k : Nat) :
    CallsIn Fence.wide k Tryz.prog iBlocks #[v0, v1, v2, v3] W (fun e w' => e = .returned (.bool true) ∧ Below W.heap.size W w') := by
  obtain ⟨a, b, c, d, e, f, g, i, hx, r0⟩ := eight_in h0
  obtain ⟨p, rfl, p1, p2⟩ := one_in (show Tryz.prog.underlying 5 = some (.int .u8) by kernel_rfl) h2
  obtain ⟨q, rfl, q1, q2⟩ := one_in (show Tryz.prog.underlying 5 = some (.int .u8) by kernel_rfl) h3
  have m0 : IntKind.u8.min = 0 := by decide
  have m1 : IntKind.u8.max = 255 := by decide
  obtain ⟨p, rfl⟩ := Int.eq_ofNat_of_zero_le (show 0 ≤ p by omega)
  obtain ⟨q, rfl⟩ := Int.eq_ofNat_of_zero_le (show 0 ≤ q by omega)
  obtain ⟨l, o, ρ, a1, a2, a3, a4⟩ := arg_in hH h1
  have ha : Rels ρ [n8 a b c d e f g i, l, .int .u8 (Int.ofNat p), .int .u8 (Int.ofNat q)] (#[v0, v1, .int .u8 (Int.ofNat p), .int .u8 (Int.ofNat q)] : Array Value).toList := Rels.cons (r0 _) (Rels.cons a2 (Rels.cons (.int _ _) (Rels.cons (.int _ _) Rels.nil)))
  exact LB.law GL_x hx a1 a4 (by omega) (by omega) ha a3 k
theorem post_below {H : Type} {enc : TypeId × Value → H} {W W' : World} {v0 v1 v2 v3 : Value} {d0 d1 d2 d3 : DataW H} {p0 p1 p2 p3 before : List MemPlace} (hW : DataW.Whole enc Tryz.prog Tryz.f3.params.toList Rows.boundBlocksSpec.vars false W [v0, v1, v2, v3] [d0, d1, d2, d3] [] before) (hp : before = p0 ++ p1 ++ p2 ++ p3)
    (h0 : DataW.Trod enc Tryz.prog W 0 (fun _ => true) true 22 v0 d0 p0) (h1 : DataW.Trod enc Tryz.prog W 0 (fun _ => true) true 23 v1 d1 p1) (h2 : DataW.Trod enc Tryz.prog W 0 (fun _ => true) true 5 v2 d2 p2) (h3 : DataW.Trod enc Tryz.prog W 0 (fun _ => true) true 5 v3 d3 p3) (hb : Below W.heap.size W W') :
    Rows.boundBlocksSpec.post enc Tryz.prog Tryz.f3 false true false false W #[v0, v1, v2, v3] (.bool true) W' := by
  have hlt : ∀ x ∈ before, x.block < W.heap.size := fun x hx => by simpa using hW.lt x hx
  rw [hp] at hlt
  refine ⟨[d0, d1, d2, d3], [], before, [], p0 ++ p1 ++ p2 ++ p3, [], hW, ?_, ?_, rfl, hb.frame _, fun h => by cases h⟩
  · rw [show Tryz.f3.resultTypes = #[4] by kernel_rfl]
    exact trodAll_mk1 (shut_bool (by kernel_rfl) true)
  · rw [show Tryz.f3.params = #[22, 23, 5, 5] from Tryz.params3]
    rw [List.append_assoc, List.append_assoc]
    exact trodAll_mk4 (Below.trod laidOut (by kernel_rfl) (of_decide_eq_true (by kernel_rfl)) h0 hb fun x hx => hlt x (by simp [hx]))
      (Below.trod laidOut (by kernel_rfl) (of_decide_eq_true (by kernel_rfl)) h1 hb fun x hx => hlt x (by simp [hx]))
      (Below.trod laidOut (by kernel_rfl) (of_decide_eq_true (by kernel_rfl)) h2 hb fun x hx => hlt x (by simp [hx]))
      (Below.trod laidOut (by kernel_rfl) (of_decide_eq_true (by kernel_rfl)) h3 hb fun x hx => hlt x (by simp [hx]))
end Claim
end Go.Proofs.YtcbggkejlhifpaaGreatDoor

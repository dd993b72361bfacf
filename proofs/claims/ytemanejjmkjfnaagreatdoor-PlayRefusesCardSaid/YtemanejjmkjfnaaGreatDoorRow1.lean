/- PlayRefuses, called with whatever arguments: it returns true, and nothing that was there turns. -/
import Derived.Test.YtemanejjmkjfnaaGreatDoorJa1
import Derived.Test.YtemanejjmkjfnaaGreatDoorWk
import Derived.Test.YtemanejjmkjfnaaGreatDoorRf3
import Derived.Test.YtemanejjmkjfnaaGreatDoorTie
import Derived.Test.YtemanejjmkjfnaaGreatDoorCards
import Derived.ProofKit
import Derived.LaidMore
import Derived.OpenShut
import Derived.Stop.Joined
import Derived.SevenTiedAt
import Derived.Carry
import Derived.Lib.LaidTab
import Derived.ChangeSame
namespace Go.Proofs.YtemanejjmkjfnaaGreatDoor
set_option maxRecDepth 100000
open Go.ChangeShapes Go.WideShapes Go.ChangeAt Go.WideMaps Go.WideElems Go.RowKit
namespace Claim
open Ev in
theorem rel_agg {ρ : Ren} {vs : List V} {cs : Array Value} (h : Rels ρ vs cs.toList) (ho : ∀ (i : Nat) (x : Value), cs[i]? = some x → one x = true) : Rel ρ (.agg vs.length vs .leaf) (.agg cs) := by
  refine .agg (by rw [← h.1, Array.length_toList]) ho fun i v x hv hx => ?_
  have hi := cell_lt hv
  have hb : Nat.blt i vs.length = true := Nat.ble_eq_true_of_le hi
  have hn : nth vs i = some vs[i] := by rw [nth_eq]; exact List.getElem?_eq_getElem hi
  simp only [cell, hb, T.get_leaf, patAt, hn] at hv
  cases hv
  exact h.2 i _ x (List.getElem?_eq_getElem hi) (by simpa using hx)
theorem int_cell {W : World} {base : Nat} {t : TypeId} {v : Value} {k : IntKind} (hu : Tryz.prog.underlying t = some (.int k)) (h : Cell.okWide Tryz.prog W .any base t v) : ∃ n, v = .int k n ∧ k.min ≤ n ∧ n ≤ k.max := by
  unfold Cell.okWide at h
  rw [hu] at h
  cases v <;> simp [Cell.ok, hu] at h
  rename_i k' n
  obtain ⟨h1, h2⟩ := h
  subst h1
  exact ⟨n, rfl, h2.1, h2.2⟩
def isArray : Option TypeDesc → Bool
  | some (.array _ _) => true
  | _ => false
theorem isArray_eq {d : Option TypeDesc} (h : isArray d = true) : ∃ n e, d = some (.array n e) := by
  unfold isArray at h
  split at h
  · exact ⟨_, _, rfl⟩
  · cases h
open Ev in
/-- eight small numbers, as the evaluator sees them -/
theorem eight_in {W : World} {base : Nat} {v : Value} (h : Value.okWide Tryz.prog W .any base 22 v) : ∃ a b c d e f g i : Int, (u8r a ∧ u8r b ∧ u8r c ∧ u8r d ∧ u8r e ∧ u8r f ∧ u8r g ∧ u8r i) ∧ ∀ ρ, Rel ρ (n8 a b c d e f g i) v := by
  have u8 : Tryz.prog.underlying 5 = some (.int .u8) := by kernel_rfl
  have ct : Tryz.prog.cellTypes Tryz.prog.depth 22 = some [5, 5, 5, 5, 5, 5, 5, 5] := by kernel_rfl
  have c8 : Tryz.prog.cellsOf 22 = 8 := by kernel_rfl
  obtain ⟨_, _, wA⟩ : ∃ n e, Tryz.prog.underlying 22 = some (.array n e) := isArray_eq (by kernel_rfl)
  unfold Value.okWide at h
  rw [wA] at h
  obtain ⟨cs, rfl, s0, ts, e0, _, r0⟩ := h
  rw [ct] at e0; cases e0
  rw [c8] at s0
  have at0 : ∀ j, j < 8 → ∃ n, cs[j]? = some (.int .u8 n) ∧ u8r n := fun j hj => by
    have hc : cs[j]? = some cs[j] := Array.getElem?_eq_getElem (by omega)
    obtain ⟨u', q1, q2⟩ := r0 j _ hc
    have hu : u' = 5 := by
      have hm := List.mem_of_getElem? q1
      simpa using hm
    subst hu
    obtain ⟨n, e1, e2, e3⟩ := int_cell u8 q2
    rw [e1] at hc
    have m0 : IntKind.u8.min = 0 := by decide
    have m1 : IntKind.u8.max = 255 := by decide
    exact ⟨n, hc, by unfold u8r; omega⟩
  obtain ⟨a, pa, la⟩ := at0 0 (by decide)
  obtain ⟨b, pb, lb⟩ := at0 1 (by decide)
  obtain ⟨c, pc, lc⟩ := at0 2 (by decide)
  obtain ⟨d, pd, ld⟩ := at0 3 (by decide)
  obtain ⟨e, pe, le⟩ := at0 4 (by decide)
  obtain ⟨f, pf, lf⟩ := at0 5 (by decide)
  obtain ⟨g, pg, lg⟩ := at0 6 (by decide)
  obtain ⟨i, ph, li⟩ := at0 7 (by decide)
  have hcs : cs.toList = [.int .u8 a, .int .u8 b, .int .u8 c, .int .u8 d, .int .u8 e, .int .u8 f, .int .u8 g, .int .u8 i] := by
    refine List.ext_getElem? fun j => ?_
    rw [Array.getElem?_toList]
    match j with
    | 0 => exact pa
    | 1 => exact pb
    | 2 => exact pc
    | 3 => exact pd
    | 4 => exact pe
    | 5 => exact pf
    | 6 => exact pg
    | 7 => exact ph
    | j + 8 => rw [Array.getElem?_eq_none (by omega)]; rfl
  refine ⟨a, b, c, d, e, f, g, i, ⟨la, lb, lc, ld, le, lf, lg, li⟩, fun ρ => rel_agg (vs := [_, _, _, _, _, _, _, _]) ?_ fun j y hy => ?_⟩
  · rw [hcs]
    exact Rels.cons (.int _ _) (Rels.cons (.int _ _) (Rels.cons (.int _ _) (Rels.cons (.int _ _) (Rels.cons (.int _ _) (Rels.cons (.int _ _) (Rels.cons (.int _ _) (Rels.cons (.int _ _) Rels.nil)))))))
  · have hm : y ∈ cs.toList := by simpa using Array.mem_of_getElem? hy
    rw [hcs] at hm
    simp only [List.mem_cons, List.not_mem_nil, or_false] at hm
    rcases hm with rfl | rfl | rfl | rfl | rfl | rfl | rfl | rfl <;> rfl
open Ev in
/-- one number, as the evaluator sees it -/
theorem one_in {W : World} {base : Nat} {t : TypeId} {v : Value} {k : IntKind} (hu : Tryz.prog.underlying t = some (.int k)) (h : Value.okWide Tryz.prog W .any base t v) : ∃ n : Int, v = .int k n ∧ k.min ≤ n ∧ n ≤ k.max := by
  unfold Value.okWide at h
  rw [hu] at h
  exact int_cell hu h
open Ev in
theorem law_call {W : World} {base : Nat} {v0 v1 : Value} (hH : Held W) (h0 : Value.okWide Tryz.prog W .any base 22 v0) (h1 : Value.okWide Tryz.prog W .any base 23 v1) (k : Nat) :
    CallsIn Fence.wide k Tryz.prog iRefuses #[v0, v1] W (fun e w' => e = .returned (.bool true) ∧ Below W.heap.size W w') := by
  obtain ⟨a, b, c, d, e, f, g, i, hx, r0⟩ := eight_in h0
  obtain ⟨p, rfl, p1, p2⟩ := one_in (show Tryz.prog.underlying 23 = some (.int .u16) by kernel_rfl) h1
  have m0 : IntKind.u16.min = 0 := by decide
  have m1 : IntKind.u16.max = 65535 := by decide
  have ha : Rels (rVars (roomOf W)) [n8 a b c d e f g i, .int .u16 p] (#[v0, .int .u16 p] : Array Value).toList := Rels.cons (r0 _) (Rels.cons (.int _ _) Rels.nil)
  refine (RT.law RT.GL_x hx (by omega) ha (sim_vars (vars_of_held hH) (Nat.le_refl 1000)) k).mono fun e w' ⟨c, h1, h2, h3⟩ => ⟨?_, h2⟩
  have h4 := h3 (rVars (roomOf W))
  cases h4
  exact h1
theorem post_below {H : Type} {enc : TypeId × Value → H} {W W' : World} {v0 v1 : Value} {d0 d1 : DataW H} {p0 p1 before : List MemPlace} (hW : DataW.Whole enc Tryz.prog Tryz.f3.params.toList Rows.playRefusesSpec.vars false W [v0, v1] [d0, d1] [] before) (hp : before = p0 ++ p1)
    (h0 : DataW.Trod enc Tryz.prog W 0 (fun _ => true) true 22 v0 d0 p0) (h1 : DataW.Trod enc Tryz.prog W 0 (fun _ => true) true 23 v1 d1 p1) (hb : Below W.heap.size W W') :
    Rows.playRefusesSpec.post enc Tryz.prog Tryz.f3 false true false false W #[v0, v1] (.bool true) W' := by
  have hlt : ∀ x ∈ before, x.block < W.heap.size := fun x hx => by simpa using hW.lt x hx
  rw [hp] at hlt
  refine ⟨[d0, d1], [], before, [], p0 ++ p1, [], hW, ?_, ?_, rfl, hb.frame _, fun h => by cases h⟩
  · rw [show Tryz.f3.resultTypes = #[4] by kernel_rfl]
    exact trodAll_mk1 (shut_bool (by kernel_rfl) true)
  · rw [show Tryz.f3.params = #[22, 23] from Tryz.params3]
    exact trodAll_mk2 (Below.trod laidOut (by kernel_rfl) (of_decide_eq_true (by kernel_rfl)) h0 hb fun x hx => hlt x (by simp [hx]))
      (Below.trod laidOut (by kernel_rfl) (of_decide_eq_true (by kernel_rfl)) h1 hb fun x hx => hlt x (by simp [hx]))
end Claim
end Go.Proofs.YtemanejjmkjfnaaGreatDoor

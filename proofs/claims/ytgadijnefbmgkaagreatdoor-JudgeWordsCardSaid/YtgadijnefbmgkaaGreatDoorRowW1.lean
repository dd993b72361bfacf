/- JudgeWords, called with whatever arguments: it returns true, and nothing that was there turns. -/
import Derived.Test.YtgadijnefbmgkaaGreatDoorJa1
import Derived.Test.YtgadijnefbmgkaaGreatDoorJw5
namespace Go.Proofs.YtgadijnefbmgkaaGreatDoor
set_option maxRecDepth 100000
open Go.ChangeShapes Go.WideShapes Go.ChangeAt Go.WideMaps Go.WideElems Go.RowKit
namespace Claim
theorem int_cell {W : World} {base : Nat} {t : TypeId} {v : Value} {k : IntKind} (hu : Tryz.prog.underlying t = some (.int k)) (h : Cell.okWide Tryz.prog W .any base t v) : ∃ n, v = .int k n ∧ k.min ≤ n ∧ n ≤ k.max := by
  unfold Cell.okWide at h
  rw [hu] at h
  cases v <;> simp [Cell.ok, hu] at h
  rename_i k' n
  obtain ⟨h1, h2⟩ := h
  subst h1
  exact ⟨n, rfl, h2.1, h2.2⟩
open Ev in
/-- one number, as the evaluator sees it -/
theorem one_in {W : World} {base : Nat} {t : TypeId} {v : Value} {k : IntKind} (hu : Tryz.prog.underlying t = some (.int k)) (h : Value.okWide Tryz.prog W .any base t v) : ∃ n : Int, v = .int k n ∧ k.min ≤ n ∧ n ≤ k.max := by
  unfold Value.okWide at h
  rw [hu] at h
  exact int_cell hu h
open Ev in
theorem law_call {W : World} {base : Nat} {v0 v1 : Value} (hH : Held W) (h0 : Value.okWide Tryz.prog W .any base 28 v0) (h1 : Value.okWide Tryz.prog W .any base 3 v1) (k : Nat) :
    CallsIn Fence.wide k Tryz.prog iWords #[v0, v1] W (fun e w' => e = .returned (.bool true) ∧ Below W.heap.size W w') := by
  obtain ⟨x, rfl, _, _⟩ := one_in (show Tryz.prog.underlying 28 = some (.int .u16) by kernel_rfl) h0
  obtain ⟨y, rfl, _, _⟩ := one_in (show Tryz.prog.underlying 3 = some (.int .i64) by kernel_rfl) h1
  exact WT.call (vars_of_held hH) k
theorem post_below {H : Type} {enc : TypeId × Value → H} {W W' : World} {v0 v1 : Value} {d0 d1 : DataW H} {p0 p1 before : List MemPlace} (hW : DataW.Whole enc Tryz.prog Tryz.f4.params.toList Rows.judgeWordsSpec.vars false W [v0, v1] [d0, d1] [] before) (hp : before = p0 ++ p1)
    (h0 : DataW.Trod enc Tryz.prog W 0 (fun _ => true) true 28 v0 d0 p0) (h1 : DataW.Trod enc Tryz.prog W 0 (fun _ => true) true 3 v1 d1 p1) (hb : Below W.heap.size W W') :
    Rows.judgeWordsSpec.post enc Tryz.prog Tryz.f4 false true false false W #[v0, v1] (.bool true) W' := by
  have hlt : ∀ x ∈ before, x.block < W.heap.size := fun x hx => by simpa using hW.lt x hx
  rw [hp] at hlt
  refine ⟨[d0, d1], [], before, [], p0 ++ p1, [], hW, ?_, ?_, rfl, hb.frame _, fun h => by cases h⟩
  · rw [show Tryz.f4.resultTypes = #[4] by kernel_rfl]
    exact trodAll_mk1 (shut_bool (by kernel_rfl) true)
  · rw [show Tryz.f4.params = #[28, 3] from Tryz.params4]
    exact trodAll_mk2 (Below.trod laidOut (by kernel_rfl) (of_decide_eq_true (by kernel_rfl)) h0 hb fun x hx => hlt x (by simp [hx]))
      (Below.trod laidOut (by kernel_rfl) (of_decide_eq_true (by kernel_rfl)) h1 hb fun x hx => hlt x (by simp [hx]))
end Claim
end Go.Proofs.YtgadijnefbmgkaaGreatDoor

/- 'few' over a memory, as the kit says it. -/
import Derived.Test.YtbhogdpjlligdaaGreatDoorNil3
namespace Go.Proofs.YtbhogdpjlligdaaGreatDoor
set_option maxRecDepth 100000
open Go.Ev Go.RowKit
namespace Few
def ren (B d z BT oT : Nat) : Ren := fun b => if b < 1000 then some (b, 0, 0) else if b = 1001 then some (B, d, z) else if b = 1002 then some (BT, oT, 0) else .none
theorem sim {w : World} {B d : Nat} {cs : Array Value} {el : TypeId} {fr : Nat × Nat} {s : List UInt8} {t : V} {BT oT : Nat} (hw : w.heap[B]? = some (.cells cs el fr)) (hz : d + 9 ≤ cs.size) (h1 : ∀ i x, i < 9 → cs[d + i]? = some x → one x = true)
    (h5 : ∀ x, cs[d + 5]? = some x → x = .string ⟨s.toArray⟩) (h8 : ∀ x, cs[d + 8]? = some x → Rel (ren B d cs.size BT oT) t x) : Sim (ren B d cs.size BT oT) (hB s t) w := by
  have get : ∀ b o, (hB s t).tr.get b = some o → b = 1001 ∧ o = .ro .none 9 [] (T.put (T.put .leaf 5 (some (.str s))) 8 (some t)) := fun b o h => by
    simp only [hB, T.get_put] at h
    split at h
    · rename_i e; cases h; exact ⟨e, rfl⟩
    · rw [T.get_leaf] at h; cases h
  refine ⟨fun g hg => ⟨0, by simp [ren, hg]⟩, fun b L hb => ?_, fun b o hb => ?_, fun b b' o o' L L' hb hb' _ _ _ => by rw [(get b o hb).1, (get b' o' hb').1]⟩
  · show b < 1003
    simp only [ren] at hb
    split at hb
    · omega
    · split at hb
      · omega
      · split at hb
        · omega
        · cases hb
  · obtain ⟨rfl, rfl⟩ := get b o hb
    refine ⟨(B, d, cs.size), _, by simp [ren], hw, cs, el, fr, rfl, rfl, hz, fun e' he => by simp at he, fun i x hi hx => h1 i x hi hx, fun i v x hv hx => ?_⟩
    have hi := cell_lt hv
    have hb : Nat.blt i 9 = true := Nat.ble_eq_true_of_le hi
    simp only [cell, hb, T.get_put, T.get_leaf] at hv
    by_cases e8 : i = 8
    · subst e8
      simp at hv; subst hv
      exact h8 x hx
    · by_cases e5 : i = 5
      · subst e5
        simp at hv; subst hv
        rw [h5 x hx]
        exact .str s
      · simp [e8, e5, patAt, nth] at hv
theorem call {w : World} {B d : Nat} {cs : Array Value} {el : TypeId} {fr : Nat × Nat} {s : List UInt8} (hw : w.heap[B]? = some (.cells cs el fr)) (hz : d + 9 ≤ cs.size) (h1 : ∀ i x, i < 9 → cs[d + i]? = some x → one x = true)
    (h5 : ∀ x, cs[d + 5]? = some x → x = .string ⟨s.toArray⟩) (h8 : (∀ x, cs[d + 8]? = some x → x = .slice .none 0 0) ∨ ∃ BT oT n c, ∀ x, cs[d + 8]? = some x → x = .slice (some ⟨BT, oT, .none⟩) n c) (k : Nat) :
    CallsIn Fence.wide k Tryz.prog 4 #[.slice (some ⟨B, d, .none⟩) 1 1, .int .i64 1] w (fun e w' => ∃ v, (∃ b, v = .bool b) ∧ Below w.heap.size w w' ∧ ∃ c, e = .returned c ∧ ∀ ρ, Rel ρ v c) := by
  have fin : ∀ {t : V}, TOk t → ∀ {BT oT : Nat}, (∀ x, cs[d + 8]? = some x → Rel (ren B d cs.size BT oT) t x) → CallsIn Fence.wide k Tryz.prog 4 #[.slice (some ⟨B, d, .none⟩) 1 1, .int .i64 1] w (fun e w' => ∃ v, (∃ b, v = .bool b) ∧ Below w.heap.size w w' ∧ ∃ c, e = .returned c ∧ ∀ ρ, Rel ρ v c) := by
    intro t ht BT oT h8
    have ha : Rels (ren B d cs.size BT oT) args (#[.slice (some ⟨B, d, .none⟩) 1 1, .int .i64 1] : Array Value).toList :=
      Rels.cons (.sliceK (o := 0) (d := d) (z := cs.size) (by simp [ren])) (Rels.cons (.int _ _) Rels.nil)
    exact (ok ht (sim hw hz h1 h5 h8) ha k).mono fun e w' ⟨b, e1, e2⟩ => ⟨.bool b, ⟨b, rfl⟩, e2, _, e1, fun ρ => .bool b⟩
  rcases h8 with h8 | ⟨BT, oT, n, c, h8⟩
  · exact fin tok_nils (BT := 0) (oT := 0) fun x hx => by rw [h8 x hx]; exact .nils
  · exact fin (tok_slice n (.known c)) (BT := BT) (oT := oT) fun x hx => by rw [h8 x hx]; exact .sliceK (o := 0) (d := oT) (z := 0) (by simp [ren])
end Few
end Go.Proofs.YtbhogdpjlligdaaGreatDoor

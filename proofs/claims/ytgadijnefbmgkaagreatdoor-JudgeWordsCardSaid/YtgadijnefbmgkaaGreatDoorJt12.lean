/- strings.Join, as the shelf has it, serves judge.Text. -/
import Derived.Test.YtgadijnefbmgkaaGreatDoorJt11
import Derived.Lib.Join
import Derived.CallsIn
namespace Go.Proofs.YtgadijnefbmgkaaGreatDoor
set_option maxRecDepth 100000
open Go.Ev Go.RowKit
theorem joinF_join (sep : List UInt8) : ∀ ws, joinF sep ws = Lib.join ws sep
  | [] => (Lib.join_nil sep).symm
  | [s] => (Lib.join_one s sep).symm
  | s :: t :: l => by
    have := joinF_join sep (t :: l)
    rw [Lib.join_cons] at this ⊢
    simp only [joinF] at this ⊢
    rw [this]
    simp [Lib.joinTail]
/-- what the shelf says of strings.Join -/
def ShelfJoin : Prop := ∀ (bk o c : Nat) (xs : List ByteArray) (sep : ByteArray) (w : World),
    (∀ (j : Nat) x, xs[j]? = some x → w.cell? ⟨bk, o + j, none⟩ = some (.string x)) → bk < w.heap.size → xs.length ≤ 140737488355328 → xs.length ≤ c →
    (Lib.join (xs.map (·.data.toList)) sep.data.toList).length ≤ 140737488355328 →
    Calls Tryz.prog iJoin #[.slice (some ⟨bk, o, none⟩) xs.length c, .string sep] w fun e w' => e = .returned (.string ⟨(Lib.join (xs.map (·.data.toList)) sep.data.toList).toArray⟩) ∧ Below w.heap.size w w'
theorem join_ok (hS : ShelfJoin) (hZ : ∀ (a : Addr) (w : World), Calls Tryz.prog iJoin #[.slice (some a) 0 0, .string ⟨sep.toArray⟩] w fun e w' => e = .returned (.string ⟨#[]⟩) ∧ Below w.heap.size w w') : JoinOk := by
  intro n xs e k hk hn ho ρ cargs W hSim ha m
  obtain ⟨c1, cs1, q1, r1, ha⟩ := ha.uncons
  obtain ⟨c2, cs2, q2, r2, ha⟩ := ha.uncons
  have q3 := ha.of_nil
  have hc : cargs = #[c1, c2] := by rw [← Array.toArray_toList (xs := cargs), q1, q2, q3]
  subst hc
  cases r2
  have e0 : ∀ c : List UInt8, (⟨c.toArray⟩ : ByteArray).data.toList = c := fun c => by simp
  cases r1 with
  | sliceZ a =>
    refine (callsIn_wide.2 (hZ a W)).mono fun en w' ⟨h1, h2⟩ => ⟨_, rfl, h2, _, h1, fun ρ' => ?_⟩
    have : textTo xs 0 = [] := rfl
    rw [this]
    exact .str _
  | @sliceA _ _ _ _ _ kc B d z h1 h2 h3 =>
    have hlen : (strs xs k).length = k := strs_len hk
    obtain ⟨L, ob, l1, l2, l3⟩ := hSim.live 1001 (.cells e (strs xs k).length (strs xs k) .leaf) (by simp only [JT.hL, T.get_put, if_pos])
    rw [h1] at l1
    cases l1
    obtain ⟨cs, el, lo, hi, g1, g2, g3, g4, g5, g6⟩ := l3
    subst g1
    have g2 : cs.size = z := g2
    have g3 : d + (strs xs k).length ≤ z := g3
    have hB : B < W.heap.size := (Array.getElem?_eq_some_iff.1 l2).1
    let bs : List ByteArray := (xs.take k).map fun x => ⟨(wordF x).toArray⟩
    have hbl : bs.length = k := by simp only [bs, List.length_map, List.length_take]; omega
    have hbm : bs.map (·.data.toList) = (xs.take k).map wordF := by simp [bs, List.map_map, Function.comp_def]
    have ht : textTo xs k = Lib.join ((xs.take k).map wordF) sep := joinF_join sep _
    have hcells : ∀ (j : Nat) x, bs[j]? = some x → W.cell? ⟨B, d + 0 + j, none⟩ = some (.string x) := fun j x hx => by
      simp only [bs, List.getElem?_map, Option.map_eq_some_iff] at hx
      obtain ⟨y, hy, rfl⟩ := hx
      have hs : (strs xs k)[j]? = some (.str (wordF y)) := by simp only [strs, List.getElem?_map, hy, Option.map_some]
      have hj := (List.getElem?_eq_some_iff.1 hs).1
      have hcj : cs[d + j]? = some cs[d + j] := Array.getElem?_eq_getElem (by omega)
      have hr := g6.2 j _ _ (leaf_cell hs) hcj
      have hv : cs[d + j] = .string ⟨(wordF y).toArray⟩ := by
        generalize cs[d + j] = q at hr
        cases hr; rfl
      unfold World.cell?
      rw [l2]
      simp only [Nat.add_zero]
      rw [hcj, hv]
      rfl
    have key := hS B (d + 0) kc bs ⟨sep.toArray⟩ W hcells hB (by omega) (by omega) (by
      rw [hbm, e0, ← ht]
      have := textTo_len ho hk
      omega)
    rw [hbm, e0, ← ht, hbl] at key
    refine (callsIn_wide.2 key).mono fun en w' ⟨h1, h2⟩ => ⟨_, rfl, h2, _, h1, fun ρ' => .str _⟩
end Go.Proofs.YtgadijnefbmgkaaGreatDoor

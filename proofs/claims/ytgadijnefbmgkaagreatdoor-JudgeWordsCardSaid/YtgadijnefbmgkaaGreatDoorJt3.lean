/- What texts of numbers are, in plain words; one round of estrayref46.Text. -/
import Derived.Test.YtgadijnefbmgkaaGreatDoorJt2
namespace Go.Proofs.YtgadijnefbmgkaaGreatDoor
set_option maxRecDepth 100000
open Go.Ev Go.RowKit
def sep : List UInt8 := [44, 32]
noncomputable def wordF (x : Int) : List UInt8 := match cell 12 words T.leaf (Nat.add 0 (x.toNat.mul 1)) with
  | some (.str w) => w
  | _ => []
/-- the number at a place is one that there is, and is greater than that before it -/
def okAt (xs : List Int) (k : Nat) : Prop := ∀ x, xs[k]? = some x → 1 ≤ x ∧ x ≤ 11 ∧ ∀ m y, k = m + 1 → xs[m]? = some y → y < x
def okTo (xs : List Int) (k : Nat) : Prop := ∀ j, j < k → okAt xs j
def valid (xs : List Int) : Prop := ∀ k, okAt xs k
noncomputable def textTo (xs : List Int) (k : Nat) : List UInt8 := joinF sep ((xs.take k).map wordF)
theorem joinF_snoc (w : List UInt8) : ∀ l : List (List UInt8), l ≠ [] → joinF sep (l ++ [w]) = joinF sep l ++ sep ++ w
  | [], h => absurd rfl h
  | [s], _ => by simp [joinF]
  | s :: t :: l, _ => by
    have := joinF_snoc w (t :: l) (by simp)
    simp only [List.cons_append, joinF] at this ⊢
    rw [this]
    simp
theorem ints_len (xs : List Int) : (ints xs).length = xs.length := List.length_map ..
theorem cell_ints {xs : List Int} {k : Nat} {y : Int} : cell xs.length (ints xs) T.leaf (Nat.add 0 (k.mul 1)) = some (.int .i64 y) ↔ xs[k]? = some y := by
  rw [show Nat.add 0 (k.mul 1) = k by show 0 + k * 1 = k; omega]
  have e : ∀ i : Nat, (ints xs)[i]? = (xs[i]?).map (V.int .i64) := fun i => by simp [ints]
  constructor
  · intro h
    rw [← ints_len] at h
    have := cell_leaf h
    rw [e] at this
    cases q : xs[k]? with
    | none => rw [q] at this; cases this
    | some z => rw [q] at this; cases this; rfl
  · intro h
    rw [← ints_len]
    exact leaf_cell (by rw [e, h]; rfl)
theorem words_at : ∀ p : Nat, p < 12 → ∃ w, cell 12 words T.leaf (Nat.add 0 (p.mul 1)) = some (.str w) ∧ w.length ≤ 6
  | 0, _ => ⟨_, rfl, by decide⟩
  | 1, _ => ⟨_, rfl, by decide⟩
  | 2, _ => ⟨_, rfl, by decide⟩
  | 3, _ => ⟨_, rfl, by decide⟩
  | 4, _ => ⟨_, rfl, by decide⟩
  | 5, _ => ⟨_, rfl, by decide⟩
  | 6, _ => ⟨_, rfl, by decide⟩
  | 7, _ => ⟨_, rfl, by decide⟩
  | 8, _ => ⟨_, rfl, by decide⟩
  | 9, _ => ⟨_, rfl, by decide⟩
  | 10, _ => ⟨_, rfl, by decide⟩
  | 11, _ => ⟨_, rfl, by decide⟩
  | p + 12, h => by omega
theorem word_ex {x : Int} (h0 : 0 ≤ x) (h1 : x < 12) : cell 12 words T.leaf (Nat.add 0 (x.toNat.mul 1)) = some (.str (wordF x)) ∧ (wordF x).length ≤ 6 := by
  obtain ⟨w, q1, q2⟩ := words_at x.toNat (by omega)
  have : wordF x = w := by unfold wordF; rw [q1]
  rw [this]
  exact ⟨q1, q2⟩
theorem textTo_succ {xs : List Int} {k : Nat} {x : Int} (hx : xs[k]? = some x) : textTo xs (k + 1) = if k = 0 then textTo xs k ++ wordF x else textTo xs k ++ sep ++ wordF x := by
  have hk : k < xs.length := (List.getElem?_eq_some_iff.1 hx).1
  have e : xs.take (k + 1) = xs.take k ++ [x] := by rw [List.take_add_one, hx]; rfl
  unfold textTo
  rw [e, List.map_append, List.map_cons, List.map_nil]
  split
  · rename_i q
    subst q
    simp [joinF]
  · rename_i q
    refine joinF_snoc _ _ fun h => ?_
    have : ((xs.take k).map wordF).length = 0 := by rw [h]; rfl
    rw [List.length_map, List.length_take] at this
    omega
theorem textTo_len {xs : List Int} : ∀ {k : Nat}, okTo xs k → k ≤ xs.length → (textTo xs k).length ≤ 8 * k
  | 0, _, _ => by simp [textTo, joinF]
  | k + 1, ho, hk => by
    have hx : xs[k]? = some xs[k] := List.getElem?_eq_getElem (by omega)
    have h1 := textTo_len (k := k) (fun j hj => ho j (by omega)) (by omega)
    obtain ⟨h2, h3, _⟩ := ho k (by omega) _ hx
    have h4 := (word_ex (x := xs[k]) (by omega) (by omega)).2
    rw [textTo_succ hx]
    split
    · rw [List.length_append]; omega
    · rw [List.length_append, List.length_append, show sep.length = 2 from rfl]; omega
theorem all_int {r : Option V} {x : Int} {P : Int → Prop} (h : r = some (.int .i64 x)) (hp : P x) : ∀ y : Int, r = some (.int .i64 y) → P y := fun y hy => by
  rw [h] at hy; cases hy; exact hp
theorem all_str {r : Option V} {x : List UInt8} {P : List UInt8 → Prop} (h : r = some (.str x)) (hp : P x) : ∀ y : List UInt8, r = some (.str y) → P y := fun y hy => by
  rw [h] at hy; cases hy; exact hp
namespace RT
theorem round {xs : List Int} {c : Cap} {e : Option TypeId} {nx k : Nat} (hn : xs.length ≤ 30) (hk : k ≤ xs.length) (ho : okTo xs k) :
    evW G0 sp 40 bd none iRText (S (inv xs.length c (textTo xs k) (Int.ofNat k)) (hY e xs.length xs nx)) (K5 xs.length xs c nx (Int.ofNat k) (fun s' => (k < xs.length ∧ okAt xs k) ∧ s' = textTo xs (k + 1)) (fun v => v = .tuple [.str [], .int .i64 (Int.ofNat 2)] ∧ ¬ valid xs) (k = xs.length) (textTo xs k)) := by
  have hl := textTo_len ho hk
  have hb : ∀ a b : Nat, a + b ≤ 1000000000 → (a.add b).ble 1000000000 = true := fun a b h => Nat.ble_eq_true_of_le h
  rw [w5]
  refine ⟨fun hlt => ?_, fun hlt => ?_⟩
  · have hlt' : k < xs.length := by have := ilt_t.1 hlt; simp only [iofn] at this; omega
    obtain ⟨x, hx⟩ : ∃ x, xs[k]? = some x := ⟨xs[k], List.getElem?_eq_getElem hlt'⟩
    have cx := cell_ints.2 hx
    have hsu := textTo_succ hx
    have b1 : ilt x (Int.ofNat 1) = true → ¬ valid xs := fun q hv => by have := hv k x hx; have := ilt_t.1 q; simp only [iofn] at this; omega
    have b2 : ilt (Int.ofNat 11) x = true → ¬ valid xs := fun q hv => by have := hv k x hx; have := ilt_t.1 q; simp only [iofn] at this; omega
    have in1 : ilt x (Int.ofNat 1) = false → ilt (Int.ofNat 11) x = false → 1 ≤ x ∧ x ≤ 11 := fun q q' => by have := ilt_f.1 q; have := ilt_f.1 q'; simp only [iofn] at *; omega
    have wx : ilt x (Int.ofNat 1) = false → ilt (Int.ofNat 11) x = false → cell 12 words T.leaf (Nat.add 0 (x.toNat.mul 1)) = some (.str (wordF x)) ∧ (wordF x).length ≤ 6 := fun q q' => word_ex (by have := in1 q q'; omega) (by have := in1 q q'; omega)
    have j0 : ilt x (Int.ofNat 1) = false → ilt x (Int.ofNat 0) = false := fun q => ilt_f.2 (by have := ilt_f.1 q; simp only [iofn] at *; omega)
    have j12 : ilt (Int.ofNat 11) x = false → ilt x (Int.ofNat 12) = true := fun q => ilt_t.2 (by have := ilt_f.1 q; simp only [iofn] at *; omega)
    rcases k with _ | m
    · have ok : ilt x (Int.ofNat 1) = false → ilt (Int.ofNat 11) x = false → okAt xs 0 := fun q q' y hy => by
        rw [hx] at hy; cases hy
        exact ⟨(in1 q q').1, (in1 q q').2, fun m y h => by omega⟩
      have no : ∀ {p : Prop}, ilt (Int.ofNat 0) (Int.ofNat 0) = true → p := fun q => by have := ilt_t.1 q; omega
      rw [if_pos rfl] at hsu
      repeat' (first | exact rfl | exact trivial | exact hlt | exact hlt' | exact ⟨_, cx⟩ | assumption | exact no (by assumption) | exact ok (by assumption) (by assumption) | exact b1 (by assumption) | exact b2 (by assumption) | exact j0 (by assumption) | exact j12 (by assumption) | exact ⟨_, (wx (by assumption) (by assumption)).1⟩ | exact hsu.symm | exact hb _ _ (by have := (wx (by assumption) (by assumption)).2; omega) | apply And.intro | refine all_int cx ?_ | refine all_str (wx (by assumption) (by assumption)).1 ?_ | intro)
    · obtain ⟨z, hz⟩ : ∃ z, xs[m]? = some z := ⟨xs[m], List.getElem?_eq_getElem (by omega)⟩
      have cz := cell_ints.2 hz
      have hw : wr .i64 (Int.sub (Int.ofNat (m + 1)) (Int.ofNat 1)) = Int.ofNat m := by rw [isub, iofn, iofn, iofn, wr64 (by omega) (by omega)]; omega
      have b3 : (!ilt z x) = true → ¬ valid xs := fun q hv => by
        have := (hv (m + 1) x hx).2.2 m z rfl hz
        have := ilt_f.1 (not_t.1 q)
        omega
      have ok : ilt x (Int.ofNat 1) = false → ilt (Int.ofNat 11) x = false → (!ilt z x) = false → okAt xs (m + 1) := fun q q' q2 y hy => by
        rw [hx] at hy; cases hy
        refine ⟨(in1 q q').1, (in1 q q').2, fun m' y h hy => ?_⟩
        obtain rfl : m = m' := by omega
        rw [hz] at hy; cases hy
        exact ilt_t.1 (not_f.1 q2)
      have m0 : ilt (Int.ofNat m) (Int.ofNat 0) = false := rfl
      have m1 : ilt (Int.ofNat m) (Int.ofNat xs.length) = true := ilt_t.2 (by simp only [iofn]; omega)
      have no : ∀ {p : Prop}, ilt (Int.ofNat 0) (Int.ofNat (m + 1)) = false → p := fun q => by have := ilt_f.1 q; simp only [iofn] at this; omega
      rw [if_neg (by omega)] at hsu
      simp only [hw]
      repeat' (first | exact rfl | exact trivial | exact hlt | exact hlt' | exact m1 | exact ⟨_, cx⟩ | exact ⟨_, cz⟩ | assumption | exact no (by assumption) | exact ok (by assumption) (by assumption) (by assumption) | exact b1 (by assumption) | exact b2 (by assumption) | exact b3 (by assumption) | exact j0 (by assumption) | exact j12 (by assumption) | exact ⟨_, (wx (by assumption) (by assumption)).1⟩ | exact hsu.symm | exact hb _ _ (by omega) | exact hb _ _ (by have := (wx (by assumption) (by assumption)).2; rw [List.length_append, show ([44, 32] : List UInt8).length = 2 from rfl]; omega) | apply And.intro | refine all_int cx ?_ | refine all_int cz ?_ | refine all_str (wx (by assumption) (by assumption)).1 ?_ | intro)
  · have hge : xs.length ≤ k := by have := ilt_f.1 hlt; simp only [iofn] at this; omega
    repeat' (first | exact rfl | exact trivial | omega | apply And.intro | intro)
end RT
end Go.Proofs.YtgadijnefbmgkaaGreatDoor

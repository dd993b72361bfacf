/- judge.Text: the test of one number; one text more in the row. -/
import Derived.Test.YtgadijnefbmgkaaGreatDoorJt5
namespace Go.Proofs.YtgadijnefbmgkaaGreatDoor
set_option maxRecDepth 100000
open Go.Ev Go.RowKit
def lastF (xs : List Int) : Nat → Int
  | 0 => 0
  | m + 1 => xs.getD m 0
noncomputable def strs (xs : List Int) (k : Nat) : List V := (xs.take k).map fun x => .str (wordF x)
theorem strs_len {xs : List Int} {k : Nat} (h : k ≤ xs.length) : (strs xs k).length = k := by
  unfold strs; rw [List.length_map, List.length_take]; omega
theorem strs_succ {xs : List Int} {k : Nat} {x : Int} (hx : xs[k]? = some x) : strs xs (k + 1) = strs xs k ++ [.str (wordF x)] := by
  have e : xs.take (k + 1) = xs.take k ++ [x] := by rw [List.take_add_one, hx]; rfl
  unfold strs
  rw [e, List.map_append, List.map_cons, List.map_nil]
namespace JT
def bad (xs : List Int) (v : V) : Prop := v = .tuple [.str [], .int .i64 (Int.ofNat 2)] ∧ ¬ valid xs
def good (xs : List Int) (k : Nat) (y : Int) : Prop := xs[k]? = some y ∧ okAt xs k
theorem tests {xs : List Int} {k : Nat} (hlt : k < xs.length) (ho : okTo xs k) :
    ∃ x, xs[k]? = some x ∧ ((!ilt (lastF xs k) x) = true → ¬ valid xs) ∧ ((!ilt (lastF xs k) x) = false → (!ilt x (Int.ofNat 12)) = true → ¬ valid xs) ∧ ((!ilt (lastF xs k) x) = false → (!ilt x (Int.ofNat 12)) = false → good xs k x) := by
  have hx : xs[k]? = some xs[k] := List.getElem?_eq_getElem hlt
  refine ⟨xs[k], hx, fun q hv => ?_, fun q q2 hv => ?_, fun q q2 => ?_⟩
  · have q := ilt_f.1 (not_t.1 q)
    have h1 := hv k _ hx
    rcases k with _ | m
    · simp only [lastF] at q; omega
    · have hz : xs[m]? = some xs[m] := List.getElem?_eq_getElem (by omega)
      have := h1.2.2 m _ rfl hz
      have e : lastF xs (m + 1) = xs[m] := by simp only [lastF, List.getD, hz, Option.getD_some]
      rw [e] at q
      omega
  · have q2 := ilt_f.1 (not_t.1 q2)
    have h1 := hv k _ hx
    simp only [iofn] at q2
    omega
  · have q := ilt_t.1 (not_f.1 q)
    have q2 := ilt_t.1 (not_f.1 q2)
    simp only [iofn] at q2
    refine ⟨hx, fun y hy => ?_⟩
    rw [hx] at hy; cases hy
    rcases k with _ | m
    · simp only [lastF] at q
      exact ⟨by omega, by omega, fun m y h => by omega⟩
    · have hz : xs[m]? = some xs[m] := List.getElem?_eq_getElem (by omega)
      have e : lastF xs (m + 1) = xs[m] := by simp only [lastF, List.getD, hz, Option.getD_some]
      rw [e] at q
      have h2 := ho m (by omega) _ hz
      refine ⟨by omega, by omega, fun m' y h hy => ?_⟩
      obtain rfl : m = m' := by omega
      rw [hz] at hy; cases hy
      exact q
theorem test0 {xs : List Int} {c : Cap} {o : V} {k : Nat} (hlt : k < xs.length) (ho : okTo xs k) :
    evL G0 sp 40 iText [r7, y8] (K3 xs.length c o (Int.ofNat k) (hI xs.length xs) (bad xs) (good xs k)) (S (inv xs.length c o (lastF xs k) (Int.ofNat k)) (hI xs.length xs)) := by
  obtain ⟨x, hx, t1, t2, t3⟩ := tests hlt ho
  have kn : ilt (Int.ofNat k) (Int.ofNat xs.length) = true := ilt_t.2 (by simp only [iofn]; omega)
  rw [w7]
  refine ⟨rfl, kn, ⟨_, cell_ints.2 hx⟩, all_int (cell_ints.2 hx) ⟨fun q => ⟨rfl, t1 q⟩, fun q => ⟨fun q2 => ⟨rfl, t2 q q2⟩, fun q2 => ⟨t3 q q2, ?_⟩⟩⟩⟩
  repeat' (first | exact rfl | exact trivial | apply And.intro)
theorem tests' {xs : List Int} {c : Cap} {o : V} {k : Nat} {e : Option TypeId} {L : List V} (hlt : k < xs.length) (ho : okTo xs k) :
    evL G0 sp 40 iText [r7, y8] (K3 xs.length c o (Int.ofNat k) (hL e xs.length xs L) (bad xs) (good xs k)) (S (inv xs.length c o (lastF xs k) (Int.ofNat k)) (hL e xs.length xs L)) := by
  obtain ⟨x, hx, t1, t2, t3⟩ := tests hlt ho
  have kn : ilt (Int.ofNat k) (Int.ofNat xs.length) = true := ilt_t.2 (by simp only [iofn]; omega)
  rw [w7s]
  refine ⟨rfl, kn, ⟨_, cell_ints.2 hx⟩, all_int (cell_ints.2 hx) ⟨fun q => ⟨rfl, t1 q⟩, fun q => ⟨fun q2 => ⟨rfl, t2 q q2⟩, fun q2 => ⟨t3 q q2, ?_⟩⟩⟩⟩
  repeat' (first | exact rfl | exact trivial | apply And.intro)
/-! states -/
section
variable {ρ0 : Ren} {h0 : H} {w0 : World} {l : List (Nat × V)} {st : St} {a : Act} {w : World} {n : Nat} {xs : List Int}
theorem eqH_eq {a b : H} (h : eqH a b) : a = b := by
  obtain ⟨x, y⟩ := a
  obtain ⟨x', y'⟩ := b
  obtain ⟨h1, h2⟩ := h
  cases h1; cases h2; rfl
theorem toS (hA : At ρ0 h0 w0 st a w) (hk : hasS l st) {h : H} (hh : st.h = h) : At ρ0 h0 w0 (S l h) a w := by
  subst hh
  exact at_less hA (hasT_get hk.1) (Nat.le_of_eq hk.2.1.symm) (fun _ _ h => h) rfl (noDefs_eq hk.2.2).symm
theorem isS_o {E : List UInt8 → Prop} {x : Option O} (h : isS E x) : ∃ w e o, E w ∧ x = some o ∧ ((O.cells e 1 [.str w] .leaf).rw = true → o.rw = true) ∧ ∀ ρ L c, ORel ρ o L c → ORel ρ (.cells e 1 [.str w] .leaf) L c := by
  unfold isS at h
  split at h
  · rename_i e n pat tr
    obtain ⟨h1, h2⟩ := h
    rw [T.beq_true] at h1
    subst h1
    split at h2
    · rename_i w hw
      refine ⟨w, e, _, h2, rfl, fun _ => rfl, fun ρ L c hc => orel_cells (fun i u hu => ?_) hc⟩
      have := cell_leaf (L := [.str w]) hu
      have := (gather_spec hw).2 i u this
      rwa [Nat.zero_add] at this
    · cases h2
  · cases h
end
end JT
end Go.Proofs.YtgadijnefbmgkaaGreatDoor

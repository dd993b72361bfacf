/- BoundBlocks: the plain law: which scripts of blocks are fair. -/
import Derived.Test.YtcbggkejlhifpaaGreatDoorLb6
namespace Go.Proofs.YtcbggkejlhifpaaGreatDoor
set_option maxRecDepth 100000
set_option maxHeartbeats 2000000
open Go.Ev Go.RowKit
namespace FP
open LB FR
theorem upd_same {c : Nat} {v : Int} {la : Nat → Int} : upd (some c) v la c = v := by
  have e : Nat.beq c c = true := (T.beq_true).2 rfl
  simp only [upd, e]
theorem upd_other {cl : Option Nat} {c : Nat} {v : Int} {la : Nat → Int} (h : cl ≠ some c) : upd cl v la c = la c := by
  cases cl with
  | none => rfl
  | some k =>
    have e : Nat.beq k c = false := by
      cases q : Nat.beq k c with
      | false => rfl
      | true => exact absurd (congrArg some ((T.beq_true).1 q)) h
    simp only [upd, e]
theorem la_le0 (cs : Nat → Option Nat) (c : Nat) : ∀ n, n ≤ 2000 → laF cs n c ≤ (n : Int)
  | 0, _ => Int.le_refl _
  | n + 1, h => by
    simp only [laF]
    by_cases q : cs n = some c
    · rw [q, upd_same, nxt_eq (by omega)]; omega
    · rw [upd_other q]
      have := la_le0 cs c n (by omega)
      omega
theorem la_ge {cs : Nat → Option Nat} {c j : Nat} (hj : cs j = some c) : ∀ n, n ≤ 2000 → j < n → (j : Int) + 1 ≤ laF cs n c
  | 0, _, h => by omega
  | n + 1, h, hn => by
    simp only [laF]
    by_cases q : cs n = some c
    · rw [q, upd_same, nxt_eq (by omega)]; omega
    · rw [upd_other q]
      have : j ≠ n := fun e => q (e ▸ hj)
      exact la_ge hj n (by omega) (by omega)
theorem la_le {cs : Nat → Option Nat} {c lo : Nat} : ∀ n, n ≤ 2000 → lo ≤ n → (∀ j, lo ≤ j → j < n → cs j ≠ some c) → laF cs n c ≤ (lo : Int)
  | 0, h, hl, _ => by
    have : lo = 0 := by omega
    subst this
    exact la_le0 cs c 0 h
  | n + 1, h, hl, hc => by
    by_cases q : lo = n + 1
    · subst q; exact la_le0 cs c _ h
    · simp only [laF]
      rw [upd_other (hc n (by omega) (by omega))]
      exact la_le n (by omega) (by omega) fun j a b => hc j a (by omega)
/-- which turns are looked at -/
def must (mm c : Nat) : Prop := c < mm ∨ (4 ≤ c ∧ c < 8)
theorem old_iff {mm : Nat} (hmm : mm = 1 ∨ mm = 2) {la : Nat → Int} {x : Int} : oldF mm la ≤ x ↔ ∃ c, must mm c ∧ la c ≤ x := by
  rcases hmm with rfl | rfl
  · simp only [oldF, mn_le]
    constructor
    · rintro (h | (((h | h) | h) | h))
      · exact ⟨0, .inl (by omega), h⟩
      · exact ⟨4, .inr (by omega), h⟩
      · exact ⟨5, .inr (by omega), h⟩
      · exact ⟨6, .inr (by omega), h⟩
      · exact ⟨7, .inr (by omega), h⟩
    · rintro ⟨c, h1, h2⟩
      unfold must at h1
      have : c = 0 ∨ c = 4 ∨ c = 5 ∨ c = 6 ∨ c = 7 := by omega
      rcases this with rfl | rfl | rfl | rfl | rfl
      · exact .inl h2
      · exact .inr (.inl (.inl (.inl h2)))
      · exact .inr (.inl (.inl (.inr h2)))
      · exact .inr (.inl (.inr h2))
      · exact .inr (.inr h2)
  · simp only [oldF, mn_le]
    constructor
    · rintro ((h | h) | (((h | h) | h) | h))
      · exact ⟨0, .inl (by omega), h⟩
      · exact ⟨1, .inl (by omega), h⟩
      · exact ⟨4, .inr (by omega), h⟩
      · exact ⟨5, .inr (by omega), h⟩
      · exact ⟨6, .inr (by omega), h⟩
      · exact ⟨7, .inr (by omega), h⟩
    · rintro ⟨c, h1, h2⟩
      unfold must at h1
      have : c = 0 ∨ c = 1 ∨ c = 4 ∨ c = 5 ∨ c = 6 ∨ c = 7 := by omega
      rcases this with rfl | rfl | rfl | rfl | rfl | rfl
      · exact .inl (.inl h2)
      · exact .inl (.inr h2)
      · exact .inr (.inl (.inl (.inl h2)))
      · exact .inr (.inl (.inl (.inr h2)))
      · exact .inr (.inl (.inr h2))
      · exact .inr (.inr h2)
/-- all have their turns -/
theorem fair_pos {mm : Nat} (hmm : mm = 1 ∨ mm = 2) {cs : Nat → Option Nat} {n v w : Nat} (hv : v ≤ w) (hn : n ≤ 2000) (H : ∀ c, must mm c → ∀ k, v ≤ k + 1 → k < n → ∃ j, k + 1 ≤ j + v ∧ j ≤ k ∧ cs j = some c) : fairB mm cs n (w : Int) = true := by
  refine fairB_t fun k hk hb => ?_
  unfold bad at hb
  rw [nxt_eq (by omega)] at hb
  obtain ⟨h1, h2⟩ := hb
  obtain ⟨c, c1, c2⟩ := (old_iff hmm).1 h2
  obtain ⟨j, j1, j2, j3⟩ := H c c1 k (by omega) hk
  have := la_ge j3 (k + 1) (by omega) (by omega)
  omega
/-- one has no turn in a window -/
theorem fair_neg {mm : Nat} (hmm : mm = 1 ∨ mm = 2) {cs : Nat → Option Nat} {n w k0 c : Nat} (hn : n ≤ 2000) (h1 : 1 ≤ w) (hk : k0 + w ≤ n) (hc : must mm c) (H : ∀ j, k0 ≤ j → j < k0 + w → cs j ≠ some c) : fairB mm cs n (w : Int) = false := by
  refine fairB_f (k := k0 + w - 1) (by omega) ?_
  unfold bad
  rw [nxt_eq (by omega)]
  refine ⟨by omega, (old_iff hmm).2 ⟨c, hc, ?_⟩⟩
  have := la_le (cs := cs) (c := c) (lo := k0) (k0 + w - 1 + 1) (by omega) (by omega) fun j a b => H j a (by omega)
  omega
/-! the turns of a block -/
def ix (mm r p : Nat) : Nat := if p + r < BK.wid mm then p + r else p + r - BK.wid mm
theorem csB_eq {mm r j : Nat} (hmm : mm = 1 ∨ mm = 2) (hr : r < BK.wid mm) : csB mm r j = (cls mm).getD (ix mm r (j % BK.wid mm)) none := by
  have hcl := cls_len hmm
  have hj : j % BK.wid mm < BK.wid mm := Nat.mod_lt _ (by omega)
  unfold csB ix
  rw [List.getD_eq_getElem?_getD, rot_at (by rw [hcl]; exact hr), hcl, if_pos hj, List.getD_eq_getElem?_getD]
theorem cls_must {mm : Nat} (hmm : mm = 1 ∨ mm = 2) {c : Nat} (h : must mm c) : ∃ i, i < BK.wid mm ∧ (cls mm).getD i none = some c := by
  unfold must at h
  rcases hmm with rfl | rfl
  · have : c = 0 ∨ c = 4 ∨ c = 5 ∨ c = 6 ∨ c = 7 := by omega
    rcases this with rfl | rfl | rfl | rfl | rfl
    · exact ⟨0, by decide, rfl⟩
    · exact ⟨1, by decide, rfl⟩
    · exact ⟨2, by decide, rfl⟩
    · exact ⟨4, by decide, rfl⟩
    · exact ⟨5, by decide, rfl⟩
  · have : c = 0 ∨ c = 1 ∨ c = 4 ∨ c = 5 ∨ c = 6 ∨ c = 7 := by omega
    rcases this with rfl | rfl | rfl | rfl | rfl | rfl
    · exact ⟨0, by decide, rfl⟩
    · exact ⟨1, by decide, rfl⟩
    · exact ⟨2, by decide, rfl⟩
    · exact ⟨3, by decide, rfl⟩
    · exact ⟨5, by decide, rfl⟩
    · exact ⟨6, by decide, rfl⟩
theorem must_cls {mm : Nat} (hmm : mm = 1 ∨ mm = 2) {i c : Nat} (h : (cls mm).getD i none = some c) : must mm c ∧ ∀ i', (cls mm).getD i' none = some c → i' = i := by
  rcases hmm with rfl | rfl
  · match i, h with
    | 0, h => cases h; exact ⟨.inl (by omega), fun i' h' => by match i', h' with | 0, h' => (first | rfl | cases h') | 1, h' => (first | rfl | cases h') | 2, h' => (first | rfl | cases h') | 3, h' => (first | rfl | cases h') | 4, h' => (first | rfl | cases h') | 5, h' => (first | rfl | cases h') | _ + 6, h' => cases h'⟩
    | 1, h => cases h; exact ⟨.inr (by omega), fun i' h' => by match i', h' with | 0, h' => (first | rfl | cases h') | 1, h' => (first | rfl | cases h') | 2, h' => (first | rfl | cases h') | 3, h' => (first | rfl | cases h') | 4, h' => (first | rfl | cases h') | 5, h' => (first | rfl | cases h') | _ + 6, h' => cases h'⟩
    | 2, h => cases h; exact ⟨.inr (by omega), fun i' h' => by match i', h' with | 0, h' => (first | rfl | cases h') | 1, h' => (first | rfl | cases h') | 2, h' => (first | rfl | cases h') | 3, h' => (first | rfl | cases h') | 4, h' => (first | rfl | cases h') | 5, h' => (first | rfl | cases h') | _ + 6, h' => cases h'⟩
    | 4, h => cases h; exact ⟨.inr (by omega), fun i' h' => by match i', h' with | 0, h' => (first | rfl | cases h') | 1, h' => (first | rfl | cases h') | 2, h' => (first | rfl | cases h') | 3, h' => (first | rfl | cases h') | 4, h' => (first | rfl | cases h') | 5, h' => (first | rfl | cases h') | _ + 6, h' => cases h'⟩
    | 5, h => cases h; exact ⟨.inr (by omega), fun i' h' => by match i', h' with | 0, h' => (first | rfl | cases h') | 1, h' => (first | rfl | cases h') | 2, h' => (first | rfl | cases h') | 3, h' => (first | rfl | cases h') | 4, h' => (first | rfl | cases h') | 5, h' => (first | rfl | cases h') | _ + 6, h' => cases h'⟩
  · match i, h with
    | 0, h => cases h; exact ⟨.inl (by omega), fun i' h' => by match i', h' with | 0, h' => (first | rfl | cases h') | 1, h' => (first | rfl | cases h') | 2, h' => (first | rfl | cases h') | 3, h' => (first | rfl | cases h') | 4, h' => (first | rfl | cases h') | 5, h' => (first | rfl | cases h') | 6, h' => (first | rfl | cases h') | _ + 7, h' => cases h'⟩
    | 1, h => cases h; exact ⟨.inl (by omega), fun i' h' => by match i', h' with | 0, h' => (first | rfl | cases h') | 1, h' => (first | rfl | cases h') | 2, h' => (first | rfl | cases h') | 3, h' => (first | rfl | cases h') | 4, h' => (first | rfl | cases h') | 5, h' => (first | rfl | cases h') | 6, h' => (first | rfl | cases h') | _ + 7, h' => cases h'⟩
    | 2, h => cases h; exact ⟨.inr (by omega), fun i' h' => by match i', h' with | 0, h' => (first | rfl | cases h') | 1, h' => (first | rfl | cases h') | 2, h' => (first | rfl | cases h') | 3, h' => (first | rfl | cases h') | 4, h' => (first | rfl | cases h') | 5, h' => (first | rfl | cases h') | 6, h' => (first | rfl | cases h') | _ + 7, h' => cases h'⟩
    | 3, h => cases h; exact ⟨.inr (by omega), fun i' h' => by match i', h' with | 0, h' => (first | rfl | cases h') | 1, h' => (first | rfl | cases h') | 2, h' => (first | rfl | cases h') | 3, h' => (first | rfl | cases h') | 4, h' => (first | rfl | cases h') | 5, h' => (first | rfl | cases h') | 6, h' => (first | rfl | cases h') | _ + 7, h' => cases h'⟩
    | 5, h => cases h; exact ⟨.inr (by omega), fun i' h' => by match i', h' with | 0, h' => (first | rfl | cases h') | 1, h' => (first | rfl | cases h') | 2, h' => (first | rfl | cases h') | 3, h' => (first | rfl | cases h') | 4, h' => (first | rfl | cases h') | 5, h' => (first | rfl | cases h') | 6, h' => (first | rfl | cases h') | _ + 7, h' => cases h'⟩
    | 6, h => cases h; exact ⟨.inr (by omega), fun i' h' => by match i', h' with | 0, h' => (first | rfl | cases h') | 1, h' => (first | rfl | cases h') | 2, h' => (first | rfl | cases h') | 3, h' => (first | rfl | cases h') | 4, h' => (first | rfl | cases h') | 5, h' => (first | rfl | cases h') | 6, h' => (first | rfl | cases h') | _ + 7, h' => cases h'⟩
/-- in each window of a block's length each has its turn -/
theorem turns {mm r : Nat} (hmm : mm = 1 ∨ mm = 2) (hr : r < BK.wid mm) {c : Nat} (h : must mm c) {k : Nat} (hk : BK.wid mm ≤ k + 1) : ∃ j, k + 1 ≤ j + BK.wid mm ∧ j ≤ k ∧ csB mm r j = some c := by
  obtain ⟨i, i1, i2⟩ := cls_must hmm h
  obtain ⟨p, p1, p2⟩ : ∃ p, p < BK.wid mm ∧ ix mm r p = i := by
    by_cases q : r ≤ i
    · refine ⟨i - r, by omega, ?_⟩
      unfold ix
      rw [if_pos (by omega)]
      omega
    · refine ⟨i + BK.wid mm - r, by omega, ?_⟩
      unfold ix
      rw [if_neg (by omega)]
      omega
  have hm : (k - p) % BK.wid mm < BK.wid mm := Nat.mod_lt _ (by omega)
  have hd := Nat.div_add_mod (k - p) (BK.wid mm)
  have hle : (k - p) % BK.wid mm ≤ k - p := Nat.mod_le _ _
  refine ⟨k - (k - p) % BK.wid mm, by omega, by omega, ?_⟩
  have e : (k - (k - p) % BK.wid mm) % BK.wid mm = p := by
    have : k - (k - p) % BK.wid mm = p + BK.wid mm * ((k - p) / BK.wid mm) := by omega
    rw [this, Nat.add_mul_mod_self_left, Nat.mod_eq_of_lt p1]
  rw [csB_eq hmm hr, e, p2]
  exact i2
theorem once {mm r : Nat} (hmm : mm = 1 ∨ mm = 2) (hr : r < BK.wid mm) {c j k : Nat} (h1 : csB mm r k = some c) (h2 : csB mm r j = some c) (h3 : k < j) : k + BK.wid mm ≤ j := by
  rw [csB_eq hmm hr] at h1 h2
  have e := (must_cls hmm h1).2 _ h2
  have hj : j % BK.wid mm < BK.wid mm := Nat.mod_lt _ (by omega)
  have hk : k % BK.wid mm < BK.wid mm := Nat.mod_lt _ (by omega)
  have e2 : j % BK.wid mm = k % BK.wid mm := by
    unfold ix at e
    split at e <;> split at e <;> omega
  have d1 := Nat.div_add_mod j (BK.wid mm)
  have d2 := Nat.div_add_mod k (BK.wid mm)
  have hlt : k / BK.wid mm < j / BK.wid mm := by
    rcases Nat.lt_or_ge (k / BK.wid mm) (j / BK.wid mm) with h | h
    · exact h
    · have := Nat.mul_le_mul_left (BK.wid mm) h
      omega
  have := Nat.mul_le_mul_left (BK.wid mm) (show k / BK.wid mm + 1 ≤ j / BK.wid mm from hlt)
  rw [Nat.mul_succ] at this
  omega
/-! one operation is left out -/
def csO (mm r k j : Nat) : Option Nat := if j = k then none else csB mm r j
def useR : OpR := ⟨10, 0, 0, 0, 0, []⟩
theorem fairA {mm r : Nat} (hmm : mm = 1 ∨ mm = 2) (hr : r < BK.wid mm) {n w : Nat} (hw : BK.wid mm ≤ w) (hn : n ≤ 2000) : fairB mm (csB mm r) n (w : Int) = true :=
  fair_pos hmm hw hn fun _ hc _ hk _ => turns hmm hr hc hk
theorem fairO {mm r : Nat} (hmm : mm = 1 ∨ mm = 2) (hr : r < BK.wid mm) {n k : Nat} (hk : k + BK.wid mm ≤ n) (hn : n ≤ 2000) : fairB mm (csO mm r k) n (BK.wid mm : Int) = (csB mm r k).isNone := by
  have hwid : 1 ≤ BK.wid mm := by omega
  cases e : csB mm r k with
  | none =>
    have : csO mm r k = csB mm r := by
      funext j
      unfold csO
      split
      · rename_i q; rw [q, e]
      · rfl
    rw [this]
    exact fairA hmm hr (Nat.le_refl _) hn
  | some c =>
    refine fair_neg hmm hn hwid hk (c := c) ?_ fun j h1 h2 h3 => ?_
    · rw [csB_eq hmm hr] at e
      exact (must_cls hmm e).1
    · unfold csO at h3
      split at h3
      · cases h3
      · have := once hmm hr e h3 (by omega)
        omega
theorem need_of {cl : Option Nat} {mm cap : Int} {o : OpR} (h : ClsP cl mm cap o) : need o.kind = !cl.isNone := by
  unfold ClsP at h
  split at h
  · obtain ⟨rfl, _⟩ := h; rfl
  · obtain ⟨rfl, _⟩ := h; rfl
  · obtain ⟨a, _, _, rfl⟩ := h; rfl
  · subst h; rfl
  · obtain ⟨rfl, _⟩ := h; rfl
  · subst h; rfl
  · obtain ⟨_, _, K, M, A, B, C, _, _, _, _, _, rfl⟩ := h
    unfold mixF
    split <;> rfl
  · cases h
theorem good_set {mm r : Nat} (hmm : mm = 1 ∨ mm = 2) {cap : Int} {Bs : List OpR} (hg : LB.Good mm r cap Bs) (k : Nat) : ∀ (j : Nat) o, (Bs.set k useR)[j]? = some o → ClsP (csO mm r k j) mm cap o := fun j o h => by
  unfold csO
  by_cases q : j = k
  · subst q
    have hl : j < Bs.length := by
      have := (List.getElem?_eq_some_iff.1 h).1
      rwa [List.length_set] at this
    rw [List.getElem?_set_self hl] at h
    cases h
    rw [if_pos rfl]
    rcases hmm with rfl | rfl
    · exact ⟨by decide, by decide, 7, 0, 0, 0, 0, by unfold u8r; decide, by unfold u8r; decide, by unfold u8r; decide, by unfold u8r; decide, by unfold u8r; decide, rfl⟩
    · exact ⟨by decide, by decide, 7, 0, 0, 0, 0, by unfold u8r; decide, by unfold u8r; decide, by unfold u8r; decide, by unfold u8r; decide, by unfold u8r; decide, rfl⟩
  · rw [List.getElem?_set_ne (fun e => q e.symm)] at h
    rw [if_neg q]
    exact hg j o h
theorem opV_len (o : OpR) : (opV o).length = 6 := rfl
theorem cells_take : ∀ (Bs : List OpR) (k : Nat), (cellsR Bs).take (k * 6) = cellsR (Bs.take k)
  | [], k => by simp [cellsR]
  | o :: Bs, 0 => by simp [cellsR]
  | o :: Bs, k + 1 => by
    have := cells_take Bs k
    simp only [cellsR, List.flatMap_cons, List.take_succ_cons] at this ⊢
    rw [show (k + 1) * 6 = (opV o).length + k * 6 by rw [opV_len]; omega, List.take_length_add_append, this]
theorem cells_drop : ∀ (Bs : List OpR) (k : Nat), (cellsR Bs).drop (k * 6) = cellsR (Bs.drop k)
  | [], k => by simp [cellsR]
  | o :: Bs, 0 => by simp [cellsR]
  | o :: Bs, k + 1 => by
    have := cells_drop Bs k
    simp only [cellsR, List.flatMap_cons, List.drop_succ_cons] at this ⊢
    rw [show (k + 1) * 6 = (opV o).length + k * 6 by rw [opV_len]; omega, List.drop_length_add_append, this]
theorem over_set {Bs : List OpR} {k : Nat} (hk : k < Bs.length) (u : OpR) : over (cellsR Bs) (opV u) (k * 6) = cellsR (Bs.set k u) := by
  unfold over
  rw [opV_len, show k * 6 + 6 = (k + 1) * 6 by omega, cells_take, cells_drop, List.set_eq_take_append_cons_drop, if_pos hk, cellsR_app]
  simp only [cellsR, List.flatMap_cons, List.append_assoc]
end FP
end Go.Proofs.YtcbggkejlhifpaaGreatDoor

/- estrayref41.Text: what it returns, whatever the results: the walk. -/
import Derived.Test.YtfmcmolhkmjemaaGreatDoorRt1
import Derived.Test.YtfmcmolhkmjemaaGreatDoorJb
namespace Go.Ev
open Go.RowKit
/-- all blocks from m on are forgotten -/
theorem drop {ρ0 : Ren} {h0 : H} {w0 : World} {st : St} {sz m : Nat} {l : List (Nat × V)} {base : T O} {a : Act} {w : World} (hA : At ρ0 h0 w0 st a w) (hsz : sz ≤ st.env.sz) (hd : st.defs = []) (hT : hasT st.env l) (h1 : h0.next ≤ m) (h2 : 1000 ≤ h0.next)
    (hb : ∀ b x, base.get b = some x → b < m ∧ okO m x ∧ st.h.tr.get b = some x) (hl : ∀ p, p ∈ l → okB m p.2 = true) : At ρ0 h0 w0 ⟨envL sz l, ⟨base, m⟩, []⟩ a w := by
  let f : Nat → Option Nat := fun b => if b < m then some b else none
  have fl : ∀ b, b < m → f b = some b := fun b hb => by simp [f, hb]
  have fv : ∀ b x, f b = some x → b < m ∧ x = b := fun b x h => by
    simp only [f] at h
    split at h
    · cases h; exact ⟨by assumption, rfl⟩
    · cases h
  have hr : ∀ {ρ ρ' : Ren}, (∀ b b2, f b = some b2 → ρ' b = ρ b2) → ∀ b, b < m → ρ' b = ρ b := fun h b hb => h b b (fl b hb)
  refine at_rename hA f (fun b hb => fl b (by omega)) h1 (fun b x hx => (fv b x hx).1) h2 (fun b1 b2 x q1 q2 => by rw [← (fv _ _ q1).2, ← (fv _ _ q2).2]) (fun b x hx => ?_) hsz (fun t0 v hv => ?_) hd
  · obtain ⟨q1, q2, q3⟩ := hb b x hx
    exact ⟨b, x, fl b q1, q3, id, fun ρ ρ' h L c hc => okO_rel q2 (hr h) hc⟩
  · have hv : (putL l).get t0 = some v := hv
    refine ⟨v, hasT_get hT t0 v hv, fun ρ ρ' h c hc => ?_⟩
    have hmem : ∀ (l : List (Nat × V)), (putL l).get t0 = some v → ∃ p, p ∈ l ∧ p.2 = v := by
      intro l
      induction l with
      | nil => intro h; simp [putL, T.get_leaf] at h
      | cons p l ih =>
        intro h
        simp only [putL, T.get_put] at h
        split at h
        · cases h; exact ⟨p, by simp, rfl⟩
        · obtain ⟨p', h1, h2⟩ := ih h; exact ⟨p', by simp [h1], h2⟩
    obtain ⟨p, p1, p2⟩ := hmem l hv
    exact okB_rel (p2 ▸ hl p p1) (hr h) hc
end Go.Ev
namespace Go.Proofs.YtfmcmolhkmjemaaGreatDoor
set_option maxRecDepth 100000
open Go.Ev Go.RowKit
/-- results, as cells -/
def resC : List (Int × Int) → List V
  | [] => []
  | p :: l => .int .i64 p.1 :: .int .i64 p.2 :: resC l
theorem resC_len : ∀ l, (resC l).length = 2 * l.length
  | [] => rfl
  | p :: l => by simp only [resC, List.length_cons, resC_len l]; omega
theorem resC_get : ∀ {l : List (Int × Int)} {k : Nat} {x y : Int}, l[k]? = some (x, y) → (resC l)[2 * k]? = some (.int .i64 x) ∧ (resC l)[2 * k + 1]? = some (.int .i64 y)
  | p :: l, 0, x, y, h => by simp at h; subst h; exact ⟨rfl, rfl⟩
  | p :: l, k + 1, x, y, h => by
    have h : l[k]? = some (x, y) := by simpa using h
    have := resC_get h
    rw [show 2 * (k + 1) = (2 * k + 1) + 1 by omega]
    simp only [resC, List.getElem?_cons_succ]
    exact this
theorem resC_int : ∀ {l : List (Int × Int)} {v : V}, v ∈ resC l → ∃ x, v = .int .i64 x
  | p :: l, v, h => by
    simp only [resC, List.mem_cons] at h
    rcases h with rfl | rfl | h
    · exact ⟨_, rfl⟩
    · exact ⟨_, rfl⟩
    · exact resC_int h
/-- is it no result? -/
def badR (x y : Int) : Prop := x < 0 ∨ 17 < x ∨ y < 0 ∨ (x ≠ 0 ∧ y ≠ 0)
/-- a line -/
noncomputable def lineR (s : List UInt8) (p : Int × Int) : List UInt8 := s ++ digF p.1 ++ [32] ++ digF p.2 ++ [10]
/-- the lines of the first results -/
noncomputable def linesTo (xs : List (Int × Int)) (k : Nat) : List UInt8 := (xs.take k).foldl lineR []
def okTo (xs : List (Int × Int)) (k : Nat) : Prop := ∀ j, j < k → ∀ x y, xs[j]? = some (x, y) → ¬ badR x y
open Classical in
noncomputable def resV (xs : List (Int × Int)) : V := if 2000 < xs.length then .tuple [.str [], .int .i64 (Int.ofNat 11)] else if okTo xs xs.length then .tuple [.str (linesTo xs xs.length), .int .i64 (Int.ofNat 0)] else .tuple [.str [], .int .i64 (Int.ofNat 2)]
theorem linesTo_succ {xs : List (Int × Int)} {k : Nat} {p : Int × Int} (h : xs[k]? = some p) : linesTo xs (k + 1) = lineR (linesTo xs k) p := by
  have hk := (List.getElem?_eq_some_iff.1 h).1
  have e : xs.take (k + 1) = xs.take k ++ [p] := by
    rw [List.take_add_one, h]; rfl
  unfold linesTo
  rw [e, List.foldl_append]
  rfl
theorem dig_le {x : Int} (h0 : 0 ≤ x) (h1 : x < 9223372036854775808) : (digF x).length ≤ 20 := by
  obtain ⟨n, rfl⟩ := Int.eq_ofNat_of_zero_le h0
  exact DT.dig_len 19 n (by have : (10 : Nat) ^ 20 = 100000000000000000000 := rfl; omega)
namespace RT
theorem tyR : ∃ t, GR.ty tRes = some t ∧ t.agg = true ∧ t.size = 2 := by
  have : (match GR.ty tRes with | some t => t.agg && Nat.beq t.size 2 | none => false) = true := by kernel_rfl
  revert this
  cases GR.ty tRes with
  | none => intro h; cases h
  | some t =>
    intro h
    simp only [Bool.and_eq_true, T.beq_true] at h
    exact ⟨t, rfl, h.1, h.2⟩
theorem ldR_eq {xs : List (Int × Int)} {k : Nat} {x y : Int} (h : xs[k]? = some (x, y)) : ldR k (resC xs) = some (.agg 2 [.int .i64 x, .int .i64 y] .leaf) := by
  obtain ⟨t, t1, t2, t3⟩ := tyR
  obtain ⟨g1, g2⟩ := resC_get h
  have hb : (hI (resC xs)).tr.get 1000 = some (.ro none (resC xs).length (resC xs) .leaf) := by simp only [hI, T.get_put, if_pos]
  have hg : gather (resC xs).length (resC xs) .leaf (Nat.add 0 (Nat.mul k 2)) 2 = some [.int .i64 x, .int .i64 y] := gather_all _ _ _ rfl fun j v hj => by
    have e : Nat.add 0 (Nat.mul k 2) = 2 * k := by show 0 + k * 2 = _; omega
    rw [e]
    match j, hj with
    | 0, hj => cases hj; exact leaf_cell g1
    | 1, hj => cases hj; exact leaf_cell g2
  unfold ldR rLoad
  rw [t1]
  simp only [hb, t2, t3, Ev.partAt]
  split
  · rename_i q
    simp only [Bool.and_eq_true, T.beq_true] at q
    have hk : k = 0 := by have : 0 + k * 2 = 0 := q.1; omega
    subst hk
    have hl : xs.length = 1 := by have := resC_len xs; omega
    match xs, hl with
    | [p], _ => cases h; rfl
  · rw [hg]
    rfl
theorem ne_of {z : Int} (h : (!ieq z (Int.ofNat 0)) = true) : z ≠ 0 := by
  cases q : ieq z (Int.ofNat 0) with
  | true => rw [q] at h; cases h
  | false => have := ieq_f.1 q; simp only [iofn] at this; omega
theorem eq_of {z : Int} (h : (!ieq z (Int.ofNat 0)) = false) : z = 0 := by
  cases q : ieq z (Int.ofNat 0) with
  | true => have := ieq_t.1 q; simp only [iofn] at this; omega
  | false => rw [q] at h; cases h
theorem round {xs : List (Int × Int)} {c : Cap} {i : Nat} (hx : ∀ p, p ∈ xs → -9223372036854775808 ≤ p.1 ∧ p.1 < 9223372036854775808 ∧ -9223372036854775808 ≤ p.2 ∧ p.2 < 9223372036854775808) (hi : i ≤ xs.length) {s : List UInt8} (hs : s.length ≤ 100000000) :
    evW GR sp 40 bd none iRText (S (inv xs.length c s (Int.ofNat i)) (hI (resC xs))) (K5 xs.length c (resC xs) (Int.ofNat i) (fun s' => ∃ x y, xs[i]? = some (x, y) ∧ ¬ badR x y ∧ s' = lineR s (x, y)) (fun v => (∃ x y, xs[i]? = some (x, y) ∧ badR x y) ∧ v = .tuple [.str [], .int .i64 (Int.ofNat 2)]) (i = xs.length) s) := by
  refine Eq.mpr (RT.w5 ..) ⟨fun h => ?_, fun h => ?_⟩
  · have h1 := ilt_t.1 h
    simp only [iofn] at h1
    have hlt : i < xs.length := by omega
    obtain ⟨x, y, hxy⟩ : ∃ x y, xs[i]? = some (x, y) := ⟨xs[i].1, xs[i].2, List.getElem?_eq_getElem hlt⟩
    obtain ⟨b1, b2, b3, b4⟩ := hx (x, y) (List.mem_of_getElem? hxy)
    have b1 : -9223372036854775808 ≤ x := b1
    have b2 : x < 9223372036854775808 := b2
    have b3 : -9223372036854775808 ≤ y := b3
    have b4 : y < 9223372036854775808 := b4
    have hl := ldR_eq hxy
    refine ⟨rfl, h, ⟨_, hl, rfl, rfl, trivial⟩, fun y0 y1 hy => ?_⟩
    rw [hl] at hy
    cases hy
    have bad : ∀ (q : badR x y), (fun v => (∃ x y, xs[i]? = some (x, y) ∧ badR x y) ∧ v = V.tuple [.str [], .int .i64 (Int.ofNat 2)]) (V.tuple [.str [], .int .i64 (Int.ofNat 2)]) := fun q => ⟨⟨x, y, hxy, q⟩, rfl⟩
    have good : 0 ≤ x → ¬ 17 < x → 0 ≤ y → (x = 0 ∨ y = 0) → ∃ x' y', xs[i]? = some (x', y') ∧ ¬ badR x' y' ∧ s ++ digF x ++ [32] ++ digF y ++ [10] = lineR s (x', y') := fun q1 q2 q3 q4 => ⟨x, y, hxy, by unfold badR; omega, rfl⟩
    have w1 : 0 ≤ x → wr .u64 x = x := fun q => by obtain ⟨n, rfl⟩ := Int.eq_ofNat_of_zero_le q; exact DT.wrU (by omega)
    have w2 : 0 ≤ y → wr .u64 y = y := fun q => by obtain ⟨n, rfl⟩ := Int.eq_ofNat_of_zero_le q; exact DT.wrU (by omega)
    have i1 : 0 ≤ x → DT.inB 9223372036854775808 x = true := fun q => DT.inB_iff.2 ⟨q, by omega⟩
    have i2 : 0 ≤ y → DT.inB 9223372036854775808 y = true := fun q => DT.inB_iff.2 ⟨q, by omega⟩
    refine ⟨fun q => bad (.inl (ilt_t.1 q)), fun q1 => ⟨fun q => bad (.inr (.inl (ilt_t.1 q))), fun q2 => ⟨fun q => bad (.inr (.inr (.inl (ilt_t.1 q)))), fun q3 => ?_⟩⟩⟩
    have p1 := ilt_f.1 q1
    have p2 := ilt_f.1 q2
    have p3 := ilt_f.1 q3
    simp only [iofn] at p1 p2 p3
    have d1 := dig_le (x := x) (by omega) b2
    have d2 := dig_le (x := y) (by omega) b4
    rw [w1 (by omega), w2 (by omega), i1 (by omega), i2 (by omega)]
    have l1 : (s.length.add (digF x).length).ble 1000000000 = true := Nat.ble_eq_true_of_le (by show s.length + _ ≤ _; omega)
    have l2 : ((s ++ digF x).length.add 1).ble 1000000000 = true := Nat.ble_eq_true_of_le (by show (s ++ digF x).length + 1 ≤ _; rw [List.length_append]; omega)
    have l3 : ((s ++ digF x ++ [32]).length.add (digF y).length).ble 1000000000 = true := Nat.ble_eq_true_of_le (by show (s ++ digF x ++ [32]).length + _ ≤ _; simp only [List.length_append, List.length_cons, List.length_nil]; omega)
    have l4 : ((s ++ digF x ++ [32] ++ digF y).length.add 1).ble 1000000000 = true := Nat.ble_eq_true_of_le (by show (s ++ digF x ++ [32] ++ digF y).length + 1 ≤ _; simp only [List.length_append, List.length_cons, List.length_nil]; omega)
    refine ⟨fun q4 => ⟨fun q5 => bad (.inr (.inr (.inr ⟨?_, ?_⟩))), fun q5 => ⟨rfl, l1, l2, rfl, l3, l4, ?_⟩⟩, fun q4 => ⟨rfl, l1, l2, rfl, l3, l4, ?_⟩⟩
    · exact ne_of q4
    · exact ne_of q5
    · exact ⟨⟨⟨trivial, rfl, rfl⟩, ⟨trivial, trivial, rfl⟩, trivial⟩, ⟨good (by omega) (by omega) (by omega) (.inr (eq_of q5)), ⟨rfl, rfl, rfl, trivial⟩, rfl, rfl⟩, rfl⟩
    · exact ⟨⟨⟨trivial, rfl, rfl⟩, ⟨trivial, trivial, rfl⟩, trivial⟩, ⟨good (by omega) (by omega) (by omega) (.inl (eq_of q4)), ⟨rfl, rfl, rfl, trivial⟩, rfl, rfl⟩, rfl⟩
  · have h1 := ilt_f.1 h
    simp only [iofn] at h1
    exact ⟨by omega, rfl, ⟨rfl, trivial⟩, rfl, rfl⟩
end RT
end Go.Proofs.YtfmcmolhkmjemaaGreatDoor

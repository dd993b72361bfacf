/- play.Text: one round of its loop. -/
import Derived.Test.YtfmcmolhkmjemaaGreatDoorTx1
namespace Go.Proofs.YtfmcmolhkmjemaaGreatDoor
set_option maxRecDepth 100000
open Go.Ev Go.RowKit
/-- a line by itself -/
noncomputable def line1 (x y : Int) : List UInt8 := digF x ++ [32] ++ digF y ++ [10]
theorem lineR_eq (s : List UInt8) (x y : Int) : lineR s (x, y) = s ++ line1 x y := by simp [lineR, line1]
namespace PT
theorem load {xs : List (Int × Int)} {k : Nat} {x y : Int} (h : xs[k]? = some (x, y)) {H0 : H} (hb : H0.tr.get 1000 = some (.ro none (resC xs).length (resC xs) .leaf)) : rLoad (GP.ty tRes) H0 (some (.ptr 1000 (Nat.add 0 (Nat.mul k 2)))) = some (.agg 2 [.int .i64 x, .int .i64 y] .leaf) := by
  have h1 := RT.ldR_eq h
  unfold RT.ldR rLoad at h1
  unfold rLoad
  have e : (RT.hI (resC xs)).tr.get 1000 = some (.ro none (resC xs).length (resC xs) .leaf) := by simp only [RT.hI, T.get_put, if_pos]
  have t : GP.ty tRes = RT.GR.ty tRes := rfl
  rw [t]
  obtain ⟨ty, t1, _, _⟩ := RT.tyR
  rw [t1] at h1 ⊢
  simp only [e] at h1
  simp only [hb]
  exact h1
/-- what a round leaves -/
def QW (xs : List (Int × Int)) (i r m : Nat) (W : List V) (o1 o2 : O) : Prop := ∃ x y, xs[i]? = some (x, y) ∧ ¬ badR x y ∧ o1 = bO (.ptr 1001 0) (ou r (m + (line1 x y).length)) ∧ o2 = .cells (some tByte) (W ++ byts (line1 x y)).length (W ++ byts (line1 x y)) .leaf
def RB (xs : List (Int × Int)) (i : Nat) (v : V) : Prop := (∃ x y, xs[i]? = some (x, y) ∧ badR x y) ∧ v = .tuple [.str [], .int .i64 (Int.ofNat 2)]
/-- what the first round leaves -/
def QA (xs : List (Int × Int)) (i : Nat) (o1 o2 : O) : Prop := ∃ x y, xs[i]? = some (x, y) ∧ ¬ badR x y ∧ o1 = bO (.ptr 1001 0) (ou 1013 (line1 x y).length) ∧ o2 = .cells (some tByte) (byts (line1 x y)).length (byts (line1 x y)) .leaf
theorem roundA {xs : List (Int × Int)} {c : Cap} {i : Nat} (hx : inR xs) (hi : i ≤ xs.length) :
    evW GP sp 40 bd none iText (S (inv xs.length c (Int.ofNat i)) (hF (resC xs) 1002)) (K5 xs.length c (resC xs) 1013 (Int.ofNat i) (QA xs i) (RB xs i) (i = xs.length) (hF (resC xs) 1002)) := by
  refine Eq.mpr (PT.w5A ..) ⟨fun h => ?_, fun h => ?_⟩
  · have h1 := ilt_t.1 h
    simp only [iofn] at h1
    have hlt : i < xs.length := by omega
    obtain ⟨x, y, hxy⟩ : ∃ x y, xs[i]? = some (x, y) := ⟨xs[i].1, xs[i].2, List.getElem?_eq_getElem hlt⟩
    obtain ⟨b1, b2, b3, b4⟩ := hx (x, y) (List.mem_of_getElem? hxy)
    have b2 : x < 9223372036854775808 := b2
    have b4 : y < 9223372036854775808 := b4
    have hl : ldF i (resC xs) = _ := load (H0 := hF (resC xs) 1002) hxy (by simp only [hF, base, T.get_put]; rfl)
    refine ⟨rfl, h, ⟨_, hl, rfl, rfl, trivial⟩, fun y0 y1 hy => ?_⟩
    rw [hl] at hy
    cases hy
    have bad : ∀ (_ : badR x y), RB xs i (V.tuple [.str [], .int .i64 (Int.ofNat 2)]) := fun q => ⟨⟨x, y, hxy, q⟩, rfl⟩
    have i1 : 0 ≤ x → DT.inB 9223372036854775808 x = true := fun q => DT.inB_iff.2 ⟨q, by omega⟩
    have i2 : 0 ≤ y → DT.inB 9223372036854775808 y = true := fun q => DT.inB_iff.2 ⟨q, by omega⟩
    refine ⟨fun q => bad (.inl (ilt_t.1 q)), fun q1 => ⟨fun q => bad (.inr (.inl (ilt_t.1 q))), fun q2 => ⟨fun q => bad (.inr (.inr (.inl (ilt_t.1 q)))), fun q3 => ?_⟩⟩⟩
    have p1 := ilt_f.1 q1
    have p2 := ilt_f.1 q2
    have p3 := ilt_f.1 q3
    simp only [iofn] at p1 p2 p3
    have d1 := dig_le (x := x) (by omega) b2
    have d2 := dig_le (x := y) (by omega) b4
    rw [i1 (by omega), i2 (by omega)]
    have l1 : ((digF x).length.add 1).ble 1000000000 = true := Nat.ble_eq_true_of_le (by show _ + 1 ≤ _; omega)
    have l2 : ((digF x ++ [32]).length.add (digF y).length).ble 1000000000 = true := Nat.ble_eq_true_of_le (by show (digF x ++ [32]).length + _ ≤ _; simp only [List.length_append, List.length_cons, List.length_nil]; omega)
    have l3 : ((digF x ++ [32] ++ digF y).length.add 1).ble 1000000000 = true := Nat.ble_eq_true_of_le (by show (digF x ++ [32] ++ digF y).length + 1 ≤ _; simp only [List.length_append, List.length_cons, List.length_nil]; omega)
    have hlen : (digF x ++ [32] ++ digF y ++ [10]).length ≤ 42 := by simp only [List.length_append, List.length_cons, List.length_nil]; omega
    have hpos : 0 < (digF x ++ [32] ++ digF y ++ [10]).length := by simp only [List.length_append, List.length_cons, List.length_nil]; omega
    have l4 : (!(Nat.blt 0 (digF x ++ [32] ++ digF y ++ [10]).length && (digF x ++ [32] ++ digF y ++ [10]).length.ble 100000)) = false := by
      have e3 : Nat.blt 0 (digF x ++ [32] ++ digF y ++ [10]).length = true := blt_t.2 hpos
      have e4 : (digF x ++ [32] ++ digF y ++ [10]).length.ble 100000 = true := Nat.ble_eq_true_of_le (by omega)
      rw [e3, e4]; rfl
    have good : (x = 0 ∨ y = 0) → QA xs i (bO (.ptr 1001 0) (ou 1013 (digF x ++ [32] ++ digF y ++ [10]).length)) (.cells (some tByte) (byts (digF x ++ [32] ++ digF y ++ [10])).length (byts (digF x ++ [32] ++ digF y ++ [10])) .leaf) := fun q => ⟨x, y, hxy, by unfold badR; omega, rfl, rfl⟩
    refine ⟨fun q4 => ⟨fun q5 => bad (.inr (.inr (.inr ⟨RT.ne_of q4, RT.ne_of q5⟩))), fun q5 => ⟨rfl, l1, rfl, l2, l3, l4, ?_, good (.inr (RT.eq_of q5)), ?_⟩⟩, fun q4 => ⟨rfl, l1, rfl, l2, l3, l4, ?_, good (.inl (RT.eq_of q4)), ?_⟩⟩
    all_goals repeat' (first | exact rfl | exact trivial | apply And.intro)
  · have h1 := ilt_f.1 h
    simp only [iofn] at h1
    refine ⟨by omega, ?_⟩
    repeat' (first | exact rfl | exact trivial | apply And.intro)
theorem roundB {xs : List (Int × Int)} {c : Cap} {i : Nat} (hx : inR xs) (hi : i ≤ xs.length) {m : Nat} {W : List V} (hW0 : W.length = m) (hm : m ≤ 90000) :
    evW GP sp 40 bd none iText (S (inv xs.length c (Int.ofNat i)) (hW (resC xs) m W 1003)) (K5 xs.length c (resC xs) 1014 (Int.ofNat i) (QW xs i 1014 m W) (RB xs i) (i = xs.length) (hW (resC xs) m W 1003)) := by
  refine Eq.mpr (PT.w5B ..) ⟨fun h => ?_, fun h => ?_⟩
  · have h1 := ilt_t.1 h
    simp only [iofn] at h1
    have hlt : i < xs.length := by omega
    obtain ⟨x, y, hxy⟩ : ∃ x y, xs[i]? = some (x, y) := ⟨xs[i].1, xs[i].2, List.getElem?_eq_getElem hlt⟩
    obtain ⟨b1, b2, b3, b4⟩ := hx (x, y) (List.mem_of_getElem? hxy)
    have b2 : x < 9223372036854775808 := b2
    have b4 : y < 9223372036854775808 := b4
    have hl : ldW i (resC xs) m W = _ := load (H0 := hW (resC xs) m W 1003) hxy (by simp only [hW, base, T.get_put]; rfl)
    refine ⟨rfl, h, ⟨_, hl, rfl, rfl, trivial⟩, fun y0 y1 hy => ?_⟩
    rw [hl] at hy
    cases hy
    have bad : ∀ (_ : badR x y), RB xs i (V.tuple [.str [], .int .i64 (Int.ofNat 2)]) := fun q => ⟨⟨x, y, hxy, q⟩, rfl⟩
    have i1 : 0 ≤ x → DT.inB 9223372036854775808 x = true := fun q => DT.inB_iff.2 ⟨q, by omega⟩
    have i2 : 0 ≤ y → DT.inB 9223372036854775808 y = true := fun q => DT.inB_iff.2 ⟨q, by omega⟩
    refine ⟨fun q => bad (.inl (ilt_t.1 q)), fun q1 => ⟨fun q => bad (.inr (.inl (ilt_t.1 q))), fun q2 => ⟨fun q => bad (.inr (.inr (.inl (ilt_t.1 q)))), fun q3 => ?_⟩⟩⟩
    have p1 := ilt_f.1 q1
    have p2 := ilt_f.1 q2
    have p3 := ilt_f.1 q3
    simp only [iofn] at p1 p2 p3
    have d1 := dig_le (x := x) (by omega) b2
    have d2 := dig_le (x := y) (by omega) b4
    rw [i1 (by omega), i2 (by omega)]
    have l1 : ((digF x).length.add 1).ble 1000000000 = true := Nat.ble_eq_true_of_le (by show _ + 1 ≤ _; omega)
    have l2 : ((digF x ++ [32]).length.add (digF y).length).ble 1000000000 = true := Nat.ble_eq_true_of_le (by show (digF x ++ [32]).length + _ ≤ _; simp only [List.length_append, List.length_cons, List.length_nil]; omega)
    have l3 : ((digF x ++ [32] ++ digF y).length.add 1).ble 1000000000 = true := Nat.ble_eq_true_of_le (by show (digF x ++ [32] ++ digF y).length + 1 ≤ _; simp only [List.length_append, List.length_cons, List.length_nil]; omega)
    have hlen : (digF x ++ [32] ++ digF y ++ [10]).length ≤ 42 := by simp only [List.length_append, List.length_cons, List.length_nil]; omega
    have hpos : 0 < (digF x ++ [32] ++ digF y ++ [10]).length := by simp only [List.length_append, List.length_cons, List.length_nil]; omega
    have l4 : (!(m.beq m && W.length.beq m && W.length.beq m && Nat.blt 0 (digF x ++ [32] ++ digF y ++ [10]).length && (m + (digF x ++ [32] ++ digF y ++ [10]).length).ble 100000)) = false := by
      have e1 : m.beq m = true := (T.beq_true).2 rfl
      have e2 : W.length.beq m = true := (T.beq_true).2 hW0
      have e3 : Nat.blt 0 (digF x ++ [32] ++ digF y ++ [10]).length = true := blt_t.2 hpos
      have e4 : (m + (digF x ++ [32] ++ digF y ++ [10]).length).ble 100000 = true := Nat.ble_eq_true_of_le (by omega)
      rw [e1, e2, e3, e4]; rfl
    have good : (x = 0 ∨ y = 0) → QW xs i 1014 m W (bO (.ptr 1001 0) (ou 1014 (m + (digF x ++ [32] ++ digF y ++ [10]).length))) (.cells (some tByte) (W ++ byts (digF x ++ [32] ++ digF y ++ [10])).length (W ++ byts (digF x ++ [32] ++ digF y ++ [10])) .leaf) := fun q => ⟨x, y, hxy, by unfold badR; omega, rfl, rfl⟩
    refine ⟨fun q4 => ⟨fun q5 => bad (.inr (.inr (.inr ⟨RT.ne_of q4, RT.ne_of q5⟩))), fun q5 => ⟨rfl, l1, rfl, l2, l3, l4, ?_, good (.inr (RT.eq_of q5)), ?_⟩⟩, fun q4 => ⟨rfl, l1, rfl, l2, l3, l4, ?_, good (.inl (RT.eq_of q4)), ?_⟩⟩
    all_goals repeat' (first | exact rfl | exact trivial | apply And.intro)
  · have h1 := ilt_f.1 h
    simp only [iofn] at h1
    refine ⟨by omega, ?_⟩
    repeat' (first | exact rfl | exact trivial | apply And.intro)
end PT
end Go.Proofs.YtfmcmolhkmjemaaGreatDoor

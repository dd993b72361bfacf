/- estrayref01.Digits is known: the digits. -/
import Derived.Test.YtfmcmolhkmjemaaGreatDoorDg1
namespace Go.Proofs.YtfmcmolhkmjemaaGreatDoor
set_option maxRecDepth 100000
open Go.Ev Go.RowKit
namespace DT
theorem kx_ok (B : Nat) : KxOK (GD B) (kx B) := fun f args h b r1 r2 hk => by
  unfold kx at hk
  split at hk
  · rename_i n hf
    simp only [Option.some.injEq, Prod.mk.injEq] at hk
    obtain ⟨h1, h2, h3⟩ := hk
    refine ⟨fun _ hb => absurd (show bog r1.1 = true by rw [← h2]; rfl) (by rw [hb]; exact Bool.false_ne_true), fun hb => ?_⟩
    have hi : inB B n = true := by
      rw [hb] at h1
      cases q : inB B n with
      | true => rfl
      | false => rw [q] at h1; cases h1
    rw [← h3]
    have hc : canonL [V.int .u64 n] = some [V.int .u64 n] := rfl
    show extL [kD B] f _ h = _
    simp only [extL, kD, hf, known, hc, FD, hi]
  · cases hk
theorem inB_iff {B : Nat} {n : Int} : inB B n = true ↔ 0 ≤ n ∧ n < B := by
  unfold inB
  cases q : ilt n (Int.ofNat 0) with
  | true =>
    have := ilt_t.1 q
    simp only [iofn] at this
    simp
    omega
  | false =>
    have h1 := ilt_f.1 q
    simp only [iofn] at h1
    cases q2 : ilt n (Int.ofNat B) with
    | true => have := ilt_t.1 q2; simp only [iofn] at this; simp; omega
    | false => have := ilt_f.1 q2; simp only [iofn] at this; simp; omega
theorem dig_small {n : Nat} (h : n < 10) : digF (Int.ofNat n) = [UInt8.ofNat (48 + n)] := Lib.decDigits_one h
theorem dig_big {n : Nat} (h : ¬ n < 10) : digF (Int.ofNat n) = digF (Int.ofNat (n / 10)) ++ [UInt8.ofNat (48 + n % 10)] := by
  show Lib.decDigits n = Lib.decDigits (n / 10) ++ _
  rw [Lib.decDigits, dif_neg h]
theorem cut9 {n : Nat} : (Int.ofNat n).tdiv (Int.ofNat 10) = Int.ofNat (n / 10) := by
  show Int.tdiv (n : Int) ((10 : Nat) : Int) = ((n / 10 : Nat) : Int)
  rw [Int.tdiv_eq_ediv_of_nonneg (by omega)]
  rfl
theorem rem9 {n : Nat} : (Int.ofNat n).tmod (Int.ofNat 10) = Int.ofNat (n % 10) := by
  show Int.tmod (n : Int) ((10 : Nat) : Int) = ((n % 10 : Nat) : Int)
  rw [Int.tmod_eq_emod_of_nonneg (by omega)]
  rfl
theorem wrU {m : Nat} (h : m < 9223372036854775808) : wr .u64 (Int.ofNat m) = Int.ofNat m := by
  simp only [wr, IntKind.wrap, IntKind.bits, IntKind.signed, iofn]
  simp
  omega
theorem dig_len : ∀ (k n : Nat), n < 10 ^ (k + 1) → (digF (Int.ofNat n)).length ≤ k + 1
  | 0, n, h => by rw [dig_small (by omega)]; simp
  | k + 1, n, h => by
    by_cases h1 : n < 10
    · rw [dig_small h1]; simp
    · rw [dig_big h1, List.length_append]
      have := dig_len k (n / 10) (by rw [Nat.pow_succ] at h; omega)
      simp only [List.length_cons, List.length_nil]
      omega
theorem dig_known {B : Nat} (hX : ExtOK Tryz.prog (GD B)) (hB : B < 9223372036854775808) : KnownOk Tryz.prog (kD (B + 1)) := by
  refine known_ok (G := GD B) (sp := sp B) (N := 40) (mk_ok _).1 (mk_ok _).2 hX (kx_ok B) fun l v hl => ?_
  unfold FD at hl
  split at hl
  · rename_i x
    split at hl
    · rename_i hi
      cases hl
      obtain ⟨h1, h2⟩ := inB_iff.1 hi
      obtain ⟨n, rfl⟩ := Int.eq_ofNat_of_zero_le h1
      have h2 : n < B + 1 := by omega
      refine ⟨rfl, Eq.mpr (DT.w1 B (Int.ofNat n) fun u => u = .str (digF (Int.ofNat n))) ⟨fun h => ?_, fun h => ?_⟩⟩
      · have h10 := ilt_t.1 h
        simp only [iofn] at h10
        refine ⟨ilt_f.2 (by simp only [iofn]; omega), h, ?_⟩
        repeat' apply And.intro
        all_goals first | trivial | (intro q; show V.str _ = V.str _; rw [q, dig_small (by decide)]; rfl)
      · have h10 := ilt_f.1 h
        simp only [iofn] at h10
        have hn : ¬ n < 10 := by omega
        have hw : wr .u64 ((Int.ofNat n).tdiv (Int.ofNat 10)) = Int.ofNat (n / 10) := by rw [cut9, wrU (by omega)]
        have hlen : ((digF (Int.ofNat (n / 10))).length.add 1).ble 1000000000 = true := by
          have := dig_len 19 (n / 10) (by have : (10 : Nat) ^ 20 = 100000000000000000000 := rfl; omega)
          exact Nat.ble_eq_true_of_le (by show (digF (Int.ofNat (n / 10))).length + 1 ≤ _; omega)
        have hin : inB B (Int.ofNat (n / 10)) = true := inB_iff.2 ⟨by simp only [iofn]; omega, by simp only [iofn]; omega⟩
        have leaf : ∀ k : Nat, Int.ofNat (n % 10) = Int.ofNat k → V.str (digF (Int.ofNat (n / 10)) ++ [UInt8.ofNat (48 + k)]) = V.str (digF (Int.ofNat n)) := fun k q => by
          have q : n % 10 = k := Int.ofNat.inj q
          rw [dig_big hn, q]
        simp only [hw, rem9]
        refine ⟨trivial, by rw [hin]; rfl, trivial, ilt_f.2 (by simp only [iofn]; omega), ilt_t.2 (by simp only [iofn]; omega), ?_⟩
        repeat' apply And.intro
        all_goals first | trivial | exact fun q => ⟨hlen, by repeat' (first | trivial | apply And.intro), leaf _ q⟩
    · cases hl
  · cases hl
theorem dig_ok : ∀ B : Nat, B ≤ 9223372036854775808 → KnownOk Tryz.prog (kD B)
  | 0, _ => fun args h v hv => by
    simp only [kD, known] at hv
    split at hv
    · unfold FD at hv
      split at hv
      · split at hv
        · rename_i q
          have := inB_iff.1 q
          omega
        · cases hv
      · cases hv
    · cases hv
  | B + 1, hB => dig_known (extL_ok (l := [kD B]) (fun x hx => by
      simp only [List.mem_cons, List.not_mem_nil, or_false] at hx
      subst hx
      exact dig_ok B (by omega)) rfl) (by omega)
end DT
end Go.Proofs.YtfmcmolhkmjemaaGreatDoor

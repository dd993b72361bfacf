/- PlayScripts: whatever it is called with, it returns true: the walk. -/
import Derived.Test.YtjbpagfjpdinjaaGreatDoorLw2
namespace Go.Proofs.YtjbpagfjpdinjaaGreatDoor
set_option maxRecDepth 100000
set_option maxHeartbeats 1000000
open Go.Ev Go.RowKit
namespace LT
theorem act2' (c : V) (n : Int) (s : Int) (p q : Nat) : act GL (envL 93 ([(19, c), (20, .int .u64 s), (22, .int .i64 n)] ++ hd s p q)).get (opAt r2 4).op = .call (some (.fn iRandom [c, .int .u64 s, .int .i64 n])) := by kernel_rfl
theorem act3' (c r : V) (n : Int) (s s' : Int) (p q : Nat) : act GL (envL 93 ((29, .int .u64 s') :: ([(27, c), (34, .int .i64 n), (10, r), (11, z0)] ++ hd s p q))).get (opAt r3 8).op = .call (some (.fn iRandom [c, .int .u64 s', .int .i64 n])) := by kernel_rfl
theorem isRan : ∃ fn, Tryz.prog.funcs[iRandom]? = some fn ∧ fn.name ≠ "runtime.NumGoroutine" ∧ ∃ c, fn.body = some c := by
  have h : (match Tryz.prog.funcs[iRandom]? with
    | some f => (f.name == "runtime.NumGoroutine") == false && f.body.isSome
    | .none => false) = true := by kernel_rfl
  split at h
  · rename_i f hf
    simp only [Bool.and_eq_true, beq_iff_eq] at h
    refine ⟨f, hf, fun q => ?_, Option.isSome_iff_exists.1 h.2⟩
    rw [q] at h
    exact absurd h.1 (by decide)
  · cases h
theorem wr8 {p : Nat} (hp : p ≤ 255) : wr .i64 (Int.ofNat p) = Int.ofNat p := by
  rw [wr64 (by simp only [iofn]; omega) (by simp only [iofn]; omega)]
theorem sm_eq {p q : Nat} (hp : p ≤ 255) (hq : q ≤ 255) : sm p q = Int.ofNat (p + q) := by
  unfold sm
  rw [wr8 hp, wr8 hq, iadd, wr64 (by simp only [iofn]; omega) (by simp only [iofn]; omega)]
  rfl
theorem xr_eq {s : Int} (h0 : 0 ≤ s) (h1 : s < 18446744073709551616) : wr .u32 (xr s) = wr .u32 s := by
  obtain ⟨n, rfl⟩ := Int.eq_ofNat_of_zero_le h0
  have e1 : (BitVec.ofInt IntKind.u64.bits (n : Int)).toNat = n := by
    show (BitVec.ofInt 64 (n : Int)).toNat = n
    simp only [BitVec.toNat_ofInt]
    omega
  have e2 : (BitVec.ofInt IntKind.u64.bits 1099511627776).toNat = 2 ^ 40 := rfl
  have e3 : (BitVec.ofInt IntKind.u64.bits (n : Int) ^^^ BitVec.ofInt IntKind.u64.bits 1099511627776).toNat = n ^^^ 2 ^ 40 := by
    rw [BitVec.toNat_xor, e1, e2]
  have hn : n < 2 ^ 64 := by omega
  have h2 : n ^^^ 2 ^ 40 < 2 ^ 64 := Nat.xor_lt_two_pow hn (by decide)
  have e4 : xr (n : Int) = ((n ^^^ 2 ^ 40 : Nat) : Int) := by
    unfold xr
    rw [e3, iofn, wr_u64 (by omega) (by omega)]
  rw [e4, wr_u32 (by omega), wr_u32 (by omega)]
  have e5 : (n ^^^ 2 ^ 40) % 2 ^ 32 = n % 2 ^ 32 := by
    rw [Nat.xor_mod_two_pow]
    simp
  omega
/-- what is drawn again is the same -/
theorem ops_same {x m : Int} {p q : Nat} : ∀ j, j < p → (opsR x m (p + q))[j]? = (opsR x m p)[j]? := fun j hj => by
  rw [← opsR_prefix x m p q, List.getElem?_take_of_lt hj]
theorem ops_at {x m : Int} : ∀ {n j : Nat} {o : OpR}, (opsR x m n)[j]? = some o → ∃ y, o = (opF y m).2
  | 0, j, o, h => by simp [opsR] at h
  | n + 1, j, o, h => by
    simp only [opsR] at h
    by_cases q : j < n
    · rw [List.getElem?_append_left (by rw [opsR_len]; exact q)] at h
      exact ops_at h
    · have hl := (List.getElem?_eq_some_iff.1 h).1
      simp only [List.length_append, opsR_len, List.length_cons, List.length_nil] at hl
      have : j = n := by omega
      subst this
      rw [List.getElem?_append_right (by rw [opsR_len]; exact Nat.le_refl _), opsR_len, Nat.sub_self] at h
      simp only [List.getElem?_cons_zero, Option.some.injEq] at h
      exact ⟨_, h.symm⟩
theorem op_kind {x m : Int} (h1 : 1 ≤ m) : 1 ≤ (opF x m).2.kind ∧ (opF x m).2.kind ≤ 17 ∧ ((opF x m).2.kind ≤ 12 → (opF x m).2.m < m) := by
  have hm := dr_in (x := nx (nx x)) (k := m) (by omega)
  unfold opF
  simp only
  split
  all_goals first
    | (dsimp only; refine ⟨by omega, by omega, fun h => ?_⟩; first | exact hm.2 | omega)
    | (split <;> dsimp only <;> exact ⟨by omega, by omega, fun h => by omega⟩)
theorem hd_ok {s : Int} {p q m : Nat} (hm : 1002 ≤ m) : ∀ x, x ∈ hd s p q → okB m x.2 = true := fun x hx => by
  simp only [hd, List.mem_cons, List.not_mem_nil, or_false] at hx
  rcases hx with rfl | rfl | rfl | rfl
  · rfl
  · rfl
  · rfl
  · exact blt_t.2 (by omega)
end LT
end Go.Proofs.YtjbpagfjpdinjaaGreatDoor

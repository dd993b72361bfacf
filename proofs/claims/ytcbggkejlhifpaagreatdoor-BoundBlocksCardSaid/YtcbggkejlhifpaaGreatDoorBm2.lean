/- Mix.op, in plain words. -/
import Derived.Test.YtcbggkejlhifpaaGreatDoorBm1
namespace Go.Proofs.YtcbggkejlhifpaaGreatDoor
set_option maxRecDepth 100000
set_option maxHeartbeats 4000000
open Go.Ev Go.RowKit
/-- what a mutator does, by numbers -/
def mixF (K M A B C n : Int) : OpR := match (K % 9).toNat with
  | 0 => ⟨1, M % n, A % 4, 0, 0, []⟩
  | 1 => ⟨3, M % n, A % 4, B % 4, C % 5 - 1, []⟩
  | 2 => ⟨4, M % n, A % 4, 0, 0, []⟩
  | 3 => ⟨5, M % n, A % 4 - 1, B % 3, 0, []⟩
  | 4 => ⟨6, M % n, 0, B % 3, 0, []⟩
  | 5 => ⟨2, M % n, A % 4, B % 4, 0, []⟩
  | 6 => ⟨8, M % n, 1 + A % 3, 1 + B % 40, 0, [116, 97, 103]⟩
  | 7 => ⟨10, M % n, A % 4, 0, 0, []⟩
  | _ => ⟨12, M % n, A % 4, 0, 0, []⟩
namespace BM
theorem tm {x : Int} (h : u8r x) (k : Nat) (h1 : 0 < k) (h2 : k ≤ 255) : wr .i64 (Int.tmod x (Int.ofNat k)) = x % (k : Int) := by
  obtain ⟨a, b⟩ := h
  rw [iofn, Int.tmod_eq_emod_of_nonneg a]
  have := Int.emod_nonneg x (show (k : Int) ≠ 0 by omega)
  have := Int.emod_lt_of_pos x (show (0 : Int) < k by omega)
  rw [wr64 (by omega) (by omega)]
theorem tn {x n : Int} (h : u8r x) : Int.tmod (wr .i64 x) n = x % n := by
  obtain ⟨a, b⟩ := h
  rw [wr64 (by omega) (by omega), Int.tmod_eq_emod_of_nonneg a]
theorem t9 {x : Int} (h : u8r x) : Int.tmod x (Int.ofNat 9) = x % 9 := by
  obtain ⟨a, b⟩ := h
  rw [iofn, Int.tmod_eq_emod_of_nonneg a]
  rfl
theorem s1 {x : Int} {k : Nat} (h1 : 0 < k) (h2 : k ≤ 255) : wr .i64 (Int.sub (x % (k : Int)) (Int.ofNat 1)) = x % (k : Int) - 1 := by
  have := Int.emod_nonneg x (show (k : Int) ≠ 0 by omega)
  have := Int.emod_lt_of_pos x (show (0 : Int) < k by omega)
  rw [isub, iofn, wr64 (by omega) (by omega)]
  rfl
theorem a1 {x : Int} {k : Nat} (h1 : 0 < k) (h2 : k ≤ 255) : wr .i64 (Int.add (Int.ofNat 1) (x % (k : Int))) = 1 + x % (k : Int) := by
  have := Int.emod_nonneg x (show (k : Int) ≠ 0 by omega)
  have := Int.emod_lt_of_pos x (show (0 : Int) < k by omega)
  rw [iadd, iofn, wr64 (by omega) (by omega)]
  rfl
theorem mix_fn {K M A B C n : Int} (hK : u8r K) (hM : u8r M) (hA : u8r A) (hB : u8r B) (hC : u8r C) (h1 : 1 ≤ n) : fnW G0 sp 100 iMix [mixV K M A B C, .int .i64 n] hE (fun v _ => cellsA v = some (opV (mixF K M A B C n))) := by
  have n0 : ieq n (Int.ofNat 0) = false := by rw [ieq_f, iofn]; omega
  have e := vMix K M A B C n (fun c => c = some (opV (mixF K M A B C n)))
  simp only [n0, t9 hK, tn hM, tm hA 4 (by omega) (by omega), tm hA 3 (by omega) (by omega), tm hB 4 (by omega) (by omega), tm hB 3 (by omega) (by omega), tm hB 40 (by omega) (by omega), tm hC 5 (by omega) (by omega)] at e
  refine Eq.mpr e ?_
  clear e
  have lo : ilt (K % 9) (Int.ofNat 0) = false := by rw [ilt_f, iofn]; omega
  have hi : ilt (K % 9) (Int.ofNat 9) = true := by rw [ilt_t, iofn]; omega
  simp only [lo, hi, s1 (k := 4) (by omega) (by omega), s1 (k := 5) (by omega) (by omega), a1 (k := 3) (by omega) (by omega), a1 (k := 40) (by omega) (by omega)]
  simp only [iofn, Int.cast_ofNat_Int]
  repeat' (first | exact rfl | exact trivial | apply And.intro | intro)
  all_goals first
    | omega
    | (simp [mixF, opV, *]; done)
end BM
end Go.Proofs.YtcbggkejlhifpaaGreatDoor

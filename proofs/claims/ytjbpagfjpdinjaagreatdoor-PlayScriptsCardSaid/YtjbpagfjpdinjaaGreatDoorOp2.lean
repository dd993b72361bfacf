/- (*dice).op, in plain words. -/
import Derived.Test.YtjbpagfjpdinjaaGreatDoorOp1
namespace Go.Proofs.YtjbpagfjpdinjaaGreatDoor
set_option maxRecDepth 100000
set_option maxHeartbeats 4000000
open Go.Ev Go.RowKit
namespace OD
theorem wr_add0 {x k : Int} (h : 0 < k) (h2 : k < 1000) : wr .i64 (Int.add (dr x k) (Int.ofNat 0)) = dr x k := by
  have := dr_in (x := x) h
  rw [iadd, iofn, wr64 (by omega) (by omega)]; omega
theorem wr_add1 {x k : Int} (h : 0 < k) (h2 : k < 1000) : wr .i64 (Int.add (dr x k) (Int.ofNat 1)) = dr x k + 1 := by
  have := dr_in (x := x) h
  rw [iadd, iofn, wr64 (by omega) (by omega)]; omega
theorem wr_addn {x k : Int} (h : 0 < k) (h2 : k < 1000) : wr .i64 (Int.add (dr x k) (Int.negSucc 0)) = dr x k - 1 := by
  have := dr_in (x := x) h
  have e : Int.add (dr x k) (Int.negSucc 0) = dr x k - 1 := rfl
  rw [e, wr64 (by omega) (by omega)]
theorem wr_sub1 {x k : Int} (h : 0 < k) (h2 : k < 1000) : wr .i64 (Int.sub (dr x k) (Int.ofNat 1)) = dr x k - 1 := by
  have := dr_in (x := x) h
  rw [isub, iofn, wr64 (by omega) (by omega)]; omega
theorem ilt_lo {x k : Int} (h : 0 < k) : ilt (dr x k) (Int.ofNat 0) = false := by
  have := dr_in (x := x) h
  rw [ilt_f, iofn]; omega
theorem ilt_hi {x k : Int} (h : 0 < k) : ilt (dr x k) k = true := by
  have := dr_in (x := x) h
  rw [ilt_t]; omega
theorem pos_of (n : Nat) (h : Nat.blt 0 n = true) : (0 : Int) < Int.ofNat n := by
  have := blt_t.1 h
  rw [iofn]; omega
theorem op_fn {x m : Int} (hx : inX x) (h1 : 1 ≤ m) (h2 : m ≤ 4) : fnW G0 sp 200 iOp args (hD x m 1047) (fun v h' => cellsA v = some (opV (opF x m).2) ∧ diceX (h'.tr.get 1016) = some (.int .u32 (opF x m).1, .int .i64 m) ∧ Go.Ev.has h' kept = true ∧ h'.next ≤ 1200) := by
  have m0 : ieq m (Int.ofNat 0) = false := by rw [ieq_f, iofn]; omega
  have e := vOp x m (fun c d b n => c = some (opV (opF x m).2) ∧ d = some (.int .u32 (opF x m).1, .int .i64 m) ∧ b = true ∧ n ≤ 1200)
  simp only [nx_p hx, nx_p (nx_in _), dr_p (nx_in _)] at e
  refine Eq.mpr e ?_
  clear e
  have p : ∀ n : Nat, Nat.blt 0 n = true → (0 : Int) < Int.ofNat n := pos_of
  simp only [m0, ilt_lo (p 20 rfl), ilt_hi (p 20 rfl), ilt_lo (p 3 rfl), ilt_hi (p 3 rfl), ilt_lo (p 5 rfl), ilt_hi (p 5 rfl)]
  simp only [wr_add0 (p 5 rfl) (by decide), wr_add0 (p 4 rfl) (by decide), wr_add0 (p 3 rfl) (by decide), wr_add0 (p 6 rfl) (by decide), wr_add0 (p 8 rfl) (by decide), wr_add1 (p 3 rfl) (by decide), wr_add1 (p 50 rfl) (by decide), wr_add1 (p 20 rfl) (by decide), wr_add1 (p 30 rfl) (by decide), wr_add1 (p 10 rfl) (by decide), wr_addn (p 4 rfl) (by decide), wr_sub1 (p 5 rfl) (by decide)]
  simp only [iofn, Int.cast_ofNat_Int]
  repeat' (first | exact rfl | exact trivial | apply And.intro | intro)
  all_goals first
    | omega
    | (simp only [opF, opV, *]; rfl)
    | (simp [opF, opV, kindT, strA, strB, *]; done)
end OD
end Go.Proofs.YtjbpagfjpdinjaaGreatDoor

/- Random scripts, in plain words: the generator, the operation that is drawn, the script. -/
import Derived.Test.YtjbpagfjpdinjaaGreatDoorIds
namespace Go.Proofs.YtjbpagfjpdinjaaGreatDoor
set_option maxRecDepth 100000
open Go.Ev Go.RowKit
/-- an operation -/
structure OpR where
  kind : Int
  m : Int
  a : Int
  b : Int
  c : Int
  t : List UInt8
  deriving DecidableEq, Inhabited
def opV (o : OpR) : List V := [.int .i64 o.kind, .int .i64 o.m, .int .i64 o.a, .int .i64 o.b, .int .i64 o.c, .str o.t]
/-- the generator -/
def nx (x : Int) : Int := (69069 * x + 1) % 4294967296
def dr (x k : Int) : Int := x / 65536 % k
def strA : Nat → List UInt8
  | 0 => [97]
  | 1 => [98, 32, 99]
  | _ => [109, 97, 105, 110]
def strB : Nat → List UInt8
  | 0 => [111]
  | 1 => [108]
  | 2 => [102]
  | 3 => [108, 111]
  | _ => [111, 108]
def kindT : Nat → Nat
  | 0 => 1
  | 1 => 1
  | 2 => 3
  | 3 => 3
  | 4 => 2
  | 5 => 4
  | 6 => 4
  | 7 => 5
  | 8 => 6
  | 9 => 8
  | 10 => 8
  | 11 => 9
  | 12 => 10
  | 13 => 11
  | 14 => 12
  | 15 => 7
  | 16 => 7
  | 17 => 13
  | 18 => 14
  | _ => 0
/-- the operation that is drawn, and the generator's state behind it -/
def opF (x m : Int) : Int × OpR :=
  let x1 := nx x
  let x2 := nx x1
  let x3 := nx x2
  let x4 := nx x3
  let x5 := nx x4
  match kindT (dr x1 20).toNat with
  | 1 => (x3, ⟨1, dr x2 m, dr x3 5, 0, 0, []⟩)
  | 2 => (x4, ⟨2, dr x2 m, dr x3 4, dr x4 4, 0, []⟩)
  | 3 => (x5, ⟨3, dr x2 m, dr x3 4, dr x4 4, dr x5 5 - 1, []⟩)
  | 4 => (x3, ⟨4, dr x2 m, dr x3 4, 0, 0, []⟩)
  | 5 => (x4, ⟨5, dr x2 m, dr x3 4 - 1, dr x4 3, 0, []⟩)
  | 6 => (x3, ⟨6, dr x2 m, 0, dr x3 3, 0, []⟩)
  | 7 => (x2, ⟨7, dr x2 m, 0, 0, 0, []⟩)
  | 8 => (x5, ⟨8, dr x2 m, dr x3 3 + 1, dr x4 50 + 1, 0, strA (dr x5 3).toNat⟩)
  | 9 => (x3, ⟨9, dr x2 m, dr x3 6, 0, 0, []⟩)
  | 10 => (x3, ⟨10, dr x2 m, dr x3 8, 0, 0, []⟩)
  | 11 => (x4, ⟨11, dr x2 m, dr x3 8, dr x4 20 + 1, 0, []⟩)
  | 12 => (x3, ⟨12, dr x2 m, dr x3 8, 0, 0, []⟩)
  | 13 => (x2, ⟨13, 0, dr x2 30 + 1, 0, 0, []⟩)
  | 14 => (x1, ⟨14, 0, 0, 0, 0, []⟩)
  | _ => match (dr x2 3).toNat with
    | 0 => (x3, ⟨15, 0, dr x3 10 + 1, 0, 0, []⟩)
    | 1 => (x2, ⟨16, 0, 0, 0, 0, []⟩)
    | _ => (x3, ⟨17, 0, 0, 0, 0, strB (dr x3 5).toNat⟩)
/-- the state behind so many operations; these -/
def stF (x m : Int) : Nat → Int
  | 0 => x
  | n + 1 => (opF (stF x m n) m).1
def opsR (x m : Int) : Nat → List OpR
  | 0 => []
  | n + 1 => opsR x m n ++ [(opF (stF x m n) m).2]
/-- a script's cells -/
def cellsR (l : List OpR) : List V := l.flatMap opV
theorem opV_len (o : OpR) : (opV o).length = 6 := rfl
theorem opsR_len (x m : Int) : ∀ n, (opsR x m n).length = n
  | 0 => rfl
  | n + 1 => by simp [opsR, opsR_len x m n]
theorem cellsR_len : ∀ l : List OpR, (cellsR l).length = l.length * 6
  | [] => rfl
  | o :: l => by
    have := cellsR_len l
    simp only [cellsR, List.flatMap_cons, List.length_append, List.length_cons, opV_len] at this ⊢
    omega
theorem cellsR_snoc (l : List OpR) (o : OpR) : cellsR (l ++ [o]) = cellsR l ++ opV o := by simp [cellsR]
theorem opsR_prefix (x m : Int) (n : Nat) : ∀ k, (opsR x m (n + k)).take n = opsR x m n
  | 0 => by rw [Nat.add_zero]; exact List.take_of_length_le (Nat.le_of_eq (opsR_len x m n))
  | k + 1 => by
    rw [← Nat.add_assoc]
    simp only [opsR]
    rw [List.take_append_of_le_length (by rw [opsR_len]; omega)]
    exact opsR_prefix x m n k
def inX (x : Int) : Prop := 0 ≤ x ∧ x < 4294967296
theorem nx_in (x : Int) : inX (nx x) := by unfold inX nx; omega
theorem dr_in {x k : Int} (hk : 0 < k) : 0 ≤ dr x k ∧ dr x k < k := ⟨Int.emod_nonneg _ (by omega), Int.emod_lt_of_pos _ hk⟩
theorem opF_in (x m : Int) : inX (opF x m).1 := by
  unfold opF
  simp only
  split <;> first
    | exact nx_in _
    | (split <;> exact nx_in _)
theorem stF_in {x m : Int} (h : inX x) : ∀ n, inX (stF x m n)
  | 0 => h
  | _n + 1 => opF_in _ _
/-! the draws, as the code makes them -/
theorem wr_u32 {n : Int} (h : 0 ≤ n) : wr .u32 n = n % 4294967296 := by
  cases n with
  | ofNat m =>
    by_cases q : m < 4294967296
    · have : Nat.blt m 4294967296 = true := blt_t.2 q
      simp only [wr, this]
      simp only [Int.ofNat_eq_natCast]; omega
    · have : Nat.blt m 4294967296 = false := by
        cases e : Nat.blt m 4294967296 with
        | false => rfl
        | true => exact absurd (blt_t.1 e) q
      simp only [wr, this]
      rfl
  | negSucc m => omega
theorem wr_u64 {n : Int} (h : 0 ≤ n) (h2 : n < 18446744073709551616) : wr .u64 n = n := by
  cases n with
  | ofNat m =>
    show IntKind.wrap .u64 _ = _
    have e : IntKind.wrap .u64 (Int.ofNat m) = (Int.ofNat m) % 18446744073709551616 := rfl
    rw [e]
    simp only [Int.ofNat_eq_natCast] at *; omega
  | negSucc m => omega
theorem nx_p {x : Int} (h : inX x) : wr .u32 (Int.add (wr .u32 (Int.mul (Int.ofNat 69069) x)) (Int.ofNat 1)) = nx x := by
  obtain ⟨h1, h2⟩ := h
  simp only [iadd, imul, iofn]
  rw [wr_u32 (n := _ * x) (by omega), wr_u32 (by omega)]
  unfold nx
  omega
theorem nx_r {x : Int} (h : inX x) : Int.tmod (wr .u64 (Int.add (wr .u64 (Int.mul (Int.ofNat 69069) x)) (Int.ofNat 1))) (Int.ofNat 4294967296) = nx x := by
  obtain ⟨h1, h2⟩ := h
  simp only [iadd, imul, iofn]
  rw [wr_u64 (n := _ * x) (by omega) (by omega), wr_u64 (by omega) (by omega), Int.tmod_eq_emod_of_nonneg (by omega)]
  rfl
theorem dr_p {x k : Int} (h : inX x) : Int.tmod (wr .i64 (Int.fdiv x (Int.ofNat 65536))) k = dr x k := by
  obtain ⟨h1, h2⟩ := h
  simp only [iofn]
  rw [Int.fdiv_eq_ediv_of_nonneg _ (by omega), wr64 (by omega) (by omega), Int.tmod_eq_emod_of_nonneg (by omega)]
  rfl
theorem dr_r {x k : Int} (h : inX x) : Int.tmod (wr .i64 (Int.tdiv x (Int.ofNat 65536))) k = dr x k := by
  obtain ⟨h1, h2⟩ := h
  simp only [iofn]
  rw [Int.tdiv_eq_ediv_of_nonneg h1, wr64 (by omega) (by omega), Int.tmod_eq_emod_of_nonneg (by omega)]
  rfl
end Go.Proofs.YtjbpagfjpdinjaaGreatDoor

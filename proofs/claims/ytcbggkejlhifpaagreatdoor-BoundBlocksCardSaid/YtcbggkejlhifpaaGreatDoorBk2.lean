/- block, in plain words; as a call whose contract speaks of the memory. -/
import Derived.Test.YtcbggkejlhifpaaGreatDoorBk1
namespace Go.Proofs.YtcbggkejlhifpaaGreatDoor
set_option maxRecDepth 100000
set_option maxHeartbeats 2000000
open Go.Ev Go.RowKit
/-- the operations of a block; as they are turned -/
def blk1 (cap : Int) (mk : OpR) (z : Int) : List OpR := [⟨7, 0, 0, 0, 0, []⟩, ⟨13, 0, 1 + z % 3, 0, 0, []⟩, ⟨14, 0, 0, 0, 0, []⟩, mk, ⟨15, 0, cap, 0, 0, []⟩, ⟨16, 0, 0, 0, 0, []⟩]
def blk2 (cap : Int) (mk : OpR) (z : Int) : List OpR := [⟨7, 0, 0, 0, 0, []⟩, ⟨7, 1, 0, 0, 0, []⟩, ⟨13, 0, 1 + z % 3, 0, 0, []⟩, ⟨14, 0, 0, 0, 0, []⟩, mk, ⟨15, 0, cap, 0, 0, []⟩, ⟨16, 0, 0, 0, 0, []⟩]
def rot {α : Type} (r : Nat) (l : List α) : List α := l.drop r ++ l.take r
open Classical in
theorem mixOk_of {k m a b c n : Int} (h : u8r k ∧ u8r m ∧ u8r a ∧ u8r b ∧ u8r c ∧ 1 ≤ n) : mixOk k m a b c n = true := by
  unfold mixOk
  exact decide_eq_true h
open Classical in
theorem mixOk_t {k m a b c n : Int} (h : mixOk k m a b c n = true) : u8r k ∧ u8r m ∧ u8r a ∧ u8r b ∧ u8r c ∧ 1 ≤ n := by
  unfold mixOk at h
  exact of_decide_eq_true h
namespace BK
def bId1 (r : Nat) : Nat := match r with
  | 0 => 1054
  | _ + 1 => 1055
def bId2 (r : Nat) : Nat := match r with
  | 0 => 1056
  | _ + 1 => 1057
theorem fn1 {a c d e f g h i j k m x y z : Int} {t : Nat} (hk : u8r k) (hm : u8r m) (hx : u8r x) (hy : u8r y) (hz : u8r z) (ht : t ≤ 255) :
    fnW GB (sp 6) 200 iBlock [cfgV a 1 c d e f g h i j, mixV k m x y z, .int .u8 (Int.ofNat t)] hB (K fun b o n cp L nx => b = bId1 (t % 6) ∧ o = 0 ∧ n = 6 ∧ cp = .atl 6 6 ∧ L = some (cellsR (rot (t % 6) (blk1 i (mixF k m x y z 1) z))) ∧ nx ≤ 1100) := by
  have e1 : mixOk k m x y z (Int.ofNat 1) = true := mixOk_of ⟨hk, hm, hx, hy, hz, by decide⟩
  have e2 : wr .i64 (Int.add (Int.ofNat 1) (wr .i64 (Int.tmod z (Int.ofNat 3)))) = 1 + z % 3 := by rw [BM.tm hz 3 (by omega) (by omega)]; exact BM.a1 (k := 3) (by omega) (by omega)
  have e3 : Int.tmod (wr .i64 (Int.ofNat t)) (Int.ofNat 6) = ((t % 6 : Nat) : Int) := by
    rw [wr64 (by simp only [iofn]; omega) (by simp only [iofn]; omega)]
    simp only [iofn]
    rw [Int.tmod_eq_emod_of_nonneg (by omega)]
    omega
  have e4 : ilt ((t % 6 : Nat) : Int) (Int.ofNat 0) = false := by rw [ilt_f, iofn]; omega
  have e5 : ilt ((t % 6 : Nat) : Int) (Int.ofNat 6) = true := by rw [ilt_t, iofn]; omega
  have v := v1 a c d e f g h i j k m x y z (Int.ofNat t) (fun b o n cp L nx => b = bId1 (t % 6) ∧ o = 0 ∧ n = 6 ∧ cp = .atl 6 6 ∧ L = some (cellsR (rot (t % 6) (blk1 i (mixF k m x y z 1) z))) ∧ nx ≤ 1100)
  rw [e1, e2, e3, e4, e5] at v
  refine Eq.mpr v ?_
  clear v
  refine ⟨rfl, rfl, by repeat' (first | exact rfl | exact trivial | apply And.intro), rfl, rfl, rfl, ?_⟩
  repeat' (first | exact trivial | apply And.intro | intro)
  all_goals first
    | exact trivial
    | (rename_i q; have q : t % 6 = _ := Int.ofNat.inj q; rw [q]; first | rfl | decide)
    | rfl
    | decide
theorem fn2 {a c d e f g h i j k m x y z : Int} {t : Nat} (hk : u8r k) (hm : u8r m) (hx : u8r x) (hy : u8r y) (hz : u8r z) (ht : t ≤ 255) :
    fnW GB (sp 7) 200 iBlock [cfgV a 2 c d e f g h i j, mixV k m x y z, .int .u8 (Int.ofNat t)] hB (K fun b o n cp L nx => b = bId2 (t % 7) ∧ o = 0 ∧ n = 7 ∧ cp = .atl 7 6 ∧ L = some (cellsR (rot (t % 7) (blk2 i (mixF k m x y z 2) z))) ∧ nx ≤ 1100) := by
  have e1 : mixOk k m x y z (Int.ofNat 2) = true := mixOk_of ⟨hk, hm, hx, hy, hz, by decide⟩
  have e2 : wr .i64 (Int.add (Int.ofNat 1) (wr .i64 (Int.tmod z (Int.ofNat 3)))) = 1 + z % 3 := by rw [BM.tm hz 3 (by omega) (by omega)]; exact BM.a1 (k := 3) (by omega) (by omega)
  have e3 : Int.tmod (wr .i64 (Int.ofNat t)) (Int.ofNat 7) = ((t % 7 : Nat) : Int) := by
    rw [wr64 (by simp only [iofn]; omega) (by simp only [iofn]; omega)]
    simp only [iofn]
    rw [Int.tmod_eq_emod_of_nonneg (by omega)]
    omega
  have e4 : ilt ((t % 7 : Nat) : Int) (Int.ofNat 0) = false := by rw [ilt_f, iofn]; omega
  have e5 : ilt ((t % 7 : Nat) : Int) (Int.ofNat 7) = true := by rw [ilt_t, iofn]; omega
  have v := v2 a c d e f g h i j k m x y z (Int.ofNat t) (fun b o n cp L nx => b = bId2 (t % 7) ∧ o = 0 ∧ n = 7 ∧ cp = .atl 7 6 ∧ L = some (cellsR (rot (t % 7) (blk2 i (mixF k m x y z 2) z))) ∧ nx ≤ 1100)
  rw [e1, e2, e3, e4, e5] at v
  refine Eq.mpr v ?_
  clear v
  refine ⟨rfl, rfl, by repeat' (first | exact rfl | exact trivial | apply And.intro), rfl, rfl, rfl, ?_⟩
  repeat' (first | exact trivial | apply And.intro | intro)
  all_goals first
    | exact trivial
    | (rename_i q; have q : t % 7 = _ := Int.ofNat.inj q; rw [q]; first | rfl | decide)
    | rfl
    | decide
theorem kB_ok (f : FuncId) : KnownOk Tryz.prog (f, fun args h => match kB f args h with | some (true, v) => some v | _ => .none) := by
  intro args h v hv ρ cargs w ha hS n
  simp only at hv
  split at hv
  · rename_i v0 hq
    cases hv
    unfold kB at hq
    split at hq
    · rename_i k m a b c n' hf
      have hf := (T.beq_true).1 hf
      simp only [Option.some.injEq, Prod.mk.injEq] at hq
      obtain ⟨h1, rfl⟩ := hq
      obtain ⟨u1, u2, u3, u4, u5, u6⟩ := mixOk_t h1
      obtain ⟨c1, cs1, e1, q1, q2⟩ := ha.uncons
      obtain ⟨c2, cs2, e2, q3, q4⟩ := q2.uncons
      have q4 := q4.of_nil
      have ha2 : Rels rE [mixV k m a b c, .int .i64 n'] cargs.toList := by
        rw [e1, e2, q4]
        exact Rels.cons (canonV_rel (v := mixV k m a b c) rfl q1) (Rels.cons (pureS_rel rfl q3) Rels.nil)
      subst hf
      refine (call_w (G := G0) (mk_ok _).1 (mk_ok _).2 ext_none (kx_none _) (BM.mix_fn u1 u2 u3 u4 u5 u6) ha2 (sim_E w) n).mono fun en w' ⟨v, h', c, ρ', q1, q2, q3, q4, q5⟩ => ?_
      refine ⟨c, q2, q4.below hE_ro, ?_⟩
      unfold BM.cellsA at q1
      split at q1
      · rename_i nn l hc
        split at q1
        · rename_i hn
          rw [T.beq_true] at hn
          subst hn
          cases q1
          exact canonV_rel hc q5
        · cases q1
      · cases q1
    · cases hq
  · cases hv
theorem none_x : ExtOK Tryz.prog (mkG Tryz.prog eqs rows fun _ _ _ => .none) := ext_none
theorem GB_x : ExtOK Tryz.prog GB := extU_ok kB_ok none_x
abbrev rowO (L : List V) : O := .cells (some tOp) L.length L .leaf
theorem row_o {w : Nat} {o : Option O} {L : List V} (h : rowW w o = some L) : ∃ o', o = some o' ∧ o'.rw = true ∧ ∀ ρ M c', ORel ρ o' M c' → ORel ρ (rowO L) M c' := by
  unfold rowW at h
  split at h
  · rename_i ee n pat tr
    split at h
    · rename_i h0 hn
      have h0 := (T.beq_true).1 h0
      have hn := (T.beq_true).1 hn
      subst h0
      subst hn
      obtain ⟨g1, g2⟩ := gather_spec h
      refine ⟨_, rfl, rfl, fun ρ M c' ho => ?_⟩
      rw [← g1] at ho
      obtain ⟨cs, el, lo, hi, x1, x2, x3, x4, x5, x6⟩ := ho
      refine ⟨cs, el, lo, hi, x1, x2, x3, x4, x5, x6.1, fun i v x hv hx => ?_⟩
      have hv := cell_leaf hv
      have := g2 i v hv
      rw [Nat.zero_add] at this
      rw [← g1] at this
      exact x6.2 i v x this hx
    · cases h
  · cases h
def wid : Nat → Nat
  | 1 => 6
  | _ => 7
def blk : Nat → Int → OpR → Int → List OpR
  | 1, cap, mk, z => blk1 cap mk z
  | _, cap, mk, z => blk2 cap mk z
def bId : Nat → Nat → Nat
  | 1, r => bId1 r
  | _, r => bId2 r
theorem call {mm : Nat} (hmm : mm = 1 ∨ mm = 2) {a c d e f g h i j k m x y z : Int} {t : Nat} (hk : u8r k) (hm : u8r m) (hx : u8r x) (hy : u8r y) (hz : u8r z) (ht : t ≤ 255) {ρ : Ren} {cargs : Array Value} {W : World} (hS : Sim ρ hB W) (ha : Rels ρ [cfgV a mm c d e f g h i j, mixV k m x y z, .int .u8 (Int.ofNat t)] cargs.toList) (kk : Nat) :
    CallsIn Fence.wide kk Tryz.prog iBlock cargs W (Ret (Post ρ hB W (.slice (bId mm (t % wid mm)) 0 (wid mm) (.atl (wid mm) 6)) ⟨T.put .leaf (bId mm (t % wid mm)) (some (rowO (cellsR (rot (t % wid mm) (blk mm i (mixF k m x y z mm) z))))), 1100⟩)) := by
  have hw : fnW GB (sp (wid mm)) 200 iBlock [cfgV a mm c d e f g h i j, mixV k m x y z, .int .u8 (Int.ofNat t)] hB (K fun b o n cp L nx => b = bId mm (t % wid mm) ∧ o = 0 ∧ n = wid mm ∧ cp = .atl (wid mm) 6 ∧ L = some (cellsR (rot (t % wid mm) (blk mm i (mixF k m x y z mm) z))) ∧ nx ≤ 1100) := by
    rcases hmm with rfl | rfl
    · exact fn1 hk hm hx hy hz ht
    · exact fn2 hk hm hx hy hz ht
  refine (call_w (G := GB) (sp := sp (wid mm)) (mk_ok _).1 (mk_ok _).2 GB_x kxU_ok hw ha hS kk).mono fun en w' ⟨v, h', c, ρ', q1, q2, q3, q4, q5⟩ => ?_
  unfold K at q1
  split at q1
  · rename_i b o n cp
    obtain ⟨rfl, rfl, rfl, rfl, g1, g2⟩ := q1
    obtain ⟨o', p1, p2, p3⟩ := row_o g1
    have hh : ∀ b0 o0, (T.put .leaf (bId mm (t % wid mm)) (some (rowO (cellsR (rot (t % wid mm) (blk mm i (mixF k m x y z mm) z)))))).get b0 = some o0 → ∃ o', h'.tr.get b0 = some o' ∧ (o0.rw = true → o'.rw = true) ∧ ∀ ρ L c, ORel ρ o' L c → ORel ρ o0 L c := fun b0 o0 hb => by
      simp only [T.get_put] at hb
      split at hb
      · rename_i q
        cases hb; subst q
        exact ⟨o', p1, fun _ => p2, p3⟩
      · rw [T.get_leaf] at hb; cases hb
    exact ⟨c, q2, ρ', sim_kept q3 g2 hh, ext_kept q4 g2 hh, q5⟩
  · cases q1
end BK
end Go.Proofs.YtcbggkejlhifpaaGreatDoor

/- PlayScripts: memory, and the calls of play.Random. -/
import Derived.Test.YtjbpagfjpdinjaaGreatDoorLw1
namespace Go.Proofs.YtjbpagfjpdinjaaGreatDoor
set_option maxRecDepth 100000
open Go.Ev Go.RowKit
namespace LT
theorem ret_out {Q : V → Prop} {st : St} (h : retIs Q st) : ∃ h2 v, takeAll st.defs st.h = some h2 ∧ resultsO G0 h2 st.env fn = some v ∧ Q v := by
  unfold retIs at h
  split at h
  · split at h
    · exact ⟨_, _, by assumption, by assumption, h⟩
    · cases h
  · cases h
theorem toS {ρ0 : Ren} {h0 : H} {w0 : World} {st : St} {a : Act} {w : World} (hA : At ρ0 h0 w0 st a w) {l : List (Nat × V)} {h : H} (hs : hasS l st) (hh : st.h = h) : At ρ0 h0 w0 (S l h) a w := by
  subst hh
  exact at_less hA (hasT_get hs.1) (Nat.le_of_eq hs.2.1.symm) (fun _ _ q => q) rfl (noDefs_eq hs.2.2).symm
/-! memory -/
theorem vars_o {b : Nat} {o : O} (h : (varsT gs).get b = some o) : ∃ l, (b, l) ∈ gs ∧ o = .ro (some 0) l.length l .leaf := varsT_get h
theorem vars_keep {h' : H} (hh : Go.Ev.has h' (roL gs) = true) {b : Nat} {o : O} (h : (varsT gs).get b = some o) : ∃ o', h'.tr.get b = some o' ∧ (o.rw = true → o'.rw = true) ∧ ∀ ρ L c, ORel ρ o' L c → ORel ρ o L c := by
  obtain ⟨l, hm, rfl⟩ := vars_o h
  obtain ⟨o', h1, h2⟩ := has_get hh (b, .ro (some 0) l.length l .leaf) (List.mem_map.2 ⟨(b, l), hm, rfl⟩)
  obtain ⟨h3, h4⟩ := O.beq_rel h2
  exact ⟨o', h1, fun r => by rw [h3]; exact r, h4⟩
theorem tB_get {L : List V} {b : Nat} {o : O} (h : (tB L).get b = some o) : (b = 1001 ∧ o = boxO L) ∨ (b < 1000 ∧ (varsT gs).get b = some o) := by
  simp only [tB, T.get_put] at h
  split at h
  · rename_i q; cases h; exact .inl ⟨q, rfl⟩
  · obtain ⟨l, hm, rfl⟩ := vars_o h
    exact .inr ⟨gs_lt _ hm, h⟩
theorem tB_lt {L : List V} {b : Nat} {o : O} (h : (tB L).get b = some o) : b < 1002 := by
  rcases tB_get h with ⟨rfl, _⟩ | ⟨h, _⟩ <;> omega
theorem okO_vars {m b : Nat} {o : O} (h : (varsT gs).get b = some o) : okO m o := by
  obtain ⟨l, hm, rfl⟩ := vars_o h
  intro i v hv
  have hp := gs_pure _ hm v (List.mem_of_getElem? (cell_leaf hv))
  cases v <;> first
    | rfl
    | (simp [pureS] at hp; done)
theorem okO_tB {a b c d e f g h i j : Int} {m x : Nat} {o : O} (q : (tB (cfgL a b c d e f g h i j)).get x = some o) : okO m o := by
  rcases tB_get q with ⟨rfl, rfl⟩ | ⟨_, q⟩
  · intro i1 v hv
    have hm := List.mem_of_getElem? (cell_leaf (L := cfgL a b c d e f g h i j) hv)
    simp only [List.mem_cons, List.not_mem_nil, or_false] at hm
    rcases hm with rfl | rfl | rfl | rfl | rfl | rfl | rfl | rfl | rfl | rfl <;> rfl
  · exact okO_vars q
/-- a row behind a script's call; in its own place -/
noncomputable def tR (x m : Int) (t : T O) : Nat → T O
  | 0 => t
  | i + 1 => T.put t 1046 (some (RN.rowO (cellsR (opsR x m (i + 1)))))
noncomputable def tS (x m : Int) (b : Nat) (t : T O) : Nat → T O
  | 0 => t
  | i + 1 => T.put t b (some (RN.rowO (cellsR (opsR x m (i + 1)))))
def lV (b : Nat) : Nat → V
  | 0 => .nils
  | i + 1 => .slice b 0 (i + 1) (.atl (i + 1) 6)
theorem okO_rowm (l : List OpR) {m : Nat} : okO m (RN.rowO (cellsR l)) := fun i v hv => EQ.okO_ro l (m := m) i v hv
/-- play.Random, called where memory holds more -/
theorem rand {a b c d e f g h i j s : Int} (hM : MachV a b c d e f g h i j = 0) (hb1 : 1 ≤ b) (hb2 : b ≤ 4) (hx : inX (wr .u32 s)) {n : Nat} (hn : n ≤ 2000) {t : T O} (ht : ∀ b o, t.get b = some o → b < 1010) {ρ : Ren} {cargs : Array Value} {W : World} (hS : Sim ρ ⟨t, 1010⟩ W) (ha : Rels ρ [cfgV a b c d e f g h i j, .int .u64 s, .int .i64 (Int.ofNat n)] cargs.toList) (k : Nat) :
    CallsIn Fence.wide k Tryz.prog iRandom cargs W (Ret (Post ρ ⟨t, 1010⟩ W (.tuple [RN.rV n, z0]) ⟨tR (wr .u32 s) b t n, 1047⟩)) := by
  have F : Framed ⟨t, 1010⟩ RN.hR (RN.hE (wr .u32 s) b n) ⟨tR (wr .u32 s) b t n, 1047⟩ := by
    refine ⟨rfl, fun b o hb => by simp [RN.hR, T.get_leaf] at hb, by cases n <;> rfl, fun b o hb => ?_⟩
    cases n with
    | zero => exact .inr ⟨ht b o hb, T.get_leaf _, hb⟩
    | succ n =>
      simp only [tR, T.get_put] at hb
      split at hb
      · rename_i q
        refine .inl ?_
        simp only [RN.hE, T.get_put]
        rw [if_pos q]; exact hb
      · exact .inr ⟨ht b o hb, T.get_leaf _, hb⟩
  refine (RN.call hM hb1 hb2 hx hn ha (hS.sub (Nat.le_refl _) F.part) k).mono fun en w' ⟨c, e1, ρ', p1, p2, p3⟩ => ?_
  obtain ⟨u1, u2⟩ := frame_rule F hS p1 p2
  exact ⟨c, e1, ρ', u1, u2, p3⟩
/-- the new row gets its own place -/
theorem slot {ρ0 : Ren} {h0 : H} {w0 : World} {t m : Nat} {l : List (Nat × V)} {base : T O} {x y : Int} {n : Nat} {a : Act} {w : World} (hA : At ρ0 h0 w0 (S ((t, RN.rV n) :: l) ⟨tR x y base n, 1047⟩) a w) (hm : m < 1010) (h1 : h0.next = 1000) (h2 : 1000 ≤ m)
    (hb : ∀ b o, base.get b = some o → b < m ∧ ∀ m, okO m o) (hl : ∀ p, p ∈ l → ∀ m', m ≤ m' → okB m' p.2 = true) (hT : hasT (envL 93 ((t, V.nils) :: l)) ((t, V.nils) :: l)) : At ρ0 h0 w0 (S ((t, lV m n) :: l) ⟨tS x y m base n, 1010⟩) a w := by
  cases n with
  | zero =>
    refine drop (sz := 93) (m := 1010) (l := (t, .nils) :: l) (base := base) hA (Nat.le_refl _) rfl ?_ (by omega) (by omega) (fun b o h => ⟨by have := (hb b o h).1; omega, (hb b o h).2 _, h⟩) (fun p hp => ?_)
    · exact hT
    · rcases List.mem_cons.1 hp with rfl | hp
      · rfl
      · exact hl p hp _ (by omega)
  | succ i =>
    have A := back (m := m) (base := base) (b' := 1046) (t := t) hA (by omega) (by omega) (by omega) (fun b o h => ⟨(hb b o h).1, (hb b o h).2 _⟩) (okO_rowm _) (fun p hp => hl p hp _ (Nat.le_refl _))
    exact at_kept A (h2 := ⟨tS x y m base (i + 1), 1010⟩) (by show m + 1 ≤ 1010; omega) fun b o h => ⟨o, h, id, fun _ _ _ h => h⟩
end LT
end Go.Proofs.YtjbpagfjpdinjaaGreatDoor

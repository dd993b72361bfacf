/- PlayRefuses: the law returns true, given 'works'. -/
import Derived.Test.YtemanejjmkjfnaaGreatDoorRf1
import Derived.Test.YtemanejjmkjfnaaGreatDoorRf2
namespace Go.Proofs.YtemanejjmkjfnaaGreatDoor
set_option maxRecDepth 100000
set_option maxHeartbeats 4000000
open Go.Ev Go.RowKit
namespace RT
section
variable {a b c d e f g i k : Int}
theorem run1 (h : u8r a ∧ u8r b ∧ u8r c ∧ u8r d ∧ u8r e ∧ u8r f ∧ u8r g ∧ u8r i) (hk : 0 ≤ k ∧ k ≤ 65535) (hb : up b 2 = Int.ofNat 1) : fnW (GL (Int.ofNat 1)) (sp (Int.ofNat 1)) 200 iRefuses [n8 a b c d e f g i, .int .u16 k] hA (fun v _ => v = .bool true) := by
  have hc := conf_in h
  unfold cfgOk at hc
  rw [hb] at hc
  have hw : wr .i64 k = k := wr64 (by omega) (by omega)
  have e1 : wr .i64 ((Int.ofNat 257).add (wr .i64 k)) = 257 + k := by rw [hw, iofn, iadd, wr64 (by omega) (by omega)]; rfl
  have e2 : wr .i64 ((Int.ofNat 1001).add (wr .i64 k)) = 1001 + k := by rw [hw, iofn, iadd, wr64 (by omega) (by omega)]; rfl
  have e3 : wr .i64 ((Int.ofNat 2001).add (wr .i64 k)) = 2001 + k := by rw [hw, iofn, iadd, wr64 (by omega) (by omega)]; rfl
  have e4 : wr .i64 ((Int.negSucc 0).sub (wr .i64 k)) = -1 - k := by rw [hw, isub, wr64 (by omega) (by omega)]; rfl
  have m0 : (!eqI (up b 2) (Int.ofNat 1)) = false := by rw [hb]; rfl
  have m1 : (!eqI (MachV (up a 12) (Int.ofNat 1) (up c 4) (up d 4) (up e 4) (wr IntKind.i64 ((Int.ofNat 257).add (wr IntKind.i64 k))) (up (wr IntKind.u8 (f.tdiv (Int.ofNat 6))) 3) (up g 5) (capF g i) (firstF i)) (Int.ofNat 2)) = false := by
    rw [e1, MachV_f _ _ _ _ _ _ _ _ _ _ (by omega)]; rfl
  have m2 : (!eqI (MachV (up a 12) (Int.ofNat 1) (up c 4) (up d 4) (up e 4) (up f 6) (up (wr IntKind.u8 (f.tdiv (Int.ofNat 6))) 3) (up g 5) (capF g i) (firstF i)) (Int.ofNat 0)) = false := by
    rw [MachV_t _ _ _ _ _ _ _ _ _ _ (by simp only [iofn] at hc ⊢; omega)]; rfl
  have m3 : okAllowed (up a 12) (Int.ofNat 1) (up c 4) (up d 4) (up e 4) (up f 6) (up (wr IntKind.u8 (f.tdiv (Int.ofNat 6))) 3) (up g 5) (capF g i) (firstF i) = true := (okAllowed_t ..).2 (by simp only [iofn] at hc ⊢; omega)
  have s1 : badSlots (up a 12) (firstF i) = false := (badSlots_f ..).2 (by omega)
  have s2 : badSlots (Int.ofNat 256) (firstF i) = false := (badSlots_f ..).2 (by simp only [iofn]; omega)
  have s3 : badSlots (Int.ofNat 64) (firstF i) = false := (badSlots_f ..).2 (by simp only [iofn]; omega)
  have g1 : (!ieq (GensV (firstF i)) (Int.ofNat 0)) = false := by rw [GensV_t _ (by omega)]; rfl
  have r1a : ilt (up a 12) (Int.ofNat 1) = false := ilt_f.2 (by simp only [iofn]; omega)
  have r1b : ilt (Int.ofNat 0) (up a 12) = true := ilt_t.2 (by simp only [iofn]; omega)
  have r1c : ilt (Int.ofNat 256) (up a 12) = false := ilt_f.2 (by simp only [iofn]; omega)
  have r2a : ilt (up c 4) (Int.ofNat 1) = false := ilt_f.2 (by simp only [iofn]; omega)
  have r2b : ilt (Int.ofNat 0) (up c 4) = true := ilt_t.2 (by simp only [iofn]; omega)
  have r2c : ilt (Int.ofNat 64) (up c 4) = false := ilt_f.2 (by simp only [iofn]; omega)
  have r3a : ilt (up d 4) (Int.ofNat 1) = false := ilt_f.2 (by simp only [iofn]; omega)
  have r3b : ilt (Int.ofNat 0) (up d 4) = true := ilt_t.2 (by simp only [iofn]; omega)
  have r3c : ilt (Int.ofNat 64) (up d 4) = false := ilt_f.2 (by simp only [iofn]; omega)
  have r4a : ilt (up e 4) (Int.ofNat 1) = false := ilt_f.2 (by simp only [iofn]; omega)
  have r4b : ilt (Int.ofNat 0) (up e 4) = true := ilt_t.2 (by simp only [iofn]; omega)
  have r4c : ilt (Int.ofNat 64) (up e 4) = false := ilt_f.2 (by simp only [iofn]; omega)
  have r5a : ilt (up f 6) (Int.ofNat 1) = false := ilt_f.2 (by simp only [iofn]; omega)
  have r5b : ilt (Int.ofNat 0) (up f 6) = true := ilt_t.2 (by simp only [iofn]; omega)
  have r5c : ilt (Int.ofNat 256) (up f 6) = false := ilt_f.2 (by simp only [iofn]; omega)
  have r6a : ilt (firstF i) (Int.ofNat 1) = false := ilt_f.2 (by simp only [iofn]; omega)
  have r6b : ilt (Int.ofNat 0) (firstF i) = true := ilt_t.2 (by simp only [iofn]; omega)
  have t1 : ilt (wr IntKind.i64 ((Int.negSucc 0).sub (wr IntKind.i64 k))) (Int.ofNat 0) = true := by rw [e4]; exact ilt_t.2 (by simp only [iofn]; omega)
  have t2 : ilt (wr IntKind.i64 ((Int.ofNat 2001).add (wr IntKind.i64 k))) (Int.ofNat 0) = false := by rw [e3]; exact ilt_f.2 (by simp only [iofn]; omega)
  have t3 : ilt (Int.ofNat 2000) (wr IntKind.i64 ((Int.ofNat 2001).add (wr IntKind.i64 k))) = true := by rw [e3]; exact ilt_t.2 (by simp only [iofn]; omega)
  have t4 : ilt (wr IntKind.i64 ((Int.ofNat 1001).add (wr IntKind.i64 k))) (Int.ofNat 0) = false := by rw [e2]; exact ilt_f.2 (by simp only [iofn]; omega)
  have t5 : ilt (Int.ofNat 1000) (wr IntKind.i64 ((Int.ofNat 1001).add (wr IntKind.i64 k))) = true := by rw [e2]; exact ilt_t.2 (by simp only [iofn]; omega)
  rw [w1]
  clear e1 e2 e3 e4 hw hc hb h hk
  repeat' (first | with_reducible assumption | with_reducible exact rfl | exact trivial | apply And.intro | (intro hq; first | (rw [t1] at hq; cases hq; done) | (rw [t2] at hq; cases hq; done) | (rw [t3] at hq; cases hq; done) | (rw [t4] at hq; cases hq; done) | (rw [t5] at hq; cases hq; done) | clear hq))
theorem run2 (h : u8r a ∧ u8r b ∧ u8r c ∧ u8r d ∧ u8r e ∧ u8r f ∧ u8r g ∧ u8r i) (hk : 0 ≤ k ∧ k ≤ 65535) (hb : up b 2 = Int.ofNat 2) : fnW (GL (Int.ofNat 2)) (sp (Int.ofNat 2)) 200 iRefuses [n8 a b c d e f g i, .int .u16 k] hA (fun v _ => v = .bool true) := by
  have hc := conf_in h
  unfold cfgOk at hc
  rw [hb] at hc
  have hw : wr .i64 k = k := wr64 (by omega) (by omega)
  have e1 : wr .i64 ((Int.ofNat 257).add (wr .i64 k)) = 257 + k := by rw [hw, iofn, iadd, wr64 (by omega) (by omega)]; rfl
  have e2 : wr .i64 ((Int.ofNat 1001).add (wr .i64 k)) = 1001 + k := by rw [hw, iofn, iadd, wr64 (by omega) (by omega)]; rfl
  have e3 : wr .i64 ((Int.ofNat 2001).add (wr .i64 k)) = 2001 + k := by rw [hw, iofn, iadd, wr64 (by omega) (by omega)]; rfl
  have e4 : wr .i64 ((Int.negSucc 0).sub (wr .i64 k)) = -1 - k := by rw [hw, isub, wr64 (by omega) (by omega)]; rfl
  have m0 : (!eqI (up b 2) (Int.ofNat 2)) = false := by rw [hb]; rfl
  have m1 : (!eqI (MachV (up a 12) (Int.ofNat 2) (up c 4) (up d 4) (up e 4) (wr IntKind.i64 ((Int.ofNat 257).add (wr IntKind.i64 k))) (up (wr IntKind.u8 (f.tdiv (Int.ofNat 6))) 3) (up g 5) (capF g i) (firstF i)) (Int.ofNat 2)) = false := by
    rw [e1, MachV_f _ _ _ _ _ _ _ _ _ _ (by omega)]; rfl
  have m2 : (!eqI (MachV (up a 12) (Int.ofNat 2) (up c 4) (up d 4) (up e 4) (up f 6) (up (wr IntKind.u8 (f.tdiv (Int.ofNat 6))) 3) (up g 5) (capF g i) (firstF i)) (Int.ofNat 0)) = false := by
    rw [MachV_t _ _ _ _ _ _ _ _ _ _ (by simp only [iofn] at hc ⊢; omega)]; rfl
  have m3 : okAllowed (up a 12) (Int.ofNat 2) (up c 4) (up d 4) (up e 4) (up f 6) (up (wr IntKind.u8 (f.tdiv (Int.ofNat 6))) 3) (up g 5) (capF g i) (firstF i) = true := (okAllowed_t ..).2 (by simp only [iofn] at hc ⊢; omega)
  have s1 : badSlots (up a 12) (firstF i) = false := (badSlots_f ..).2 (by omega)
  have s2 : badSlots (Int.ofNat 256) (firstF i) = false := (badSlots_f ..).2 (by simp only [iofn]; omega)
  have s3 : badSlots (Int.ofNat 64) (firstF i) = false := (badSlots_f ..).2 (by simp only [iofn]; omega)
  have g1 : (!ieq (GensV (firstF i)) (Int.ofNat 0)) = false := by rw [GensV_t _ (by omega)]; rfl
  have r1a : ilt (up a 12) (Int.ofNat 1) = false := ilt_f.2 (by simp only [iofn]; omega)
  have r1b : ilt (Int.ofNat 0) (up a 12) = true := ilt_t.2 (by simp only [iofn]; omega)
  have r1c : ilt (Int.ofNat 256) (up a 12) = false := ilt_f.2 (by simp only [iofn]; omega)
  have r2a : ilt (up c 4) (Int.ofNat 1) = false := ilt_f.2 (by simp only [iofn]; omega)
  have r2b : ilt (Int.ofNat 0) (up c 4) = true := ilt_t.2 (by simp only [iofn]; omega)
  have r2c : ilt (Int.ofNat 64) (up c 4) = false := ilt_f.2 (by simp only [iofn]; omega)
  have r3a : ilt (up d 4) (Int.ofNat 1) = false := ilt_f.2 (by simp only [iofn]; omega)
  have r3b : ilt (Int.ofNat 0) (up d 4) = true := ilt_t.2 (by simp only [iofn]; omega)
  have r3c : ilt (Int.ofNat 64) (up d 4) = false := ilt_f.2 (by simp only [iofn]; omega)
  have r4a : ilt (up e 4) (Int.ofNat 1) = false := ilt_f.2 (by simp only [iofn]; omega)
  have r4b : ilt (Int.ofNat 0) (up e 4) = true := ilt_t.2 (by simp only [iofn]; omega)
  have r4c : ilt (Int.ofNat 64) (up e 4) = false := ilt_f.2 (by simp only [iofn]; omega)
  have r5a : ilt (up f 6) (Int.ofNat 1) = false := ilt_f.2 (by simp only [iofn]; omega)
  have r5b : ilt (Int.ofNat 0) (up f 6) = true := ilt_t.2 (by simp only [iofn]; omega)
  have r5c : ilt (Int.ofNat 256) (up f 6) = false := ilt_f.2 (by simp only [iofn]; omega)
  have r6a : ilt (firstF i) (Int.ofNat 1) = false := ilt_f.2 (by simp only [iofn]; omega)
  have r6b : ilt (Int.ofNat 0) (firstF i) = true := ilt_t.2 (by simp only [iofn]; omega)
  have t1 : ilt (wr IntKind.i64 ((Int.negSucc 0).sub (wr IntKind.i64 k))) (Int.ofNat 0) = true := by rw [e4]; exact ilt_t.2 (by simp only [iofn]; omega)
  have t2 : ilt (wr IntKind.i64 ((Int.ofNat 2001).add (wr IntKind.i64 k))) (Int.ofNat 0) = false := by rw [e3]; exact ilt_f.2 (by simp only [iofn]; omega)
  have t3 : ilt (Int.ofNat 2000) (wr IntKind.i64 ((Int.ofNat 2001).add (wr IntKind.i64 k))) = true := by rw [e3]; exact ilt_t.2 (by simp only [iofn]; omega)
  have t4 : ilt (wr IntKind.i64 ((Int.ofNat 1001).add (wr IntKind.i64 k))) (Int.ofNat 0) = false := by rw [e2]; exact ilt_f.2 (by simp only [iofn]; omega)
  have t5 : ilt (Int.ofNat 1000) (wr IntKind.i64 ((Int.ofNat 1001).add (wr IntKind.i64 k))) = true := by rw [e2]; exact ilt_t.2 (by simp only [iofn]; omega)
  rw [w2]
  clear e1 e2 e3 e4 hw hc hb h hk
  repeat' (first | with_reducible assumption | with_reducible exact rfl | exact trivial | apply And.intro | (intro hq; first | (rw [t1] at hq; cases hq; done) | (rw [t2] at hq; cases hq; done) | (rw [t3] at hq; cases hq; done) | (rw [t4] at hq; cases hq; done) | (rw [t5] at hq; cases hq; done) | clear hq))
theorem two (hb : u8r b) : up b 2 = Int.ofNat 1 ∨ up b 2 = Int.ofNat 2 := by
  unfold u8r at hb
  obtain ⟨y, h1, h2, h3⟩ := up_eq (x := b) (n := 2) (by omega) (by omega) (by omega)
  simp only [iofn]
  omega
end
theorem law (hW : ∀ bb, ExtOK Tryz.prog (GL bb)) {a b c d e f g i k : Int} (h : u8r a ∧ u8r b ∧ u8r c ∧ u8r d ∧ u8r e ∧ u8r f ∧ u8r g ∧ u8r i) (hk : 0 ≤ k ∧ k ≤ 65535) {ρ : Ren} {cargs : Array Value} {w : World} (ha : Rels ρ [n8 a b c d e f g i, .int .u16 k] cargs.toList) (hS : Sim ρ hA w) (n : Nat) :
    CallsIn Fence.wide n Tryz.prog iRefuses cargs w (fun e w' => ∃ c, e = .returned c ∧ Below w.heap.size w w' ∧ ∀ ρ', Rel ρ' (.bool true) c) := by
  rcases two h.2.1 with hb | hb
  · exact law_w (mk_ok _).1 (mk_ok _).2 (hW (Int.ofNat 1)) kxV_ok (run1 h hk hb) rfl (hVars_ro _ _) ha hS n
  · exact law_w (mk_ok _).1 (mk_ok _).2 (hW (Int.ofNat 2)) kxV_ok (run2 h hk hb) rfl (hVars_ro _ _) ha hS n
end RT
end Go.Proofs.YtemanejjmkjfnaaGreatDoor

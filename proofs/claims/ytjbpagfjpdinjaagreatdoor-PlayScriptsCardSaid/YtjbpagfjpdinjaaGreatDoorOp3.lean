/- (*dice).op as a call whose contract speaks of the memory. -/
import Derived.Test.YtjbpagfjpdinjaaGreatDoorOp2
namespace Go.Ev
open Go.RowKit
theorem sim_kept {ρ : Ren} {h h2 : H} {w : World} (hS : Sim ρ h w) (hn : h.next ≤ h2.next) (hh : ∀ b o, h2.tr.get b = some o → ∃ o', h.tr.get b = some o' ∧ (o.rw = true → o'.rw = true) ∧ ∀ ρ L c, ORel ρ o' L c → ORel ρ o L c) : Sim ρ h2 w := by
  refine ⟨hS.glob, fun b L hb => Nat.lt_of_lt_of_le (hS.dom b L hb) hn, fun b o hb => ?_, fun b b' o o' L L' hb hb' => ?_⟩
  · obtain ⟨o', p1, _, p3⟩ := hh b o hb
    obtain ⟨L, c, l1, l2, l3⟩ := hS.live b o' p1
    exact ⟨L, c, l1, l2, p3 ρ L c l3⟩
  · obtain ⟨o1, p1, _⟩ := hh b o hb
    obtain ⟨o2, p2, _⟩ := hh b' o' hb'
    exact hS.inj b b' o1 o2 L L' p1 p2
theorem ext_kept {ρ ρ' : Ren} {h h' h2 : H} {w w' : World} (hE : Ext ρ h w ρ' h' w') (hn : h'.next ≤ h2.next) (hh : ∀ b o, h2.tr.get b = some o → ∃ o', h'.tr.get b = some o' ∧ (o.rw = true → o'.rw = true) ∧ ∀ ρ L c, ORel ρ o' L c → ORel ρ o L c) : Ext ρ h w ρ' h2 w' := by
  refine ⟨Nat.le_trans hE.next hn, hE.agree, hE.size, hE.frame, fun b o L hb hL hlt => ?_, hE.tape, hE.os, hE.output⟩
  obtain ⟨o', p1, p2, _⟩ := hh b o hb
  obtain ⟨b0, o0, L0, q1, q2, q3, q4⟩ := hE.origin b o' L p1 hL hlt
  exact ⟨b0, o0, L0, q1, q2, q3, fun r => q4 (p2 r)⟩
end Go.Ev
namespace Go.Proofs.YtjbpagfjpdinjaaGreatDoor
set_option maxRecDepth 100000
open Go.Ev Go.RowKit
namespace OD
theorem tD_get {x m : Int} {b : Nat} {o : O} (h : (tD x m).get b = some o) : (b = 1016 ∧ o = diceO x m) ∨ (b, o) ∈ kept := by
  simp only [tD, T.get_put] at h
  split at h
  · cases h; exact .inl ⟨by assumption, rfl⟩
  · right
    simp only [keptT, putPre_get] at h
    split at h
    · rename_i p hp
      cases h
      have h1 := List.find?_some hp
      rw [T.beq_true] at h1
      have h2 := List.mem_of_find?_eq_some hp
      rw [← h1]
      exact h2
    · rw [T.get_leaf] at h; cases h
theorem dice_o {a b : V} {o : Option O} (h : diceX o = some (a, b)) : ∃ o', o = some o' ∧ o'.rw = true ∧ ∀ ρ L c, ORel ρ o' L c → ORel ρ (.cells (some tDice) 2 [a, b] .leaf) L c := by
  unfold diceX at h
  split at h
  · rename_i e pat tr
    split at h
    · rename_i u v h0 h2 h3
      cases h
      have h0 := (T.beq_true).1 h0
      subst h0
      refine ⟨_, rfl, rfl, fun ρ L c ho => ?_⟩
      obtain ⟨cs, el, lo, hi, x1, x2, x3, x4, x5, x6⟩ := ho
      refine ⟨cs, el, lo, hi, x1, x2, x3, x4, x5, x6.1, fun i v x hv hx => ?_⟩
      obtain ⟨hi', hv⟩ := cell_pat hv
      match i, hi', hv with
      | 0, _, hv => cases hv; exact x6.2 0 _ x h2 hx
      | 1, _, hv => cases hv; exact x6.2 1 _ x h3 hx
    · cases h
  · cases h
theorem keeps {h' : H} {x m : Int} (h1 : diceX (h'.tr.get 1016) = some (.int .u32 x, .int .i64 m)) (h2 : Go.Ev.has h' kept = true) {n : Nat} : ∀ b o, (hD x m n).tr.get b = some o → ∃ o', h'.tr.get b = some o' ∧ (o.rw = true → o'.rw = true) ∧ ∀ ρ L c, ORel ρ o' L c → ORel ρ o L c := fun b o hb => by
  rcases tD_get hb with ⟨rfl, rfl⟩ | hm
  · obtain ⟨o', p1, p2, p3⟩ := dice_o h1
    exact ⟨o', p1, fun _ => p2, p3⟩
  · obtain ⟨o', p1, p2⟩ := has_get h2 (b, o) hm
    obtain ⟨p3, p4⟩ := O.beq_rel p2
    exact ⟨o', p1, fun r => by rw [p3]; exact r, p4⟩
abbrev opA (o : OpR) : V := .agg 6 (opV o) .leaf
theorem op_call {x m : Int} (hx : inX x) (h1 : 1 ≤ m) (h2 : m ≤ 4) {ρ : Ren} {cargs : Array Value} {w : World} (hS : Sim ρ (hD x m 1047) w) (ha : Rels ρ args cargs.toList) (k : Nat) :
    CallsIn Fence.wide k Tryz.prog iOp cargs w (Ret (Post ρ (hD x m 1047) w (opA (opF x m).2) (hD (opF x m).1 m 1200))) := by
  refine (call_w (G := G0) (mk_ok _).1 (mk_ok _).2 ext_none (kx_none _) (op_fn hx h1 h2) ha hS k).mono fun en w' ⟨v, h', c, ρ', q1, q2, q3, q4, q5⟩ => ?_
  obtain ⟨g1, g2, g3, g4⟩ := q1
  refine ⟨c, q2, ρ', sim_kept q3 g4 (keeps g2 g3), ext_kept q4 g4 (keeps g2 g3), ?_⟩
  unfold cellsA at g1
  split at g1
  · rename_i n l hc
    split at g1
    · rename_i hn
      rw [T.beq_true] at hn
      subst hn
      cases g1
      exact canonV_rel hc q5
    · cases g1
  · cases g1
end OD
end Go.Proofs.YtjbpagfjpdinjaaGreatDoor

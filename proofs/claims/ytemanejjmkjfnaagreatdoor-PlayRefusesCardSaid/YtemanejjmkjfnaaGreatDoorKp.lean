/- Memories that say the same, with more numbers given. -/
import Derived.Test.YtemanejjmkjfnaaGreatDoorEvF
namespace Go.Ev
open Go.RowKit
theorem sim_kept {ρ : Ren} {h h2 : H} {w : World} (hS : Sim ρ h w) (hn : h.next ≤ h2.next) (hh : ∀ b o, h2.tr.get b = some o → ∃ o', h.tr.get b = some o' ∧ (o.rw = true → o'.rw = true) ∧ ∀ ρ L c, ORel ρ o' L c → ORel ρ o L c) : Sim ρ h2 w := by
  refine ⟨hS.glob, fun b L hb => Nat.lt_of_lt_of_le (hS.dom b L hb) hn, fun b o hb => ?_, fun b b' o o' L L' hb hb' => ?_⟩
  · obtain ⟨o', p1, _, p3⟩ := hh b o hb
    obtain ⟨L, c, l1, l2, l3⟩ := hS.live b o' p1
    exact ⟨L, c, l1, l2, p3 ρ L c l3⟩
  · obtain ⟨o1, p1, _⟩ := hh b o hb
    obtain ⟨o2, p2, _⟩ := hh b' o' hb'
    exact hS.inj b b' o1 o2 L L' p1 p2
theorem ext_kept {ρ ρ' : Ren} {h h' h2 : H} {w w' : World} (hE : Ext ρ h w ρ' h' w') (hn : h'.next ≤ h2.next) (hh : ∀ b o, h2.tr.get b = some o → ∃ o', h'.tr.get b = some o' ∧ (o.rw = true → o'.rw = true) ∧ ∀ ρ L c, ORel ρ o' L c → ORel ρ o L c) : Ext ρ h w ρ' h2 w' := by
  refine ⟨Nat.le_trans hE.next hn, hE.agree, hE.size, hE.frame, fun b o L hb hL hlt => ?_, hE.tape, hE.os, hE.output⟩
  obtain ⟨o', p1, p2, _⟩ := hh b o hb
  obtain ⟨b0, o0, L0, q1, q2, q3, q4⟩ := hE.origin b o' L p1 hL hlt
  exact ⟨b0, o0, L0, q1, q2, q3, fun r => q4 (p2 r)⟩
/-- a memory that says the same, with more numbers given -/
theorem at_kept {ρ0 : Ren} {h0 : H} {w0 : World} {env : Env} {h : H} {defs : List Nat} {a : Act} {w : World} (hA : At ρ0 h0 w0 ⟨env, h, defs⟩ a w) {h2 : H} (hn : h.next ≤ h2.next) (hh : ∀ b o, h2.tr.get b = some o → ∃ o', h.tr.get b = some o' ∧ (o.rw = true → o'.rw = true) ∧ ∀ ρ L c, ORel ρ o' L c → ORel ρ o L c) : At ρ0 h0 w0 ⟨env, h2, defs⟩ a w := by
  obtain ⟨ρ, s1, s2, s3, s4⟩ := hA
  exact ⟨ρ, sim_kept s1 hn hh, ext_kept s2 hn hh, s3, s4⟩
end Go.Ev

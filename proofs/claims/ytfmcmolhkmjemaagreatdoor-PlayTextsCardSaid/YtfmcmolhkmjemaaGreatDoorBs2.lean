/- (*strings.Builder).String, at a builder of this run. -/
import Derived.Test.YtfmcmolhkmjemaaGreatDoorBs1
namespace Go.Proofs.YtfmcmolhkmjemaaGreatDoor
set_option maxRecDepth 100000
open Go.Ev Go.RowKit
namespace ST
theorem ret_out {Q : V → H → Prop} {st : St} (h : retIs Q st) : ∃ h2 v, takeAll st.defs st.h = some h2 ∧ resultsO G0 h2 st.env fn = some v ∧ Q v h2 := by
  unfold retIs at h
  split at h
  · split at h
    · exact ⟨_, _, by assumption, by assumption, h⟩
    · cases h
  · cases h
/-- the text that was written -/
theorem read {s : List UInt8} {m : Nat} (hm : s.length = m + 1) (hk : m + 1 ≤ 100000) {ρ : Ren} {cargs : Array Value} {w : World} (ha : Rels ρ [.ptr 1001 0] cargs.toList) (hS : Sim ρ (hE m (byts s) 1003) w) (k : Nat) :
    CallsIn Fence.wide k Tryz.prog iStr cargs w (Ret (Post ρ (hE m (byts s) 1003) w (.str s) ((hE m (byts s) 1015).set 1002 (some (.ro none (byts s).length (byts s) .leaf))))) := by
  have hG : GOk Tryz.prog G0 := (mk_ok _).1
  have hC : Codes G0 := (mk_ok _).2
  have hK : KxOK G0 sp.kx := kx_none _
  have hX := BT.G0_x
  refine callsIn_of_wp_marks isFn body trivial ?_
  rw [tmps]
  have hen := at_enter hS ha (n := 14) (show 1 ≤ 14 by decide)
  have A0 : At ρ (hE m (byts s) 1003) w (S [(0, .ptr 1001 0)] (hE m (byts s) 1003)) _ w := at_less hen (hasT_get ⟨rfl, trivial⟩) (Nat.le_refl _) (fun _ _ h => h) rfl rfl
  refine at_w hG hC hX hK (N := 40) (fn := iStr) (K := fun x st => match x with | .ret => retIs (fun v h' => v = .str s ∧ h' = (hE m (byts s) 1015).set 1002 (some (.ro none (byts s).length (byts s) .leaf))) st | _ => False) A0 ?_ ok fun x st a5 w5 k5 A11 => ?_
  · refine Eq.mpr (ST.w1 ..) ⟨⟨_, _, fS_eq hm hk⟩, fun s' h hh => ⟨by repeat' (first | exact rfl | exact trivial | apply And.intro), ?_⟩⟩
    rw [fS_eq hm hk] at hh
    cases hh
    exact ⟨rfl, rfl⟩
  cases x with
  | normal => cases k5
  | exit _ => cases k5
  | ret =>
  obtain ⟨h2, v, e1, e2, e3, e4⟩ := ret_out k5
  subst e3
  subst e4
  obtain ⟨ρ', s1, s2, s3, s4⟩ := A11
  exact body_out (n := k) hG e1 e2 s2 s1 s3 s4 fun c w2 c1 c2 c3 => ⟨c, rfl, ρ', c2, c3, c1⟩
end ST
end Go.Proofs.YtfmcmolhkmjemaaGreatDoor

/- What 'works' does: the examples of the chapter hold, in whatever memory in which the letters of answers lie as they are laid. -/
import Derived.Test.YtbhogdpjlligdaaGreatDoorNil1
namespace Go.Proofs.YtbhogdpjlligdaaGreatDoor
set_option maxRecDepth 100000
open Go.Ev Go.RowKit
def letters : List Nat := [0, 111, 108, 102]
def isTrue : V → Bool
  | .bool b => b
  | _ => false
noncomputable def yes (r : Option (V × H)) : Bool :=
  match r with
  | some (v, _) => isTrue v
  | .none => false
theorem works_run : yes (evT G0 100000 5 [] (hLet letters 1000)) = true := by kernel_rfl
theorem works_ok {W : World} (hL : LetOk letters W) (k : Nat) : CallsIn Fence.wide k Tryz.prog 5 #[] W (fun e w' => e = .returned (.bool true) ∧ Below W.heap.size W w') := by
  have hrun := works_run
  unfold yes at hrun
  split at hrun
  · rename_i v h' hv
    obtain ⟨z, hz⟩ := sim_let hL
    obtain ⟨hG, hC⟩ := mk_ok fun _ _ _ => .none
    refine (call_below hG hC ext_none hv (hLet_ro _ _) Rels.nil (hz 1000 (Nat.le_refl _)) k).mono fun e w' ⟨c, h1, h2, ρ', _, h3⟩ => ?_
    cases v with
    | bool b =>
      have hb : b = true := hrun
      subst hb
      cases h3
      exact ⟨h1, h2⟩
    | _ => simp [isTrue] at hrun
  · cases hrun
end Go.Proofs.YtbhogdpjlligdaaGreatDoor

/- PlayRefuses returns true for every input, and its arguments read afterwards as before: the row, and the card; the package-level variables that it lists hold what their initialisers lay. -/
import Derived.Test.YtemanejjmkjfnaaGreatDoorRow2
import Derived.Test.YtemanejjmkjfnaaGreatDoorGo
import Derived.Test.YtemanejjmkjfnaaGreatDoorJ
import Derived.Test.YtemanejjmkjfnaaGreatDoorTie
import Derived.Test.YtemanejjmkjfnaaGreatDoorCards
import Derived.ProofKit
import Derived.LaidMore
import Derived.OpenShut
import Derived.Stop.Joined
import Derived.SevenTiedAt
import Derived.Carry
namespace Go.Proofs.YtemanejjmkjfnaaGreatDoor
set_option maxRecDepth 100000
open Go.ChangeShapes Go.WideShapes Go.ChangeAt Go.WideMaps Go.WideElems Go.RowKit
namespace Claim
theorem lifted (os : Os) (started : os.Started) (H : Type) (enc : TypeId × Value → H) :
    ReturnsInHanded {} Tryz.checked os 3 .any (fun w args => (Rows.playRefusesSpec.pre enc Tryz.prog Tryz.f3 [] false w args ∧ laidMetH Tryz.prog lets w) ∧ sizedMet enc Tryz.prog Tryz.f3 (OpenSpec.ofChange Rows.playRefusesSpec) false w args)
      (Rows.playRefusesSpec.post enc Tryz.prog Tryz.f3 false true false false) := by
  refine returnsInHanded_of_change_and (C := Tryz.checked) (X := fun w _ => laidMetH Tryz.prog lets w) (fun _ _ _ hh h => h.of_heap hh) own started noInit Tryz.func3
    (ChangeSpec.witness_shaped (enc := enc) (C := Tryz.checked) (os := os) (X := fun w _ => laidMetH Tryz.prog lets w) false (World.doorLaid Tryz.prog 400 os) start 8 rfl (w1 os) (w2 os) (w3 os H enc) (w4 os H enc) (door_met os _)) ?_
  intro W base args ds gs before hval0 hW _ _ hL _
  have hval : ∀ (j : Nat) t v, Tryz.f3.params[j]? = some t → args[j]? = some v → Value.okWide Tryz.prog W .any base t v := hval0
  have hW' := hW
  obtain ⟨p, q, hA0, hV, rfl, hfz, hnd⟩ := hW
  have hA : DataW.TrodAll enc Tryz.prog W 0 (fun _ => true) true Tryz.f3.params.toList args.toList ds p := hA0
  rw [Tryz.params3] at hA hval
  obtain ⟨v0, v1, d0, d1, p0, p1, rfl, rfl, rfl, h0, h1⟩ := trodAll_two hA
  obtain ⟨rfl, rfl⟩ := trodVars_none hV
  simp only [List.append_nil] at hW'
  have hH := held_of_laid hL
  refine (callsIn_wide.1 (law_call hH (hval 0 22 v0 rfl rfl) (hval 1 23 v1 rfl rfl) 0)).mono fun e W' ⟨he, hb⟩ => ?_
  subst he
  exact ⟨_, rfl, post_below hW' rfl h0 h1 hb⟩
theorem f1 : Tryz.prog.funcNamed "estray/estraylaw41.PlayRefuses" = some 3 := by kernel_rfl
theorem f2 : joinedFacts Tryz.prog 3 Tryz.f3 Rows.playRefusesSpec Rows.playRefusesRow = true := Fact.all
theorem f3 : Rows.playRefusesRow.wfByText (OpenSpec.ofChange Rows.playRefusesSpec) = true := by kernel_rfl
theorem f4 : Tryz.prog.mainIs = some (true, "4bef6e9c42a21309758dd8887eed5d53393b46c6b0a8137e4594afec3dc6c7b8".toList) := by kernel_rfl
theorem f5 : true = Tryz.prog.looks [] := by kernel_rfl
theorem f6 : false = Rows.playRefusesRow.goesBy Tryz.prog := Ev.Goes.by_none (by kernel_rfl) (by kernel_rfl) rfl
theorem f7 : ([22, 23].all fun u => !Tryz.prog.wantsStandIn u) = true := by kernel_rfl
theorem inst : Tryz.f3.isInstance Tryz.prog Rows.playRefusesRow.origin Rows.playRefusesRow.targs := of_decide_eq_true (by kernel_rfl)
theorem wrap : Tryz.f3.isWrapper Tryz.prog Rows.playRefusesRow.wrapper Rows.playRefusesRow.mainSum := by
  unfold Func.isWrapper
  first
    | (rw [if_pos (by decide +kernel)]; kernel_rfl)
    | (rw [if_neg (by decide +kernel)]; exact ⟨rfl, rfl⟩)
theorem row_holds : Rows.PlayRefusesSaid :=
  OpenClaim.holds_of_wide 3 Tryz.f3 rfl rfl rfl rfl rfl rfl rfl ⟨rfl, rfl, rfl, rfl, rfl⟩ rfl rfl rfl rfl rfl f1 Tryz.func3 f2 inst wrap
    (fun os started H enc _ => lifted os started H enc)
end Claim
/-- the card -/
theorem playRefuses_holds : Rows.PlayRefusesCardSaid :=
  Claim7.holds_tied_plain_at .later [] [.data, .data, .data, .widerDeep] true (true, "4bef6e9c42a21309758dd8887eed5d53393b46c6b0a8137e4594afec3dc6c7b8") true
    Claim.row_holds (fun _ h => by cases h) Claim.f3 (fun _ h => by cases h) playRefuses_row_tie rfl ⟨rfl, rfl⟩ Claim.f4 rfl
    (fun f fn hf hfn => by
      obtain rfl : f = 3 := Option.some.inj (Claim.f1.symm.trans hf) |>.symm
      obtain rfl : fn = Tryz.f3 := (Option.some.inj (Tryz.func3.symm.trans hfn)).symm
      exact ⟨Claim.f5, fun j t ht => by
        rw [Tryz.params3] at ht
        have hm : t ∈ [22, 23] := by simpa using Array.mem_of_getElem? ht
        exact (show Tryz.prog.wantsStandIn t = false by simpa using List.all_eq_true.1 Claim.f7 t hm)⟩)
    Claim.f6
#print axioms playRefuses_holds
end Go.Proofs.YtemanejjmkjfnaaGreatDoor

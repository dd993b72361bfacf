/- JudgeWords returns true for every input, and its arguments read afterwards as before: the row, and the card; the package-level variable that it lists holds what its initialiser lays. -/
import Derived.Test.YtgadijnefbmgkaaGreatDoorRowW2
import Derived.Test.YtgadijnefbmgkaaGreatDoorGo
import Derived.Test.YtgadijnefbmgkaaGreatDoorK
import Derived.Test.YtgadijnefbmgkaaGreatDoorTie
import Derived.Test.YtgadijnefbmgkaaGreatDoorCards
import Derived.ProofKit
import Derived.LaidMore
import Derived.OpenShut
import Derived.Stop.Joined
import Derived.SevenTiedAt
import Derived.Carry
namespace Go.Proofs.YtgadijnefbmgkaaGreatDoor
set_option maxRecDepth 100000
open Go.ChangeShapes Go.WideShapes Go.ChangeAt Go.WideMaps Go.WideElems Go.RowKit
namespace Claim
theorem lifted (os : Os) (started : os.Started) (H : Type) (enc : TypeId × Value → H) :
    ReturnsInHanded {} Tryz.checked os 4 .any (fun w args => (Rows.judgeWordsSpec.pre enc Tryz.prog Tryz.f4 [] false w args ∧ laidMetH Tryz.prog lets w) ∧ sizedMet enc Tryz.prog Tryz.f4 (OpenSpec.ofChange Rows.judgeWordsSpec) false w args)
      (Rows.judgeWordsSpec.post enc Tryz.prog Tryz.f4 false true false false) := by
  refine returnsInHanded_of_change_and (C := Tryz.checked) (X := fun w _ => laidMetH Tryz.prog lets w) (fun _ _ _ hh h => h.of_heap hh) own started noInit Tryz.func4
    (ChangeSpec.witness_shaped (enc := enc) (C := Tryz.checked) (os := os) (X := fun w _ => laidMetH Tryz.prog lets w) false (World.doorLaid Tryz.prog 400 os) start 8 rfl (w1 os) (w2 os) (w3 os H enc) (w4 os H enc) (door_met os _)) ?_
  intro W base args ds gs before hval0 hW _ _ hL _
  have hval : ∀ (j : Nat) t v, Tryz.f4.params[j]? = some t → args[j]? = some v → Value.okWide Tryz.prog W .any base t v := hval0
  have hW' := hW
  obtain ⟨p, q, hA0, hV, rfl, hfz, hnd⟩ := hW
  have hA : DataW.TrodAll enc Tryz.prog W 0 (fun _ => true) true Tryz.f4.params.toList args.toList ds p := hA0
  rw [Tryz.params4] at hA hval
  obtain ⟨v0, v1, d0, d1, p0, p1, rfl, rfl, rfl, h0, h1⟩ := trodAll_two hA
  obtain ⟨rfl, rfl⟩ := trodVars_none hV
  simp only [List.append_nil] at hW'
  refine (callsIn_wide.1 (law_call (held_of_laid hL) (hval 0 28 v0 rfl rfl) (hval 1 3 v1 rfl rfl) 0)).mono fun e W' ⟨he, hb⟩ => ?_
  subst he
  exact ⟨_, rfl, post_below hW' rfl h0 h1 hb⟩
theorem f1 : Tryz.prog.funcNamed "estray/estraylaw46.JudgeWords" = some 4 := by kernel_rfl
theorem f2 : joinedFacts Tryz.prog 4 Tryz.f4 Rows.judgeWordsSpec Rows.judgeWordsRow = true := FactW.all
theorem f3 : Rows.judgeWordsRow.wfByText (OpenSpec.ofChange Rows.judgeWordsSpec) = true := by kernel_rfl
theorem f4 : Tryz.prog.mainIs = some (true, "00ef7c276923cb49959341abccdc5456aacb652ec7fdfc02d7392aaa034fdaf8".toList) := by kernel_rfl
theorem f5 : true = Tryz.prog.looks [] := by kernel_rfl
theorem f6 : false = Rows.judgeWordsRow.goesBy Tryz.prog := Ev.Goes.by_none (by kernel_rfl) (by kernel_rfl) rfl
theorem f7 : ([28, 3].all fun u => !Tryz.prog.wantsStandIn u) = true := by kernel_rfl
theorem inst : Tryz.f4.isInstance Tryz.prog Rows.judgeWordsRow.origin Rows.judgeWordsRow.targs := of_decide_eq_true (by kernel_rfl)
theorem wrap : Tryz.f4.isWrapper Tryz.prog Rows.judgeWordsRow.wrapper Rows.judgeWordsRow.mainSum := by
  unfold Func.isWrapper
  first
    | (rw [if_pos (by decide +kernel)]; kernel_rfl)
    | (rw [if_neg (by decide +kernel)]; exact ⟨rfl, rfl⟩)
theorem row_holds : Rows.JudgeWordsSaid :=
  OpenClaim.holds_of_wide 4 Tryz.f4 rfl rfl rfl rfl rfl rfl rfl ⟨rfl, rfl, rfl, rfl, rfl⟩ rfl rfl rfl rfl rfl f1 Tryz.func4 f2 inst wrap
    (fun os started H enc _ => lifted os started H enc)
end Claim
/-- the card -/
theorem judgeWords_holds : Rows.JudgeWordsCardSaid :=
  Claim7.holds_tied_plain_at .later [] [.widerDeep, .data] true (true, "00ef7c276923cb49959341abccdc5456aacb652ec7fdfc02d7392aaa034fdaf8") true
    Claim.row_holds (fun _ h => by cases h) Claim.f3 (fun _ h => by cases h) judgeWords_row_tie rfl ⟨rfl, rfl⟩ Claim.f4 rfl
    (fun f fn hf hfn => by
      obtain rfl : f = 4 := Option.some.inj (Claim.f1.symm.trans hf) |>.symm
      obtain rfl : fn = Tryz.f4 := (Option.some.inj (Tryz.func4.symm.trans hfn)).symm
      exact ⟨Claim.f5, fun j t ht => by
        rw [Tryz.params4] at ht
        have hm : t ∈ [28, 3] := by simpa using Array.mem_of_getElem? ht
        exact (show Tryz.prog.wantsStandIn t = false by simpa using List.all_eq_true.1 Claim.f7 t hm)⟩)
    Claim.f6
#print axioms judgeWords_holds
end Go.Proofs.YtgadijnefbmgkaaGreatDoor

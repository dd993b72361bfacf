/- ModelNil returns true for every input, and its arguments read afterwards as before; the package-level variable that it lists holds what its initialiser lays. -/
import Derived.Test.YtbhogdpjlligdaaGreatDoorNil6
namespace Go.Proofs.YtbhogdpjlligdaaGreatDoor
set_option maxRecDepth 100000
open Go.ChangeShapes Go.WideShapes Go.ChangeAt Go.WideMaps Go.WideElems Go.RowKit
namespace Claim
theorem post_below {H : Type} {enc : TypeId × Value → H} {W W' : World} {v0 v1 v2 : Value} {d0 d1 d2 : DataW H} {p0 p1 p2 before : List MemPlace} (hW : DataW.Whole enc Tryz.prog Tryz.f3.params.toList Rows.modelNilSpec.vars false W [v0, v1, v2] [d0, d1, d2] [] before) (hp : before = p0 ++ p1 ++ p2)
    (h0 : DataW.Trod enc Tryz.prog W 0 (fun _ => true) true 29 v0 d0 p0) (h1 : DataW.Trod enc Tryz.prog W 0 (fun _ => true) true 3 v1 d1 p1) (h2 : DataW.Trod enc Tryz.prog W 0 (fun _ => true) true 32 v2 d2 p2) (hb : Below W.heap.size W W') :
    Rows.modelNilSpec.post enc Tryz.prog Tryz.f3 false true false false W #[v0, v1, v2] (.bool true) W' := by
  have hlt : ∀ x ∈ before, x.block < W.heap.size := fun x hx => by simpa using hW.lt x hx
  rw [hp] at hlt
  refine ⟨[d0, d1, d2], [], before, [], p0 ++ (p1 ++ p2), [], hW, ?_, ?_, rfl, hb.frame _, fun h => by cases h⟩
  · rw [show Tryz.f3.resultTypes = #[4] by kernel_rfl]
    exact trodAll_mk1 (shut_bool (by kernel_rfl) true)
  · rw [show Tryz.f3.params = #[29, 3, 32] from Tryz.params3]
    exact trodAll_mk3 (Below.trod laidOut (by kernel_rfl) (of_decide_eq_true (by kernel_rfl)) h0 hb fun x hx => hlt x (by simp [hx]))
      (Below.trod laidOut (by kernel_rfl) (of_decide_eq_true (by kernel_rfl)) h1 hb fun x hx => hlt x (by simp [hx]))
      (Below.trod laidOut (by kernel_rfl) (of_decide_eq_true (by kernel_rfl)) h2 hb fun x hx => hlt x (by simp [hx]))
/-- the door's own heap meets the condition -/
theorem door_met (os : Os) (args : Array Value) : laidMetH Tryz.prog lets ((World.doorLaid Tryz.prog 400 os).forCall (fun _ _ => 0) ⟨#[], args, []⟩).memory :=
  laidMetH_of_parts3 (fuel := 8) (laidMet_of_run' 8 (by kernel_rfl) (by kernel_rfl)) (by kernel_rfl) (by kernel_rfl)
def start : Array Value := #[.agg #[.int .i64 0, .int .i64 0, .int .i64 0, .int .i64 0, .int .i64 0, .string ⟨#[]⟩, .int .i64 0, .int .i64 0, .slice .none 0 0], .int .i64 0, .agg #[.int .i64 0, .int .i64 0, .int .u32 0]]
theorem noInit : Tryz.prog.inits.idxOf? 3 = .none := by kernel_rfl
theorem w1 (os : Os) : ((World.doorLaid Tryz.prog 400 os).forCall (fun _ _ => 0) ⟨#[], start, []⟩).Shaped Tryz.prog := World.shaped_of_RefB (by kernel_rfl) (by kernel_rfl)
theorem w2 (os : Os) : Input.okWideB Tryz.prog ((World.doorLaid Tryz.prog 400 os).forCall (fun _ _ => 0) ⟨#[], start, []⟩) 3 ⟨#[], start, []⟩ = true := by kernel_rfl
theorem w3 (os : Os) (H : Type) (enc : TypeId × Value → H) : Rows.modelNilSpec.preB enc Tryz.prog Tryz.f3 [] false ((World.doorLaid Tryz.prog 400 os).forCall (fun _ _ => 0) ⟨#[], start, []⟩).memory start 8 = true := by kernel_rfl
theorem w4 (os : Os) (H : Type) (enc : TypeId × Value → H) : Rows.modelNilSpec.sizedB enc Tryz.prog Tryz.f3 false ((World.doorLaid Tryz.prog 400 os).forCall (fun _ _ => 0) ⟨#[], start, []⟩).memory start 8 = true := by kernel_rfl
theorem lifted (os : Os) (started : os.Started) (H : Type) (enc : TypeId × Value → H) :
    ReturnsInHanded {} Tryz.checked os 3 .any (fun w args => (Rows.modelNilSpec.pre enc Tryz.prog Tryz.f3 [] false w args ∧ laidMetH Tryz.prog lets w) ∧ sizedMet enc Tryz.prog Tryz.f3 (OpenSpec.ofChange Rows.modelNilSpec) false w args)
      (Rows.modelNilSpec.post enc Tryz.prog Tryz.f3 false true false false) := by
  refine returnsInHanded_of_change_and (C := Tryz.checked) (X := fun w _ => laidMetH Tryz.prog lets w) (fun _ _ _ hh h => h.of_heap hh) own started noInit Tryz.func3
    (ChangeSpec.witness_shaped (enc := enc) (C := Tryz.checked) (os := os) (X := fun w _ => laidMetH Tryz.prog lets w) false (World.doorLaid Tryz.prog 400 os) start 8 rfl (w1 os) (w2 os) (w3 os H enc) (w4 os H enc) (door_met os _)) ?_
  intro W base args ds gs before hval0 hW _ _ hL _
  have hval : ∀ (j : Nat) t v, Tryz.f3.params[j]? = some t → args[j]? = some v → Value.okWide Tryz.prog W .any base t v := hval0
  have hW' := hW
  obtain ⟨p, q, hA0, hV, rfl, hfz, hnd⟩ := hW
  have hA : DataW.TrodAll enc Tryz.prog W 0 (fun _ => true) true Tryz.f3.params.toList args.toList ds p := hA0
  rw [Tryz.params3] at hA hval
  obtain ⟨v0, v1, v2, d0, d1, d2, p0, p1, p2, rfl, rfl, rfl, h0, h1, h2⟩ := trodAll_three hA
  obtain ⟨rfl, rfl⟩ := trodVars_none hV
  simp only [List.append_nil] at hW'
  obtain ⟨x, ρ, hS, hR, ht⟩ := args_in (let_of_laid hL) (hval 0 29 v0 rfl rfl) (hval 1 3 v1 rfl rfl) (hval 2 32 v2 rfl rfl)
  refine (callsIn_wide.1 (Law.ok hS hR ht 0)).mono fun e W' ⟨he, hb⟩ => ?_
  subst he
  exact ⟨_, rfl, post_below hW' rfl h0 h1 h2 hb⟩
theorem f1 : Tryz.prog.funcNamed "estray/estraylaw42.ModelNil" = some 3 := by kernel_rfl
theorem f2 : joinedFacts Tryz.prog 3 Tryz.f3 Rows.modelNilSpec Rows.modelNilRow = true := by kernel_rfl
theorem f3 : Rows.modelNilRow.wfByText (OpenSpec.ofChange Rows.modelNilSpec) = true := by kernel_rfl
theorem f4 : Tryz.prog.mainIs = some (true, "904d65ed3cce035ff23e4d724c30351956a4c94139effe07e2925a3a4fcba03c".toList) := by kernel_rfl
theorem f5 : true = Tryz.prog.looks [] := by kernel_rfl
theorem f6 : false = Rows.modelNilRow.goesBy Tryz.prog := by kernel_rfl
theorem f7 : ([29, 3, 32].all fun u => !Tryz.prog.wantsStandIn u) = true := by kernel_rfl
theorem inst : Tryz.f3.isInstance Tryz.prog Rows.modelNilRow.origin Rows.modelNilRow.targs := of_decide_eq_true (by kernel_rfl)
theorem wrap : Tryz.f3.isWrapper Tryz.prog Rows.modelNilRow.wrapper Rows.modelNilRow.mainSum := by
  unfold Func.isWrapper
  first
    | (rw [if_pos (by decide +kernel)]; kernel_rfl)
    | (rw [if_neg (by decide +kernel)]; exact ⟨rfl, rfl⟩)
theorem row_holds : Rows.ModelNilSaid :=
  OpenClaim.holds_of_wide 3 Tryz.f3 rfl rfl rfl rfl rfl rfl rfl ⟨rfl, rfl, rfl, rfl, rfl⟩ rfl rfl rfl rfl rfl f1 Tryz.func3 f2 inst wrap
    (fun os started H enc _ => lifted os started H enc)
end Claim
/-- the card -/
theorem modelNil_holds : Rows.ModelNilCardSaid :=
  Claim7.holds_tied_plain_at .later [] [.widerDeep] true (true, "904d65ed3cce035ff23e4d724c30351956a4c94139effe07e2925a3a4fcba03c") true
    Claim.row_holds (fun _ h => by cases h) Claim.f3 (fun _ h => by cases h) modelNil_row_tie rfl ⟨rfl, rfl⟩ Claim.f4 rfl
    (fun f fn hf hfn => by
      obtain rfl : f = 3 := Option.some.inj (Claim.f1.symm.trans hf) |>.symm
      obtain rfl : fn = Tryz.f3 := (Option.some.inj (Tryz.func3.symm.trans hfn)).symm
      exact ⟨Claim.f5, fun j t ht => by
        rw [Tryz.params3] at ht
        have hm : t ∈ [29, 3, 32] := by simpa using Array.mem_of_getElem? ht
        exact (show Tryz.prog.wantsStandIn t = false by simpa using List.all_eq_true.1 Claim.f7 t hm)⟩)
    Claim.f6
#print axioms modelNil_holds
end Go.Proofs.YtbhogdpjlligdaaGreatDoor

/- PlayTexts at the nil slice. -/
import Derived.Test.YtfmcmolhkmjemaaGreatDoorPl2
namespace Go.Proofs.YtfmcmolhkmjemaaGreatDoor
set_option maxRecDepth 100000
open Go.Ev Go.RowKit
namespace LT
theorem n1 (R : V → Prop) : (fnW PT.GP BT.sp 40 iText [.nils] hE (fun u _ => R u)) = (
(((True) ∧
  ((Int.ofNat 0) = (Int.ofNat 0))) ∧
 (((True) ∧
   (True)) ∧
  (((True) ∧
    (True)) ∧
   (True)))) ∧
((R (V.tuple [V.str [], V.int IntKind.i64 (Int.ofNat 0)])))) := by kernel_rfl
theorem n2 (R : V → Prop) : (fnW RT.GR BT.sp 40 iRText [.nils] hE (fun u _ => R u)) = (
(R (V.tuple [V.str [], V.int IntKind.i64 (Int.ofNat 0)]))) := by kernel_rfl
theorem says_nil (hI : ShelfItoa) (o : Option O) : Says iText .nils o [] (Int.ofNat 0) ∧ Says iRText .nils o [] (Int.ofNat 0) := by
  have e : ∀ ρ (cargs : Array Value), Rels ρ [V.nils] cargs.toList → Rels rE [V.nils] cargs.toList := fun ρ cargs ha => by
    obtain ⟨c, cs', e1, q1, q2⟩ := ha.uncons
    rw [e1, q2.of_nil]
    cases q1
    exact Rels.cons .nils Rels.nil
  refine ⟨fun ρ cargs W hS ha k => ?_, fun ρ cargs W hS ha k => ?_⟩
  · refine (law_w (G := PT.GP) (sp := BT.sp) (mk_ok _).1 (mk_ok _).2 (PT.GP_x (PT.kI_ok hI)) (kx_none _) (v := .tuple [.str [], .int .i64 (Int.ofNat 0)]) (Eq.mpr (LT.n1 ..) ?_) rfl hE_ro (e ρ cargs ha) (sim_E W) k).mono fun en w' ⟨c, h1, h2, h3⟩ => ⟨_, rfl, h2, c, h1, h3⟩
    repeat' (first | exact rfl | exact trivial | apply And.intro)
  · refine (law_w (G := RT.GR) (sp := BT.sp) (mk_ok _).1 (mk_ok _).2 RT.GR_x (kx_none _) (v := .tuple [.str [], .int .i64 (Int.ofNat 0)]) (Eq.mpr (LT.n2 ..) ?_) rfl hE_ro (e ρ cargs ha) (sim_E W) k).mono fun en w' ⟨c, h1, h2, h3⟩ => ⟨_, rfl, h2, c, h1, h3⟩
    repeat' (first | exact rfl | exact trivial | apply And.intro)
theorem law_none (hI : ShelfItoa) {W : World} {ρ : Ren} {cargs : Array Value} (ha : Rels ρ [.nils] cargs.toList) (hS : Sim ρ (hA .none) W) (k : Nat) :
    CallsIn Fence.wide k Tryz.prog iTexts cargs W (fun en w' => en = .returned (.bool true) ∧ Below W.heap.size W w') := by
  refine law (E := True) (s := []) (e := Int.ofNat 0) (fun x h => by cases h) ?_ (fun _ => (says_nil hI _).1) (fun _ => (says_nil hI _).2) ha hS k
  refine Eq.mpr (LT.w0 ..) ?_
  repeat' (first | exact rfl | exact trivial | apply And.intro | intro _)
end LT
end Go.Proofs.YtfmcmolhkmjemaaGreatDoor

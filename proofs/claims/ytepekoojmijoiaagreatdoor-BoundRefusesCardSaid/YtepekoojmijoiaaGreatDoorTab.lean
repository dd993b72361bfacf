/- The program's tables, as the evaluator has them, are sound; the numbers of functions. -/
import Derived.Test.YtepekoojmijoiaaGreatDoorRows
import Derived.Test.YtepekoojmijoiaaGreatDoorEvF
import Derived.KernelRfl
namespace Go.Proofs.YtepekoojmijoiaaGreatDoor
set_option maxRecDepth 100000
open Go.Ev Go.RowKit
def eqs : List TypeId := [7, 8, 22, 25, 26, 28, 29, 38, 42, 44, 50, 51, 57, 58, 59, 69, 70, 85, 86, 89, 90, 91, 112, 113, 114, 115, 121, 122, 123, 124, 125, 126, 135, 136, 141, 142, 146, 147, 148, 156, 157, 166, 167, 168, 169, 175, 176, 197, 198, 199, 200, 211, 212, 235, 236, 237, 238, 239, 240, 241, 242, 243, 244, 245, 246, 247, 252, 253, 263, 264, 265, 266, 269, 270, 271, 272, 273, 274, 275, 276, 277, 278, 279, 280, 282, 283, 284, 285, 286, 287, 288, 289, 290, 293, 294, 306, 307, 326, 332, 333, 334, 335, 336, 337, 338, 339, 340, 341, 342, 343, 344, 345, 346, 352, 353, 396, 397, 401, 440, 465, 479, 480, 510, 511, 536, 537, 574, 575, 586, 587, 588, 592, 633, 645, 646]
def rows : List (FuncId × Row) := [(283, .clone)]
noncomputable def G0 : Γ := mkG Tryz.prog eqs rows fun _ _ _ => .none
theorem chkF : chkFuncs Tryz.prog.funcs.toList = true := by kernel_rfl
theorem chkT : chkTypes G0 Tryz.prog.types.toList 0 = true := by kernel_rfl
theorem chkE : chkEqs Tryz.prog eqs = true := by kernel_rfl
theorem mixed : Tryz.prog.follows .mixedOrders = true := by kernel_rfl
theorem rowClone : ∃ fn, Tryz.prog.funcs[283]? = some fn ∧ fn.name ≠ "runtime.NumGoroutine" ∧ fn.body = .none ∧ Extern.findNext fn = .none ∧ Extern.find fn = some (rowSem .clone) :=
  ⟨Tryz.f283, Tryz.func283, fun h => absurd (show (Tryz.f283.name == "runtime.NumGoroutine") = false by kernel_rfl) (by rw [h]; decide), by kernel_rfl, by kernel_rfl, by kernel_rfl⟩
/-- the checks do not speak of functions that are taken as known -/
theorem mk_ok (ext : FuncId → List V → H → Option (V × H)) : GOk Tryz.prog (mkG Tryz.prog eqs rows ext) ∧ Codes (mkG Tryz.prog eqs rows ext) :=
  mkG_ok chkF chkT chkE (fun r hr => by
    simp only [rows, List.mem_cons, List.not_mem_nil, or_false] at hr
    subst hr
    exact rowClone) mixed
def iGens : FuncId := 61
def iBack : FuncId := 51
def iRegIn : FuncId := 50
def iColour : FuncId := 90
def iStack : FuncId := 92
def iBuffer : FuncId := 93
def iSweep : FuncId := 56
def iPhantom : FuncId := 57
def iQueue : FuncId := 58
def iQuota : FuncId := 33
def iPhase : FuncId := 91
def iAllowed : FuncId := 26
def iSlots : FuncId := 60
def iHeap : FuncId := 52
def iArena : FuncId := 28
def iMarker : FuncId := 55
def iCycle : FuncId := 29
def iRefq : FuncId := 30
def iTable : FuncId := 31
def iFds : FuncId := 62
def iBufs : FuncId := 63
def iLeases : FuncId := 64
def iOuter : FuncId := 32
def iReg : FuncId := 13
def iMach : FuncId := 9
def iMark : FuncId := 6
def iBound : FuncId := 7
def iCheck : FuncId := 8
def iOf : FuncId := 5
def iFair : FuncId := 10
def iRelease : FuncId := 11
def iChk : FuncId := 14
def iConf : FuncId := 4
def iRefuses : FuncId := 3
def iWorks : FuncId := 12
/-! great runs in parts -/
noncomputable abbrev P : Program := Tryz.prog
noncomputable def GR (t : T Rec) : Γ := mkG Tryz.prog eqs rows (extR t)
theorem snd_of {t : T Rec} (ht : TabOk P t) {r : Rec} (h : r.ok (evT (GR t) 100000 r.f r.args r.start) = true) : Snd P r := fun _ _ _ hh _ _ _ ha hS n =>
  Rec.sound (mk_ok _).1 (mk_ok _).2 (ext_recs ht) h hh ha hS n
def letters : List Nat := [0, 111, 108, 102]
end Go.Proofs.YtepekoojmijoiaaGreatDoor

/- The program's tables, as the evaluator has them, are sound; the numbers of functions. -/
import Derived.Test.YtcbggkejlhifpaaGreatDoorRows
import Derived.Test.YtcbggkejlhifpaaGreatDoorEvF
import Derived.KernelRfl
namespace Go.Proofs.YtcbggkejlhifpaaGreatDoor
set_option maxRecDepth 100000
open Go.Ev Go.RowKit
def eqs : List TypeId := [7, 8, 22, 25, 26, 29, 30, 35, 36, 42, 47, 48, 69, 70, 79, 80, 88, 89, 104, 105, 106, 107, 113, 114, 115, 116, 117, 118, 123, 124, 128, 129, 132, 153, 154, 159, 160, 181, 182, 187, 188, 192, 193, 194, 202, 203, 212, 213, 214, 215, 237, 238, 250, 251, 254, 255, 256, 273, 279, 280, 281, 282, 283, 284, 285, 286, 287, 288, 289, 290, 291, 292, 293, 294, 295, 300, 301, 311, 312, 313, 314, 317, 318, 319, 320, 321, 322, 323, 325, 326, 327, 328, 329, 330, 331, 332, 333, 336, 337, 340, 341, 342, 385, 386, 388, 389, 390, 391, 392, 393, 394, 395, 396, 397, 398, 399, 400, 439, 464, 478, 479, 509, 510, 535, 536, 573, 574, 585, 586, 587, 591, 632, 645, 646]
def rows : List (FuncId × Row) := [(286, .clone)]
noncomputable def G0 : Γ := mkG Tryz.prog eqs rows fun _ _ _ => .none
theorem chkF : chkFuncs Tryz.prog.funcs.toList = true := by kernel_rfl
theorem chkT : chkTypes G0 Tryz.prog.types.toList 0 = true := by kernel_rfl
theorem chkE : chkEqs Tryz.prog eqs = true := by kernel_rfl
theorem mixed : Tryz.prog.follows .mixedOrders = true := by kernel_rfl
theorem rowClone : ∃ fn, Tryz.prog.funcs[286]? = some fn ∧ fn.name ≠ "runtime.NumGoroutine" ∧ fn.body = .none ∧ Extern.findNext fn = .none ∧ Extern.find fn = some (rowSem .clone) :=
  ⟨Tryz.f286, Tryz.func286, fun h => absurd (show (Tryz.f286.name == "runtime.NumGoroutine") = false by kernel_rfl) (by rw [h]; decide), by kernel_rfl, by kernel_rfl, by kernel_rfl⟩
/-- the checks do not speak of functions that are taken as known -/
theorem mk_ok (ext : FuncId → List V → H → Option (V × H)) : GOk Tryz.prog (mkG Tryz.prog eqs rows ext) ∧ Codes (mkG Tryz.prog eqs rows ext) :=
  mkG_ok chkF chkT chkE (fun r hr => by
    simp only [rows, List.mem_cons, List.not_mem_nil, or_false] at hr
    subst hr
    exact rowClone) mixed
def iGens : FuncId := 90
def iBack : FuncId := 80
def iRegIn : FuncId := 79
def iColour : FuncId := 150
def iStack : FuncId := 152
def iBuffer : FuncId := 153
def iSweep : FuncId := 85
def iPhantom : FuncId := 86
def iQueue : FuncId := 87
def iQuota : FuncId := 57
def iPhase : FuncId := 151
def iAllowed : FuncId := 50
def iSlots : FuncId := 89
def iHeap : FuncId := 81
def iArena : FuncId := 52
def iMarker : FuncId := 84
def iCycle : FuncId := 53
def iRefq : FuncId := 54
def iTable : FuncId := 55
def iFds : FuncId := 91
def iBufs : FuncId := 92
def iLeases : FuncId := 93
def iOuter : FuncId := 56
def iReg : FuncId := 30
def iMach : FuncId := 20
def iConf : FuncId := 4
def iBlocks : FuncId := 3
def iWorks : FuncId := 8
def iBlock : FuncId := 5
def iFair : FuncId := 6
def iClone : FuncId := 7
def iMix : FuncId := 9
def iChk : FuncId := 10
def iTurn : FuncId := 11
def iMin : FuncId := 12
def iOpChk : FuncId := 21
def tOp : TypeId := 36
def tOps : TypeId := 28
def tInt : TypeId := 3
def tInts : TypeId := 46
def tCfg : TypeId := 26
def tMix : TypeId := 30
def iLetters : Nat := 0
def iPow : Nat := 1
def iDe32 : Nat := 2
def iDe64 : Nat := 3
noncomputable abbrev P : Program := Tryz.prog
end Go.Proofs.YtcbggkejlhifpaaGreatDoor

/- The program's tables, as the evaluator has them, are sound; the numbers of functions. -/
import Derived.Test.YtjbpagfjpdinjaaGreatDoorRows
import Derived.Test.YtjbpagfjpdinjaaGreatDoorEvF
import Derived.KernelRfl
namespace Go.Proofs.YtjbpagfjpdinjaaGreatDoor
set_option maxRecDepth 100000
open Go.Ev Go.RowKit
def eqs : List TypeId := [7, 8, 22, 25, 26, 33, 34, 41, 42, 46, 47, 74, 75, 79, 80, 81, 82, 89, 90, 101, 102, 119, 120, 129, 130, 133, 134, 135, 159, 160, 168, 169, 183, 184, 188, 189, 194, 195, 199, 200, 201, 209, 210, 219, 220, 221, 222, 228, 229, 241, 242, 244, 260, 261, 268, 269, 270, 271, 272, 273, 274, 275, 276, 277, 278, 279, 280, 281, 282, 287, 288, 298, 299, 300, 301, 304, 305, 306, 307, 308, 310, 311, 312, 313, 314, 315, 316, 318, 319, 320, 321, 322, 323, 324, 325, 326, 327, 344, 350, 351, 352, 353, 354, 355, 364, 365, 366, 367, 368, 369, 370, 371, 372, 373, 374, 375, 376, 378, 379, 448, 461, 462, 481, 519, 520, 523, 524, 549, 550, 589, 590, 591, 595, 630, 643, 644]
def rows : List (FuncId × Row) := [(256, .clone), (113, .same)]
noncomputable def G0 : Γ := mkG Tryz.prog eqs rows fun _ _ _ => .none
theorem chkF : chkFuncs Tryz.prog.funcs.toList = true := by kernel_rfl
theorem chkT : chkTypes G0 Tryz.prog.types.toList 0 = true := by kernel_rfl
theorem chkE : chkEqs Tryz.prog eqs = true := by kernel_rfl
theorem mixed : Tryz.prog.follows .mixedOrders = true := by kernel_rfl
theorem rowClone : ∃ fn, Tryz.prog.funcs[256]? = some fn ∧ fn.name ≠ "runtime.NumGoroutine" ∧ fn.body = .none ∧ Extern.findNext fn = .none ∧ Extern.find fn = some (rowSem .clone) :=
  ⟨Tryz.f256, Tryz.func256, fun h => absurd (show (Tryz.f256.name == "runtime.NumGoroutine") = false by kernel_rfl) (by rw [h]; decide), by kernel_rfl, by kernel_rfl, by kernel_rfl⟩
theorem rowSame : ∃ fn, Tryz.prog.funcs[113]? = some fn ∧ fn.name ≠ "runtime.NumGoroutine" ∧ fn.body = .none ∧ Extern.findNext fn = .none ∧ Extern.find fn = some (rowSem .same) :=
  ⟨Tryz.f113, Tryz.func113, fun h => absurd (show (Tryz.f113.name == "runtime.NumGoroutine") = false by kernel_rfl) (by rw [h]; decide), by kernel_rfl, by kernel_rfl, by kernel_rfl⟩
/-- the checks do not speak of functions that are taken as known -/
theorem mk_ok (ext : FuncId → List V → H → Option (V × H)) : GOk Tryz.prog (mkG Tryz.prog eqs rows ext) ∧ Codes (mkG Tryz.prog eqs rows ext) :=
  mkG_ok chkF chkT chkE (fun r hr => by
    simp only [rows, List.mem_cons, List.not_mem_nil, or_false] at hr
    rcases hr with rfl | rfl
    · exact rowClone
    · exact rowSame) mixed
def iGens : FuncId := 105
def iBack : FuncId := 95
def iRegIn : FuncId := 94
def iColour : FuncId := 138
def iStack : FuncId := 140
def iBuffer : FuncId := 141
def iSweep : FuncId := 100
def iPhantom : FuncId := 101
def iQueue : FuncId := 102
def iQuota : FuncId := 65
def iPhase : FuncId := 139
def iAllowed : FuncId := 58
def iSlots : FuncId := 104
def iHeap : FuncId := 96
def iArena : FuncId := 60
def iMarker : FuncId := 99
def iCycle : FuncId := 61
def iRefq : FuncId := 62
def iTable : FuncId := 63
def iFds : FuncId := 106
def iBufs : FuncId := 107
def iLeases : FuncId := 108
def iOuter : FuncId := 64
def iReg : FuncId := 29
def iMach : FuncId := 10
def iConf : FuncId := 4
def iScripts : FuncId := 3
def iWorks : FuncId := 9
def iRandom : FuncId := 5
def iEqual : FuncId := 6
def iOpChk : FuncId := 7
def iMut : FuncId := 8
def iOp : FuncId := 12
def iBelow : FuncId := 37
def iRecs : FuncId := 11
def tOp : TypeId := 34
def tOps : TypeId := 28
def tDice : TypeId := 42
def tInt : TypeId := 3
def tCfg : TypeId := 26
def tRec : TypeId := 90
def iA1 : FuncId := 66
def iAb1 : FuncId := 67
def iB1 : FuncId := 68
def iStore : FuncId := 31
def iOpen : FuncId := 34
def iNothing : FuncId := 35
def iOther : FuncId := 36
def iLetters : Nat := 0
def iPow : Nat := 1
def iDe32 : Nat := 2
def iDe64 : Nat := 3
noncomputable abbrev P : Program := Tryz.prog
end Go.Proofs.YtjbpagfjpdinjaaGreatDoor

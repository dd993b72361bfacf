/- The program's tables, as the evaluator has them, are sound; the numbers of functions. -/
import Derived.Test.YtemanejjmkjfnaaGreatDoorRows
import Derived.Test.YtemanejjmkjfnaaGreatDoorEvF
import Derived.KernelRfl
namespace Go.Proofs.YtemanejjmkjfnaaGreatDoor
set_option maxRecDepth 100000
open Go.Ev Go.RowKit
def eqs : List TypeId := [7, 8, 22, 25, 26, 30, 41, 54, 55, 62, 63, 64, 65, 68, 69, 80, 81, 97, 98, 99, 100, 105, 106, 118, 119, 123, 124, 125, 139, 140, 141, 142, 166, 167, 174, 175, 180, 181, 185, 186, 187, 195, 196, 205, 206, 207, 208, 214, 215, 234, 235, 244, 245, 253, 254, 259, 260, 272, 275, 276, 277, 278, 279, 280, 281, 282, 283, 284, 285, 286, 287, 292, 293, 303, 304, 305, 306, 309, 310, 311, 312, 313, 315, 316, 317, 318, 319, 320, 321, 323, 324, 325, 326, 327, 328, 329, 330, 331, 337, 338, 342, 343, 344, 345, 353, 383, 384, 385, 386, 387, 388, 389, 390, 391, 392, 393, 394, 395, 407, 408, 450, 466, 485, 519, 520, 525, 526, 529, 530, 555, 556, 595, 596, 597, 601, 636, 648, 649]
def rows : List (FuncId × Row) := [(308, .clone), (114, .same)]
noncomputable def G0 : Γ := mkG Tryz.prog eqs rows fun _ _ _ => .none
theorem chkF : chkFuncs Tryz.prog.funcs.toList = true := by kernel_rfl
theorem chkT : chkTypes G0 Tryz.prog.types.toList 0 = true := by kernel_rfl
theorem chkE : chkEqs Tryz.prog eqs = true := by kernel_rfl
theorem mixed : Tryz.prog.follows .mixedOrders = true := by kernel_rfl
theorem rowClone : ∃ fn, Tryz.prog.funcs[308]? = some fn ∧ fn.name ≠ "runtime.NumGoroutine" ∧ fn.body = .none ∧ Extern.findNext fn = .none ∧ Extern.find fn = some (rowSem .clone) :=
  ⟨Tryz.f308, Tryz.func308, fun h => absurd (show (Tryz.f308.name == "runtime.NumGoroutine") = false by kernel_rfl) (by rw [h]; decide), by kernel_rfl, by kernel_rfl, by kernel_rfl⟩
theorem rowSame : ∃ fn, Tryz.prog.funcs[114]? = some fn ∧ fn.name ≠ "runtime.NumGoroutine" ∧ fn.body = .none ∧ Extern.findNext fn = .none ∧ Extern.find fn = some (rowSem .same) :=
  ⟨Tryz.f114, Tryz.func114, fun h => absurd (show (Tryz.f114.name == "runtime.NumGoroutine") = false by kernel_rfl) (by rw [h]; decide), by kernel_rfl, by kernel_rfl, by kernel_rfl⟩
/-- the checks do not speak of functions that are taken as known -/
theorem mk_ok (ext : FuncId → List V → H → Option (V × H)) : GOk Tryz.prog (mkG Tryz.prog eqs rows ext) ∧ Codes (mkG Tryz.prog eqs rows ext) :=
  mkG_ok chkF chkT chkE (fun r hr => by
    simp only [rows, List.mem_cons, List.not_mem_nil, or_false] at hr
    rcases hr with rfl | rfl
    · exact rowClone
    · exact rowSame) mixed
def iGens : FuncId := 94
def iBack : FuncId := 84
def iRegIn : FuncId := 83
def iColour : FuncId := 153
def iStack : FuncId := 155
def iBuffer : FuncId := 156
def iSweep : FuncId := 89
def iPhantom : FuncId := 90
def iQueue : FuncId := 91
def iQuota : FuncId := 55
def iPhase : FuncId := 154
def iAllowed : FuncId := 48
def iSlots : FuncId := 93
def iHeap : FuncId := 85
def iArena : FuncId := 50
def iMarker : FuncId := 88
def iCycle : FuncId := 51
def iRefq : FuncId := 52
def iTable : FuncId := 53
def iFds : FuncId := 95
def iBufs : FuncId := 96
def iLeases : FuncId := 97
def iOuter : FuncId := 54
def iReg : FuncId := 19
def iMach : FuncId := 15
def iConf : FuncId := 4
def iRefuses : FuncId := 3
def iWorks : FuncId := 14
def iRandom : FuncId := 8
def iRun : FuncId := 5
def iResults : FuncId := 6
def iErrors : FuncId := 7
def iNew : FuncId := 9
def iSettle : FuncId := 10
def iCollect : FuncId := 13
def iText : FuncId := 12
def iCopy : FuncId := 20
def iVSlots : FuncId := 235
def iVPaint : FuncId := 300
def iVStack : FuncId := 301
def iVBuffer : FuncId := 302
def iVSweep : FuncId := 231
def iVQueue : FuncId := 306
def iVQuota : FuncId := 171
def iVMarker : FuncId := 187
def iVClock : FuncId := 250
def iQuiet : FuncId := 21
def tOp : TypeId := 63
def tOps : TypeId := 28
def tInt : TypeId := 3
def tCfg : TypeId := 26
def tSlots : TypeId := 321
def iLetters : Nat := 1
def iPow : Nat := 0
def iDe32 : Nat := 2
def iDe64 : Nat := 3
noncomputable abbrev P : Program := Tryz.prog
end Go.Proofs.YtemanejjmkjfnaaGreatDoor

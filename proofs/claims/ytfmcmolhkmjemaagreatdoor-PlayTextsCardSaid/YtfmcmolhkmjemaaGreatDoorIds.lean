/- The program's tables, as the evaluator has them, are sound; the numbers of functions. -/
import Derived.Test.YtfmcmolhkmjemaaGreatDoorRows
import Derived.Test.YtfmcmolhkmjemaaGreatDoorEvF
import Derived.KernelRfl
namespace Go.Proofs.YtfmcmolhkmjemaaGreatDoor
set_option maxRecDepth 100000
open Go.Ev Go.RowKit
def eqs : List TypeId := [7, 8, 28, 29, 34, 35, 52, 53, 57, 58, 59, 60, 65, 66, 85, 86, 93, 94, 102, 103, 107, 108, 112, 113, 121, 122, 130, 131, 145, 146, 152, 175, 176, 179, 181, 182, 188, 189, 194, 195, 207, 215, 216, 220, 221, 236, 237, 238, 239, 245, 246, 255, 256, 261, 262, 274, 280, 281, 282, 283, 288, 289, 290, 291, 301, 302, 304, 305, 307, 308, 309, 310, 311, 312, 314, 315, 317, 318, 319, 320, 321, 322, 323, 324, 325, 326, 327, 328, 329, 339, 340, 341, 342, 345, 346, 347, 348, 350, 351, 352, 353, 354, 355, 356, 387, 388, 389, 390, 395, 396, 397, 398, 399, 400, 401, 402, 403, 445, 458, 459, 461, 480, 518, 519, 522, 523, 548, 549, 588, 589, 590, 594, 629, 642, 643]
def rows : List (FuncId × Row) := [(252, .clone), (72, .same)]
noncomputable def G0 : Γ := mkG Tryz.prog eqs rows fun _ _ _ => .none
theorem chkF : chkFuncs Tryz.prog.funcs.toList = true := by kernel_rfl
theorem chkT : chkTypes G0 Tryz.prog.types.toList 0 = true := by kernel_rfl
theorem chkE : chkEqs Tryz.prog eqs = true := by kernel_rfl
theorem mixed : Tryz.prog.follows .mixedOrders = true := by kernel_rfl
theorem rowClone : ∃ fn, Tryz.prog.funcs[252]? = some fn ∧ fn.name ≠ "runtime.NumGoroutine" ∧ fn.body = .none ∧ Extern.findNext fn = .none ∧ Extern.find fn = some (rowSem .clone) :=
  ⟨Tryz.f252, Tryz.func252, fun h => absurd (show (Tryz.f252.name == "runtime.NumGoroutine") = false by kernel_rfl) (by rw [h]; decide), by kernel_rfl, by kernel_rfl, by kernel_rfl⟩
theorem rowSame : ∃ fn, Tryz.prog.funcs[72]? = some fn ∧ fn.name ≠ "runtime.NumGoroutine" ∧ fn.body = .none ∧ Extern.findNext fn = .none ∧ Extern.find fn = some (rowSem .same) :=
  ⟨Tryz.f72, Tryz.func72, fun h => absurd (show (Tryz.f72.name == "runtime.NumGoroutine") = false by kernel_rfl) (by rw [h]; decide), by kernel_rfl, by kernel_rfl, by kernel_rfl⟩
/-- the checks do not speak of functions that are taken as known -/
theorem mk_ok (ext : FuncId → List V → H → Option (V × H)) : GOk Tryz.prog (mkG Tryz.prog eqs rows ext) ∧ Codes (mkG Tryz.prog eqs rows ext) :=
  mkG_ok chkF chkT chkE (fun r hr => by
    simp only [rows, List.mem_cons, List.not_mem_nil, or_false] at hr
    rcases hr with rfl | rfl
    · exact rowClone
    · exact rowSame) mixed
def iTexts : FuncId := 3
def iWorks : FuncId := 4
def iText : FuncId := 5
def iRText : FuncId := 6
def iWrite : FuncId := 20
def iItoa : FuncId := 21
def iStr : FuncId := 22
def iDig : FuncId := 23
def tByte : TypeId := 5
def tBld : TypeId := 66
def tPb : TypeId := 97
def tBytes : TypeId := 64
def tStr : TypeId := 9
def tRes : TypeId := 53
noncomputable abbrev P : Program := Tryz.prog
end Go.Proofs.YtfmcmolhkmjemaaGreatDoor

/- The program's tables, as the evaluator has them, are sound; the numbers of functions. -/
import Derived.Test.YtgadijnefbmgkaaGreatDoorRows
import Derived.Test.YtgadijnefbmgkaaGreatDoorEvF
import Derived.KernelRfl
namespace Go.Proofs.YtgadijnefbmgkaaGreatDoor
set_option maxRecDepth 100000
open Go.Ev Go.RowKit
def eqs : List TypeId := [7, 8, 29, 35, 36, 42, 43, 44, 45, 47, 48, 49, 50, 51, 52, 63, 64, 82, 83, 97, 98, 106, 107, 114, 115, 126, 127, 131, 132, 133, 151, 154, 155, 156, 157, 158, 167, 168, 172, 173, 178, 179, 183, 184, 185, 193, 194, 203, 204, 205, 206, 212, 213, 234, 235, 247, 248, 253, 254, 256, 257, 258, 259, 260, 261, 271, 272, 273, 274, 275, 276, 277, 278, 279, 280, 281, 282, 283, 284, 285, 290, 291, 301, 302, 303, 304, 307, 308, 309, 310, 311, 312, 313, 314, 315, 316, 317, 318, 319, 320, 321, 322, 323, 324, 325, 326, 327, 329, 330, 360, 361, 362, 363, 364, 365, 366, 367, 368, 369, 370, 371, 378, 379, 405, 406, 435, 461, 471, 472, 495, 496, 497, 498]
def rows : List (FuncId × Row) := [(237, .clone)]
noncomputable def G0 : Γ := mkG Tryz.prog eqs rows fun _ _ _ => .none
theorem chkF : chkFuncs Tryz.prog.funcs.toList = true := by kernel_rfl
theorem chkT : chkTypes G0 Tryz.prog.types.toList 0 = true := by kernel_rfl
theorem chkE : chkEqs Tryz.prog eqs = true := by kernel_rfl
theorem mixed : Tryz.prog.follows .mixedOrders = true := by kernel_rfl
theorem rowClone : ∃ fn, Tryz.prog.funcs[237]? = some fn ∧ fn.name ≠ "runtime.NumGoroutine" ∧ fn.body = .none ∧ Extern.findNext fn = .none ∧ Extern.find fn = some (rowSem .clone) :=
  ⟨Tryz.f237, Tryz.func237, fun h => absurd (show (Tryz.f237.name == "runtime.NumGoroutine") = false by kernel_rfl) (by rw [h]; decide), by kernel_rfl, by kernel_rfl, by kernel_rfl⟩
/-- the checks do not speak of functions that are taken as known -/
theorem mk_ok (ext : FuncId → List V → H → Option (V × H)) : GOk Tryz.prog (mkG Tryz.prog eqs rows ext) ∧ Codes (mkG Tryz.prog eqs rows ext) :=
  mkG_ok chkF chkT chkE (fun r hr => by
    simp only [rows, List.mem_cons, List.not_mem_nil, or_false] at hr
    subst hr
    exact rowClone) mixed
def iText : FuncId := 6
def iRText : FuncId := 7
def iJoin : FuncId := 12
def iTexts : FuncId := 3
def iWords : FuncId := 4
def iWorks : FuncId := 5
def iSorted : FuncId := 22
def iKeys1 : FuncId := 46
def tInt : TypeId := 3
def gWords : Nat := 0
def iLetters : Nat := 2
def letters : List Nat := [0, 111, 108, 102]
noncomputable abbrev P : Program := Tryz.prog
end Go.Proofs.YtgadijnefbmgkaaGreatDoor

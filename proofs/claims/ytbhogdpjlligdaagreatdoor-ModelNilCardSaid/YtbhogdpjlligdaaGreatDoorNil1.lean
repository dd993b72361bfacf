/- The program's tables, as the evaluator has them, are sound. -/
import Derived.Test.YtbhogdpjlligdaaGreatDoorRows
import Derived.Test.YtbhogdpjlligdaaGreatDoorEvE
import Derived.KernelRfl
namespace Go.Proofs.YtbhogdpjlligdaaGreatDoor
set_option maxRecDepth 100000
open Go.Ev Go.RowKit
def eqs : List TypeId := [7, 8, 22, 23, 25, 26, 28, 29, 31, 32, 37, 38, 41, 45, 46, 47, 48, 49, 55, 56, 66, 67, 74, 75, 76, 77, 78, 79, 82, 85, 86, 95, 96, 154, 155, 158, 159, 162, 163, 166, 167, 168, 169, 170, 171, 178, 179, 182, 183, 184, 198, 199, 224, 225, 226, 227, 228, 232, 233, 238, 239, 243, 244, 245, 253, 254, 263, 264, 265, 266, 269, 270, 271, 272, 278, 279, 295, 296, 297, 298, 299, 300, 301, 302, 303, 304, 305, 306, 307, 308, 309, 314, 315, 325, 326, 327, 328, 331, 332, 333, 334, 336, 337, 353, 354, 355, 356, 357, 358, 359, 360, 361, 362, 363, 364, 365, 393, 409, 410, 411, 412, 444, 445, 446, 447, 451]
def rows : List (FuncId × Row) := [(150, .clone)]
noncomputable def G0 : Γ := mkG Tryz.prog eqs rows fun _ _ _ => .none
theorem chkF : chkFuncs Tryz.prog.funcs.toList = true := by kernel_rfl
theorem chkT : chkTypes G0 Tryz.prog.types.toList 0 = true := by kernel_rfl
theorem chkE : chkEqs Tryz.prog eqs = true := by kernel_rfl
theorem mixed : Tryz.prog.follows .mixedOrders = true := by kernel_rfl
theorem row150 : ∃ fn, Tryz.prog.funcs[150]? = some fn ∧ fn.name ≠ "runtime.NumGoroutine" ∧ fn.body = .none ∧ Extern.findNext fn = .none ∧ Extern.find fn = some (rowSem .clone) :=
  ⟨Tryz.f150, Tryz.func150, fun h => absurd (show (Tryz.f150.name == "runtime.NumGoroutine") = false by kernel_rfl) (by rw [h]; decide), by kernel_rfl, by kernel_rfl, by kernel_rfl⟩
/-- the checks do not speak of functions that are taken as known -/
theorem mk_ok (ext : FuncId → List V → H → Option (V × H)) : GOk Tryz.prog (mkG Tryz.prog eqs rows ext) ∧ Codes (mkG Tryz.prog eqs rows ext) :=
  mkG_ok chkF chkT chkE (fun r hr => by
    simp only [rows, List.mem_cons, List.not_mem_nil, or_false] at hr
    subst hr
    exact row150) mixed
end Go.Proofs.YtbhogdpjlligdaaGreatDoor

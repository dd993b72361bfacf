/- The program's tables, as the evaluator has them, are sound; the numbers of functions. -/
import Derived.Test.YthnikhaifnckgaaGreatDoorRows
import Derived.Test.YthnikhaifnckgaaGreatDoorEvF
import Derived.KernelRfl
namespace Go.Proofs.YthnikhaifnckgaaGreatDoor
set_option maxRecDepth 100000
open Go.Ev Go.RowKit
def eqs : List TypeId := [7, 8, 23, 24, 25, 27, 28, 35, 36, 41, 42, 46, 47, 58, 68, 69, 92, 93, 94, 95, 101, 102, 103, 104, 105, 106, 111, 112, 116, 117, 120, 133, 134, 145, 146, 151, 152, 173, 174, 179, 180, 184, 185, 186, 194, 195, 204, 205, 206, 207, 229, 230, 242, 243, 246, 247, 248, 265, 271, 272, 273, 274, 275, 276, 277, 278, 279, 280, 281, 282, 283, 284, 285, 286, 287, 292, 293, 303, 304, 305, 306, 309, 310, 311, 312, 313, 314, 315, 317, 318, 319, 320, 321, 322, 323, 324, 325, 328, 329, 335, 336, 379, 380, 382, 383, 384, 385, 386, 387, 388, 389, 390, 391, 392, 393, 394, 397, 436, 461, 475, 476, 506, 507, 532, 533, 570, 571, 582, 583, 584, 588, 629, 642, 643]
def rows : List (FuncId × Row) := [(283, .clone)]
noncomputable def G0 : Γ := mkG Tryz.prog eqs rows fun _ _ _ => .none
theorem chkF : chkFuncs Tryz.prog.funcs.toList = true := by kernel_rfl
theorem chkT : chkTypes G0 Tryz.prog.types.toList 0 = true := by kernel_rfl
theorem chkE : chkEqs Tryz.prog eqs = true := by kernel_rfl
theorem mixed : Tryz.prog.follows .mixedOrders = true := by kernel_rfl
theorem rowClone : ∃ fn, Tryz.prog.funcs[283]? = some fn ∧ fn.name ≠ "runtime.NumGoroutine" ∧ fn.body = .none ∧ Extern.findNext fn = .none ∧ Extern.find fn = some (rowSem .clone) :=
  ⟨Tryz.f283, Tryz.func283, fun h => absurd (show (Tryz.f283.name == "runtime.NumGoroutine") = false by kernel_rfl) (by rw [h]; decide), by kernel_rfl, by kernel_rfl, by kernel_rfl⟩
/-- the checks do not speak of functions that are taken as known -/
theorem mk_ok (ext : FuncId → List V → H → Option (V × H)) : GOk Tryz.prog (mkG Tryz.prog eqs rows ext) ∧ Codes (mkG Tryz.prog eqs rows ext) :=
  mkG_ok chkF chkT chkE (fun r hr => by
    simp only [rows, List.mem_cons, List.not_mem_nil, or_false] at hr
    subst hr
    exact rowClone) mixed
def iGrows : FuncId := 3
def iSize : FuncId := 4
def iMark : FuncId := 5
def iBound : FuncId := 6
def iCheck : FuncId := 7
def iWorks : FuncId := 8
/-! great runs in parts -/
noncomputable abbrev P : Program := Tryz.prog
noncomputable def GR (t : T Rec) : Γ := mkG Tryz.prog eqs rows (extR t)
theorem snd_of {t : T Rec} (ht : TabOk P t) {r : Rec} (h : r.ok (evT (GR t) 100000 r.f r.args r.start) = true) : Snd P r := fun _ _ _ hh _ _ _ ha hS n =>
  Rec.sound (mk_ok _).1 (mk_ok _).2 (ext_recs ht) h hh ha hS n
def letters : List Nat := [0, 111, 108, 102]
end Go.Proofs.YthnikhaifnckgaaGreatDoor

/- Great runs of chapter 41 in parts: records of calls. -/
import Derived.Test.YtemanejjmkjfnaaGreatDoorIds
import Derived.Test.YtemanejjmkjfnaaGreatDoorEvE
namespace Go.Proofs.YtemanejjmkjfnaaGreatDoor
set_option maxRecDepth 100000
open Go.Ev Go.RowKit
noncomputable def GR (t : T Rec) : Γ := mkG Tryz.prog eqs rows (extR t)
theorem snd_of {t : T Rec} (ht : TabOk P t) {r : Rec} (h : r.ok (evT (GR t) 100000 r.f r.args r.start) = true) : Snd P r := fun _ _ _ hh _ _ _ ha hS n =>
  Rec.sound (mk_ok _).1 (mk_ok _).2 (ext_recs ht) h hh ha hS n
end Go.Proofs.YtemanejjmkjfnaaGreatDoor

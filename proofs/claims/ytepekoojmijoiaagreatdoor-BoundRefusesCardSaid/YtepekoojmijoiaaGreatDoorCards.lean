/-
  DERIVED. GIVEN WITH THE SEED: THE CARDS: each row of YtepekoojmijoiaaGreatDoorRows.lean that lists a variable, with what it lists TIED to the program's text (the seventh form; the later family's looks); each row that meets fmt, with fmt's text TOLD by the authors' own Lean function (tested against real Go, not proved from fmt's source: count such statements apart). THE CARD IS WHAT COUNTS. Prove the row's statement (the work); the ties are given (YtepekoojmijoiaaGreatDoorTie.lean); close each card by the builder's one call (the guide's Derived/Test/ToyasCard.lean, 'card_holds'). Laid BY PROGRAM, IN A SANDBOX (cutbox-door.mjs). By AI agents, Wed Nov 11 2026. No macro, syntax, notation, axiom, sorry.
-/
import Derived.Test.YtepekoojmijoiaaGreatDoorRows
import GoSem.ClaimSeven
namespace Go.Proofs.YtepekoojmijoiaaGreatDoor
namespace Rows

/-- THE TIED CARD OF 'estraylaw45.BoundRefuses'. -/
def boundRefusesCard : Claim7 := { stood := { row := boundRefusesRow, standIns := [], harness := (true, "734b47267a033abe2394f11b947a29dc912943b1be4f3a4279f69b1d6722ae95"), looks := true }, kinds := [], alts := [], laidByText := true, laidKinds := [.widerDeep], laidTests := true, laidLooks := .later }
def BoundRefusesCardSaid : Prop := Claim7.holds Tryz.pinned (.plain (OpenSpec.ofChange boundRefusesSpec)) boundRefusesCard

/-- THE SECOND FORM's CARD OF 'estraylaw45.BoundRefuses'. -/
def boundRefusesUptoCard : Claim7 := { stood := { row := boundRefusesUptoRow, standIns := [], harness := (true, "734b47267a033abe2394f11b947a29dc912943b1be4f3a4279f69b1d6722ae95"), looks := true }, kinds := [], alts := [], laidByText := true, laidKinds := [.widerDeep], laidTests := true, laidLooks := .later }
def BoundRefusesUptoCardSaid : Prop := Claim7.holds Tryz.pinned (.plain (OpenSpec.upto boundRefusesSpec)) boundRefusesUptoCard
end Rows
end Go.Proofs.YtepekoojmijoiaaGreatDoor

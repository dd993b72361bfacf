/-
  DERIVED. GIVEN WITH THE SEED: THE CARDS: each row of YtcbggkejlhifpaaGreatDoorRows.lean that lists a variable, with what it lists TIED to the program's text (the seventh form; the later family's looks); each row that meets fmt, with fmt's text TOLD by the authors' own Lean function (tested against real Go, not proved from fmt's source: count such statements apart). THE CARD IS WHAT COUNTS. Prove the row's statement (the work); the ties are given (YtcbggkejlhifpaaGreatDoorTie.lean); close each card by the builder's one call (the guide's Derived/Test/ToyasCard.lean, 'card_holds'). Laid BY PROGRAM, IN A SANDBOX (cutbox-door.mjs). By AI agents, Wed Nov 11 2026. No macro, syntax, notation, axiom, sorry.
-/
import Derived.Test.YtcbggkejlhifpaaGreatDoorRows
import GoSem.ClaimSeven
namespace Go.Proofs.YtcbggkejlhifpaaGreatDoor
namespace Rows

/-- THE TIED CARD OF 'estraylaw45.BoundBlocks'. -/
def boundBlocksCard : Claim7 := { stood := { row := boundBlocksRow, standIns := [], harness := (true, "bb88915e1f905bddb5ab9d37801ca0026b3d884a94fa30d9ff4e8604881bf998"), looks := true }, kinds := [], alts := [], laidByText := true, laidKinds := [.widerDeep], laidTests := true, laidLooks := .later }
def BoundBlocksCardSaid : Prop := Claim7.holds Tryz.pinned (.plain (OpenSpec.ofChange boundBlocksSpec)) boundBlocksCard

/-- THE SECOND FORM's CARD OF 'estraylaw45.BoundBlocks'. -/
def boundBlocksUptoCard : Claim7 := { stood := { row := boundBlocksUptoRow, standIns := [], harness := (true, "bb88915e1f905bddb5ab9d37801ca0026b3d884a94fa30d9ff4e8604881bf998"), looks := true }, kinds := [], alts := [], laidByText := true, laidKinds := [.widerDeep], laidTests := true, laidLooks := .later }
def BoundBlocksUptoCardSaid : Prop := Claim7.holds Tryz.pinned (.plain (OpenSpec.upto boundBlocksSpec)) boundBlocksUptoCard
end Rows
end Go.Proofs.YtcbggkejlhifpaaGreatDoor

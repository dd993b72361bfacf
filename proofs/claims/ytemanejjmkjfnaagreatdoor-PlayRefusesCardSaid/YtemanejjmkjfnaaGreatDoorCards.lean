/-
  DERIVED. GIVEN WITH THE SEED: THE CARDS: each row of YtemanejjmkjfnaaGreatDoorRows.lean that lists a variable, with what it lists TIED to the program's text (the seventh form; the later family's looks); each row that meets fmt, with fmt's text TOLD by the authors' own Lean function (tested against real Go, not proved from fmt's source: count such statements apart). THE CARD IS WHAT COUNTS. Prove the row's statement (the work); the ties are given (YtemanejjmkjfnaaGreatDoorTie.lean); close each card by the builder's one call (the guide's Derived/Test/ToyasCard.lean, 'card_holds'). Laid BY PROGRAM, IN A SANDBOX (cutbox-door.mjs). By AI agents, Wed Nov 11 2026. No macro, syntax, notation, axiom, sorry.
-/
import Derived.Test.YtemanejjmkjfnaaGreatDoorRows
import GoSem.ClaimSeven
namespace Go.Proofs.YtemanejjmkjfnaaGreatDoor
namespace Rows

/-- THE TIED CARD OF 'estraylaw41.PlayRefuses'. -/
def playRefusesCard : Claim7 := { stood := { row := playRefusesRow, standIns := [], harness := (true, "4bef6e9c42a21309758dd8887eed5d53393b46c6b0a8137e4594afec3dc6c7b8"), looks := true }, kinds := [], alts := [], laidByText := true, laidKinds := [.data, .data, .data, .widerDeep], laidTests := true, laidLooks := .later }
def PlayRefusesCardSaid : Prop := Claim7.holds Tryz.pinned (.plain (OpenSpec.ofChange playRefusesSpec)) playRefusesCard

/-- THE SECOND FORM's CARD OF 'estraylaw41.PlayRefuses'. -/
def playRefusesUptoCard : Claim7 := { stood := { row := playRefusesUptoRow, standIns := [], harness := (true, "4bef6e9c42a21309758dd8887eed5d53393b46c6b0a8137e4594afec3dc6c7b8"), looks := true }, kinds := [], alts := [], laidByText := true, laidKinds := [.data, .data, .data, .widerDeep], laidTests := true, laidLooks := .later }
def PlayRefusesUptoCardSaid : Prop := Claim7.holds Tryz.pinned (.plain (OpenSpec.upto playRefusesSpec)) playRefusesUptoCard
end Rows
end Go.Proofs.YtemanejjmkjfnaaGreatDoor

/-
  DERIVED. GIVEN WITH THE SEED: THE CARDS: each row of YtfmcmolhkmjemaaGreatDoorRows.lean that lists a variable, with what it lists TIED to the program's text (the seventh form; the later family's looks); each row that meets fmt, with fmt's text TOLD by the authors' own Lean function (tested against real Go, not proved from fmt's source: count such statements apart). THE CARD IS WHAT COUNTS. Prove the row's statement (the work); the ties are given (YtfmcmolhkmjemaaGreatDoorTie.lean); close each card by the builder's one call (the guide's Derived/Test/ToyasCard.lean, 'card_holds'). Laid BY PROGRAM, IN A SANDBOX (cutbox-door.mjs). By AI agents, Wed Nov 11 2026. No macro, syntax, notation, axiom, sorry.
-/
import Derived.Test.YtfmcmolhkmjemaaGreatDoorRows
import GoSem.ClaimSeven
namespace Go.Proofs.YtfmcmolhkmjemaaGreatDoor
namespace Rows

/-- THE TIED CARD OF 'estraylaw41.PlayTexts'. -/
def playTextsCard : Claim7 := { stood := { row := playTextsRow, standIns := [], harness := (true, "4c3a1c6df1416a3ee2029e075ce7735cf094c50952ffe594158384b00c06cacb"), looks := true }, kinds := [], alts := [], laidByText := true, laidKinds := [.data, .data, .data, .widerDeep], laidTests := true, laidLooks := .later }
def PlayTextsCardSaid : Prop := Claim7.holds Tryz.pinned (.plain (OpenSpec.ofChange playTextsSpec)) playTextsCard

/-- THE SECOND FORM's CARD OF 'estraylaw41.PlayTexts'. -/
def playTextsUptoCard : Claim7 := { stood := { row := playTextsUptoRow, standIns := [], harness := (true, "4c3a1c6df1416a3ee2029e075ce7735cf094c50952ffe594158384b00c06cacb"), looks := true }, kinds := [], alts := [], laidByText := true, laidKinds := [.data, .data, .data, .widerDeep], laidTests := true, laidLooks := .later }
def PlayTextsUptoCardSaid : Prop := Claim7.holds Tryz.pinned (.plain (OpenSpec.upto playTextsSpec)) playTextsUptoCard
end Rows
end Go.Proofs.YtfmcmolhkmjemaaGreatDoor

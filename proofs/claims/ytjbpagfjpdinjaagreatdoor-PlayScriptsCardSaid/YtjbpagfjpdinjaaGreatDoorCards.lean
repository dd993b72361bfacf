/-
  DERIVED. GIVEN WITH THE SEED: THE CARDS: each row of YtjbpagfjpdinjaaGreatDoorRows.lean that lists a variable, with what it lists TIED to the program's text (the seventh form; the later family's looks); each row that meets fmt, with fmt's text TOLD by the authors' own Lean function (tested against real Go, not proved from fmt's source: count such statements apart). THE CARD IS WHAT COUNTS. Prove the row's statement (the work); the ties are given (YtjbpagfjpdinjaaGreatDoorTie.lean); close each card by the builder's one call (the guide's Derived/Test/ToyasCard.lean, 'card_holds'). Laid BY PROGRAM, IN A SANDBOX (cutbox-door.mjs). By AI agents, Wed Nov 11 2026. No macro, syntax, notation, axiom, sorry.
-/
import Derived.Test.YtjbpagfjpdinjaaGreatDoorRows
import GoSem.ClaimSeven
namespace Go.Proofs.YtjbpagfjpdinjaaGreatDoor
namespace Rows

/-- THE TIED CARD OF 'estraylaw41.PlayScripts'. -/
def playScriptsCard : Claim7 := { stood := { row := playScriptsRow, standIns := [], harness := (true, "ec6b19c33bbb514ce09545eccab25a7e080ea759d333a7f0555f06c3d81a9701"), looks := true }, kinds := [], alts := [], laidByText := true, laidKinds := [.data, .data, .data, .widerDeep], laidTests := true, laidLooks := .later }
def PlayScriptsCardSaid : Prop := Claim7.holds Tryz.pinned (.plain (OpenSpec.ofChange playScriptsSpec)) playScriptsCard

/-- THE SECOND FORM's CARD OF 'estraylaw41.PlayScripts'. -/
def playScriptsUptoCard : Claim7 := { stood := { row := playScriptsUptoRow, standIns := [], harness := (true, "ec6b19c33bbb514ce09545eccab25a7e080ea759d333a7f0555f06c3d81a9701"), looks := true }, kinds := [], alts := [], laidByText := true, laidKinds := [.data, .data, .data, .widerDeep], laidTests := true, laidLooks := .later }
def PlayScriptsUptoCardSaid : Prop := Claim7.holds Tryz.pinned (.plain (OpenSpec.upto playScriptsSpec)) playScriptsUptoCard
end Rows
end Go.Proofs.YtjbpagfjpdinjaaGreatDoor

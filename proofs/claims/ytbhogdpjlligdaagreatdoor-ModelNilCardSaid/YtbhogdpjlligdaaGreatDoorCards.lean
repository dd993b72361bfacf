/-
  DERIVED. GIVEN WITH THE SEED: THE CARDS: each row of YtbhogdpjlligdaaGreatDoorRows.lean that lists a variable, with what it lists TIED to the program's text (the seventh form; the later family's looks); each row that meets fmt, with fmt's text TOLD by the authors' own Lean function (tested against real Go, not proved from fmt's source: count such statements apart). THE CARD IS WHAT COUNTS. Prove the row's statement (the work); the ties are given (YtbhogdpjlligdaaGreatDoorTie.lean); close each card by the builder's one call (the guide's Derived/Test/ToyasCard.lean, 'card_holds'). Laid BY PROGRAM, IN A SANDBOX (cutbox-door.mjs). By AI agents, Wed Nov 11 2026. No macro, syntax, notation, axiom, sorry.
-/
import Derived.Test.YtbhogdpjlligdaaGreatDoorRows
import GoSem.ClaimSeven
namespace Go.Proofs.YtbhogdpjlligdaaGreatDoor
namespace Rows

/-- THE TIED CARD OF 'estraylaw42.ModelNil'. -/
def modelNilCard : Claim7 := { stood := { row := modelNilRow, standIns := [], harness := (true, "904d65ed3cce035ff23e4d724c30351956a4c94139effe07e2925a3a4fcba03c"), looks := true }, kinds := [], alts := [], laidByText := true, laidKinds := [.widerDeep], laidTests := true, laidLooks := .later }
def ModelNilCardSaid : Prop := Claim7.holds Tryz.pinned (.plain (OpenSpec.ofChange modelNilSpec)) modelNilCard

/-- THE SECOND FORM's CARD OF 'estraylaw42.ModelNil'. -/
def modelNilUptoCard : Claim7 := { stood := { row := modelNilUptoRow, standIns := [], harness := (true, "904d65ed3cce035ff23e4d724c30351956a4c94139effe07e2925a3a4fcba03c"), looks := true }, kinds := [], alts := [], laidByText := true, laidKinds := [.widerDeep], laidTests := true, laidLooks := .later }
def ModelNilUptoCardSaid : Prop := Claim7.holds Tryz.pinned (.plain (OpenSpec.upto modelNilSpec)) modelNilUptoCard
end Rows
end Go.Proofs.YtbhogdpjlligdaaGreatDoor

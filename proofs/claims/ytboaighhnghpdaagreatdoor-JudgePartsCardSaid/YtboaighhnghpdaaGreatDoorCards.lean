/-
  DERIVED. GIVEN WITH THE SEED: THE CARDS: each row of YtboaighhnghpdaaGreatDoorRows.lean that lists a variable, with what it lists TIED to the program's text (the seventh form; the later family's looks); each row that meets fmt, with fmt's text TOLD by the authors' own Lean function (tested against real Go, not proved from fmt's source: count such statements apart). THE CARD IS WHAT COUNTS. Prove the row's statement (the work); the ties are given (YtboaighhnghpdaaGreatDoorTie.lean); close each card by the builder's one call (the guide's Derived/Test/ToyasCard.lean, 'card_holds'). Laid BY PROGRAM, IN A SANDBOX (cutbox-door.mjs). By AI agents, Wed Nov 11 2026. No macro, syntax, notation, axiom, sorry.
-/
import Derived.Test.YtboaighhnghpdaaGreatDoorRows
import GoSem.ClaimSeven
namespace Go.Proofs.YtboaighhnghpdaaGreatDoor
namespace Rows

/-- THE TIED CARD OF 'estraylaw46.JudgeParts'. -/
def judgePartsCard : Claim7 := { stood := { row := judgePartsRow, standIns := [], harness := (true, "01064c71620444c0266b4730e4f4531543820f56994d85d81b81db4816f1c7b5"), looks := true }, kinds := [], alts := [], laidByText := true, laidKinds := [.widerDeep, .data], laidTests := true, laidLooks := .later }
def JudgePartsCardSaid : Prop := Claim7.holds Tryz.pinned (.plain (OpenSpec.ofChange judgePartsSpec)) judgePartsCard

/-- THE SECOND FORM's CARD OF 'estraylaw46.JudgeParts'. -/
def judgePartsUptoCard : Claim7 := { stood := { row := judgePartsUptoRow, standIns := [], harness := (true, "01064c71620444c0266b4730e4f4531543820f56994d85d81b81db4816f1c7b5"), looks := true }, kinds := [], alts := [], laidByText := true, laidKinds := [.widerDeep, .data], laidTests := true, laidLooks := .later }
def JudgePartsUptoCardSaid : Prop := Claim7.holds Tryz.pinned (.plain (OpenSpec.upto judgePartsSpec)) judgePartsUptoCard
end Rows
end Go.Proofs.YtboaighhnghpdaaGreatDoor

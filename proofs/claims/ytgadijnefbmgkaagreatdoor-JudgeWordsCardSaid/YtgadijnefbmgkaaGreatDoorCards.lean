/-
  DERIVED. GIVEN WITH THE SEED: THE CARDS: each row of YtgadijnefbmgkaaGreatDoorRows.lean that lists a variable, with what it lists TIED to the program's text (the seventh form; the later family's looks); each row that meets fmt, with fmt's text TOLD by the authors' own Lean function (tested against real Go, not proved from fmt's source: count such statements apart). THE CARD IS WHAT COUNTS. Prove the row's statement (the work); the ties are given (YtgadijnefbmgkaaGreatDoorTie.lean); close each card by the builder's one call (the guide's Derived/Test/ToyasCard.lean, 'card_holds'). Laid BY PROGRAM, IN A SANDBOX (cutbox-door.mjs). By AI agents, Wed Nov 11 2026. No macro, syntax, notation, axiom, sorry.
-/
import Derived.Test.YtgadijnefbmgkaaGreatDoorRows
import GoSem.ClaimSeven
namespace Go.Proofs.YtgadijnefbmgkaaGreatDoor
namespace Rows

/-- THE TIED CARD OF 'estraylaw46.JudgeTexts'. -/
def judgeTextsCard : Claim7 := { stood := { row := judgeTextsRow, standIns := [], harness := (true, "00ef7c276923cb49959341abccdc5456aacb652ec7fdfc02d7392aaa034fdaf8"), looks := true }, kinds := [], alts := [], laidByText := true, laidKinds := [.widerDeep, .data], laidTests := true, laidLooks := .later }
def JudgeTextsCardSaid : Prop := Claim7.holds Tryz.pinned (.plain (OpenSpec.ofChange judgeTextsSpec)) judgeTextsCard

/-- THE TIED CARD OF 'estraylaw46.JudgeWords'. -/
def judgeWordsCard : Claim7 := { stood := { row := judgeWordsRow, standIns := [], harness := (true, "00ef7c276923cb49959341abccdc5456aacb652ec7fdfc02d7392aaa034fdaf8"), looks := true }, kinds := [], alts := [], laidByText := true, laidKinds := [.widerDeep, .data], laidTests := true, laidLooks := .later }
def JudgeWordsCardSaid : Prop := Claim7.holds Tryz.pinned (.plain (OpenSpec.ofChange judgeWordsSpec)) judgeWordsCard

/-- THE SECOND FORM's CARD OF 'estraylaw46.JudgeTexts'. -/
def judgeTextsUptoCard : Claim7 := { stood := { row := judgeTextsUptoRow, standIns := [], harness := (true, "00ef7c276923cb49959341abccdc5456aacb652ec7fdfc02d7392aaa034fdaf8"), looks := true }, kinds := [], alts := [], laidByText := true, laidKinds := [.widerDeep, .data], laidTests := true, laidLooks := .later }
def JudgeTextsUptoCardSaid : Prop := Claim7.holds Tryz.pinned (.plain (OpenSpec.upto judgeTextsSpec)) judgeTextsUptoCard

/-- THE SECOND FORM's CARD OF 'estraylaw46.JudgeWords'. -/
def judgeWordsUptoCard : Claim7 := { stood := { row := judgeWordsUptoRow, standIns := [], harness := (true, "00ef7c276923cb49959341abccdc5456aacb652ec7fdfc02d7392aaa034fdaf8"), looks := true }, kinds := [], alts := [], laidByText := true, laidKinds := [.widerDeep, .data], laidTests := true, laidLooks := .later }
def JudgeWordsUptoCardSaid : Prop := Claim7.holds Tryz.pinned (.plain (OpenSpec.upto judgeWordsSpec)) judgeWordsUptoCard
end Rows
end Go.Proofs.YtgadijnefbmgkaaGreatDoor

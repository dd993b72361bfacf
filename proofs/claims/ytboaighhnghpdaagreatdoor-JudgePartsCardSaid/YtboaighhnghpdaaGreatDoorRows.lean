/-
  NARROWER THAN 'FOR EVERY INPUT', by the rows' own cells (each row's printed sentence says how): JudgeParts: laid.
  DERIVED. THE GIVEN ROWS OF THIS SEAT. 1 by the template 'for every input the law returns true; each argument reads behind the call as it read before'; 0 by the template 'total and deterministic' (their statements: YtboaighhnghpdaaGreatDoorTotals.lean).
  GIVEN WITH THE SEED: the statements are not yours to turn. If you find one false, say at which input.
  Laid BY PROGRAM, IN A SANDBOX (cutbox-rows.mjs): the forced cells as the released guide's own fill.sh prints them over the translation 591f952b03466b15… (all of the seat's roots in one cut). By AI agents, Wed Nov 11 2026. No macro, syntax, notation, axiom, sorry.
-/
import Derived.Test.YtboaighhnghpdaaGreatDoorChecked
import GoSem.Claim
import GoSem.ClaimJoined
import GoSem.ClaimMapViews
import Derived.JoinedTies
import Derived.KernelRfl
namespace Go.Proofs.YtboaighhnghpdaaGreatDoor
/- THE CELL 'sum', in the pinned program and in every row, IS THE sha256 OF THE DUMP (.gsa) THAT YtboaighhnghpdaaGreatDoorProg.lean LOADS. Nothing in Lean hashes anything: it is a label: what it is worth is what the hold of that sum in a sandbox is worth. -/
noncomputable def Tryz.pinned : Pinned := { name := "ytboaighhnghpdaagreatdoor", sum := "591f952b03466b152f562012768d579a141845275ce204858b1add4902627021", checked := Tryz.checked }
namespace Rows
def none {H : Type} : Left H := { results := [], args := [] }

/- WHAT THE LISTED PACKAGE-LEVEL VARIABLES READ AS WHEN THE CALL BEGINS. Each datum BY PROGRAM (the guide's laid-datum.mjs) off the statement by which the dump's own 'gosem.cut.vars' lays the variable. In a bare row this is a premise. The card (YtboaighhnghpdaaGreatDoorCards.lean) ties it to the program's text. -/
def laid_estray_answer_letters {H : Type} : DataW H := .agg [.lit (.int .u8 0), .lit (.int .u8 111), .lit (.int .u8 108), .lit (.int .u8 102)]
def laid_estray_judge_words {H : Type} : DataW H := .agg [.lit (.string []), .lit (.string [109, 111, 100, 101, 108]), .lit (.string [111, 110, 99, 101]), .lit (.string [101, 110, 100, 101, 100]), .lit (.string [115, 116, 101, 97, 100, 121]), .lit (.string [99, 97, 117, 115, 101, 100]), .lit (.string [117, 115, 101, 100]), .lit (.string [99, 111, 117, 110, 116, 115]), .lit (.string [113, 117, 111, 116, 97]), .lit (.string [115, 116, 97, 108, 101]), .lit (.string [108, 101, 97, 107, 115]), .lit (.string [107, 101, 101, 112, 115])]

/-- 'estraylaw46.JudgeParts': WHATEVER THE INPUT: true; the input reads as it did. -/
def judgePartsSpec : ChangeSpec := { name := "judgeParts", fn := fun _ => fun
  | [d1, d2] => { results := [.lit (.bool true)], args := [d1, d2] }
  | _ => none }
def judgePartsRow : OpenClaim := { program := "ytboaighhnghpdaagreatdoor", sum := "591f952b03466b152f562012768d579a141845275ce204858b1add4902627021", func := "estray/estraylaw46.JudgeParts", spec := "judgeParts", inPlace := ["maps.clone", "internal/abi.NoEscape", "internal/bytealg.MakeNoZero"], unfollowed := true, recurses := true, named := ["estray/answer.letters", "estray/judge.words"], plainKeys := false, apart := false, laid := [("estray/answer.letters", laid_estray_answer_letters), ("estray/judge.words", laid_estray_judge_words)] }
def JudgePartsSaid : Prop := judgePartsRow.holds Tryz.pinned (OpenSpec.ofChange judgePartsSpec)

/-- ITS FALSE NEIGHBOUR: 'it returns false'. Refute it at one input. -/
def judgePartsWrong : ChangeSpec := { name := "judgeParts", fn := fun _ => fun
  | [d1, d2] => { results := [.lit (.bool false)], args := [d1, d2] }
  | _ => none }
def JudgePartsWrongFalsely : Prop := judgePartsRow.holds Tryz.pinned (OpenSpec.ofChange judgePartsWrong)

/- THE SECOND FORM. 'bulk': how many values and letters a reading holds, each counted each time it is reached (what is shared counts as often as it is met; a slice's spare places count too). A statement '..UptoSaid' is the law's where the arguments, and the package variables that the reading takes, are together of bulk at most 1048576: NARROWER than '..Said'. Prove '..Said' where nothing that the law and all that it calls make is longer than what came in: it says more and counts as full. Else prove '..UptoSaid'. A law counts once. -/
mutual
def uptoBulk {H : Type} : DataW H → Nat
  | .lit (.string bytes) => bytes.length + 1
  | .lit _ => 1
  | .nil => 1
  | .ptr d => uptoBulk d + 1
  | .slice elems spare => uptoBulkAll elems + uptoBulkAll spare + 1
  | .agg parts => uptoBulkAll parts + 1
  | .iface _ d => uptoBulk d + 1
  | .map entries => uptoBulkEntries entries + 1
  | .held _ => 1
def uptoBulkAll {H : Type} : List (DataW H) → Nat
  | [] => 0
  | d :: r => uptoBulk d + uptoBulkAll r
def uptoBulkEntries {H : Type} : List (Lit × DataW H) → Nat
  | [] => 0
  | x :: r => uptoBulkEntry x + uptoBulkEntries r
def uptoBulkEntry {H : Type} : Lit × DataW H → Nat
  | (.string bytes, d) => bytes.length + uptoBulk d + 1
  | (_, d) => uptoBulk d + 1
 end
def uptoSmall : (H : Type) → List (DataW H) → Bool := fun _ ds => decide (uptoBulkAll ds ≤ 1048576)
def OpenSpec.upto (s : _root_.Go.ChangeSpec) : _root_.Go.OpenSpec := { _root_.Go.OpenSpec.ofChange s with cond := some uptoSmall }

/-- 'estraylaw46.JudgeParts', WHERE WHAT IT READS IS OF BULK AT MOST 1048576: true; the input reads as it did. -/
def judgePartsUptoRow : OpenClaim := { program := "ytboaighhnghpdaagreatdoor", sum := "591f952b03466b152f562012768d579a141845275ce204858b1add4902627021", func := "estray/estraylaw46.JudgeParts", spec := "judgeParts", inPlace := ["maps.clone", "internal/abi.NoEscape", "internal/bytealg.MakeNoZero"], unfollowed := true, recurses := true, named := ["estray/answer.letters", "estray/judge.words"], plainKeys := false, apart := false, laid := [("estray/answer.letters", laid_estray_answer_letters), ("estray/judge.words", laid_estray_judge_words)], narrowed := true }
def JudgePartsUptoSaid : Prop := judgePartsUptoRow.holds Tryz.pinned (OpenSpec.upto judgePartsSpec)

end Rows
end Go.Proofs.YtboaighhnghpdaaGreatDoor

/- Words of numbers, and texts out of them. -/
import Derived.Test.YtgadijnefbmgkaaGreatDoorIds
namespace Go.Proofs.YtgadijnefbmgkaaGreatDoor
set_option maxRecDepth 100000
open Go.Ev Go.RowKit
def words : List V := [.str [], .str [109, 111, 100, 101, 108], .str [111, 110, 99, 101], .str [101, 110, 100, 101, 100], .str [115, 116, 101, 97, 100, 121], .str [99, 97, 117, 115, 101, 100], .str [117, 115, 101, 100], .str [99, 111, 117, 110, 116, 115], .str [113, 117, 111, 116, 97], .str [115, 116, 97, 108, 101], .str [108, 101, 97, 107, 115], .str [107, 101, 101, 112, 115]]
def ints (xs : List Int) : List V := xs.map (.int .i64)
/-- texts, one behind the other, something between two of them -/
def joinF (sep : List UInt8) : List (List UInt8) → List UInt8
  | [] => []
  | s :: [] => s
  | s :: t :: l => s ++ (sep ++ joinF sep (t :: l))
def noDefs : List Nat → Bool
  | [] => true
  | _ => false
theorem noDefs_eq {l : List Nat} (h : noDefs l = true) : l = [] := by
  cases l with
  | nil => rfl
  | cons => cases h
end Go.Proofs.YtgadijnefbmgkaaGreatDoor

/- PlayRefuses: what is known of the calls of the law, and what is done with the values. -/
import Derived.Test.YtemanejjmkjfnaaGreatDoorRk
namespace Go.Proofs.YtemanejjmkjfnaaGreatDoor
set_option maxRecDepth 100000
set_option maxHeartbeats 4000000
open Go.Ev Go.RowKit
namespace RT
noncomputable def hA : H := ⟨varsT gs, 1000⟩
/-- 'works', as it is known -/
noncomputable def kWorks : Known := (iWorks, fun args h => match args, Go.Ev.has h (roL gs) with
  | [], true => some (.bool true)
  | _, _ => .none)
noncomputable def kl : List Known := [kGens, kAllowed, kWorks]
noncomputable def lm : List KnownM := [mSlots]
noncomputable def GL (bb : Int) : Γ := mkG Tryz.prog eqs rows (extU (kB bb) (ext5 kl lm))
def isV (f : FuncId) : Bool := Nat.beq f iVSlots || Nat.beq f iVPaint || Nat.beq f iVStack || Nat.beq f iVBuffer || Nat.beq f iVSweep || Nat.beq f iVQueue || Nat.beq f iVQuota || Nat.beq f iVMarker
def isN (f : FuncId) : Bool := Nat.beq f iColour || Nat.beq f iStack || Nat.beq f iBuffer || Nat.beq f iSweep || Nat.beq f iPhantom || Nat.beq f iQueue || Nat.beq f iQuota
noncomputable def sp (bb : Int) : SpF where
  at' := fun f t => match isV f, t with
    | true, 10 => .is true
    | true, _ => .keep
    | false, t => match isN f, t with
      | true, 5 => .is false | true, 8 => .is false | true, _ => .keep
      | false, t => match Nat.beq f iHeap, t with
        | true, 9 => .is false | true, 12 => .is false | true, 16 => .is false | true, _ => .keep
        | false, t => match Nat.beq f iRefq, t with
          | true, 10 => .is false | true, 13 => .is false | true, 17 => .is false | true, 21 => .is false | true, _ => .keep
          | false, t => match Nat.beq f iBufs, t with
            | true, 26 => .is false | true, _ => .keep
            | false, t => match Nat.beq f iOuter, t with
              | true, 11 => .is false | true, _ => .keep
              | false, t => match Nat.beq f iReg, t with
                | true, 7 => .is true | true, _ => .keep
                | false, t => match Nat.beq f iRandom, t with
                  | true, 20 => .both | true, 23 => .both | true, 33 => .is false | true, _ => .keep
                  | false, t => match Nat.beq f iSettle, t with
                    | true, 14 => .both | true, 17 => .both | true, 22 => .is true | _, _ => .keep
  kx := kxV (kB bb) (kx5 kl lm)
  must := fun f => Nat.beq f iSlots
end RT
end Go.Proofs.YtemanejjmkjfnaaGreatDoor

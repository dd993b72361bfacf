/- estrayref01.Digits: the digits of a number. -/
import Derived.Test.YtfmcmolhkmjemaaGreatDoorBl3
import Derived.Lib.ItoaNum
namespace Go.Proofs.YtfmcmolhkmjemaaGreatDoor
set_option maxRecDepth 100000
set_option maxHeartbeats 2000000
open Go.Ev Go.RowKit
noncomputable def digF (n : Int) : List UInt8 := Lib.decDigits n.toNat
namespace DT
/-- is it one of the numbers below B? -/
noncomputable def inB (B : Nat) (n : Int) : Bool := and (not (ilt n (Int.ofNat 0))) (ilt n (Int.ofNat B))
noncomputable def FD (B : Nat) : List V → Option V
  | [.int .u64 n] => match inB B n with
    | true => some (.str (digF n))
    | false => none
  | _ => none
noncomputable def kD (B : Nat) : Known := (iDig, known (FD B))
noncomputable def kx (B : Nat) : KX := fun f args h => match Nat.beq f iDig, args with
  | true, [.int .u64 n] => some (not (inB B n), (.nilf, h), (.str (digF n), h))
  | _, _ => none
noncomputable def GD (B : Nat) : Γ := mkG Tryz.prog eqs rows (extL [kD B])
noncomputable def sp (B : Nat) : SpF where
  at' := fun f t => match Nat.beq f iDig, t with
    | true, 4 => .both | true, 5 => .upto 10 | true, 14 => .upto 10 | _, _ => .keep
  kx := kx B
theorem w1 (B : Nat) (n : Int) (R : V → Prop) : (fnW (GD B) (sp B) 40 iDig [.int .u64 n] hE (fun u _ => R u)) = (
(((ilt n (Int.ofNat 10)) = (true)) → ((ilt n (Int.ofNat 0)) = (false)) ∧
 (((ilt n (Int.ofNat 10)) = (true)) ∧
  (((((((((((True) ∧
            (((n) = (Int.ofNat 0)) → (R (V.str [48])))) ∧
           (((n) = (Int.ofNat 1)) → (R (V.str [49])))) ∧
          (((n) = (Int.ofNat 2)) → (R (V.str [50])))) ∧
         (((n) = (Int.ofNat 3)) → (R (V.str [51])))) ∧
        (((n) = (Int.ofNat 4)) → (R (V.str [52])))) ∧
       (((n) = (Int.ofNat 5)) → (R (V.str [53])))) ∧
      (((n) = (Int.ofNat 6)) → (R (V.str [54])))) ∧
     (((n) = (Int.ofNat 7)) → (R (V.str [55])))) ∧
    (((n) = (Int.ofNat 8)) → (R (V.str [56])))) ∧
   (((n) = (Int.ofNat 9)) → (R (V.str [57])))))) ∧
(((ilt n (Int.ofNat 10)) = (false)) → ((false) = (false)) ∧
 (((!inB B (wr IntKind.u64 (n.tdiv (Int.ofNat 10)))) = (false)) ∧
  (((false) = (false)) ∧
   (((ilt (n.tmod (Int.ofNat 10)) (Int.ofNat 0)) = (false)) ∧
    (((ilt (n.tmod (Int.ofNat 10)) (Int.ofNat 10)) = (true)) ∧
     (((((((((((True) ∧
               (((n.tmod (Int.ofNat 10)) = (Int.ofNat 0)) → ((((digF (wr IntKind.u64 (n.tdiv (Int.ofNat 10)))).length.add 1).ble 1000000000) = (true)) ∧
                ((((([48] : List UInt8) = ([48])) ∧
                   (([48] : List UInt8) = ([48]))) ∧
                  (True)) ∧
                 ((R (V.str (digF (wr IntKind.u64 (n.tdiv (Int.ofNat 10))) ++ [48]))))))) ∧
              (((n.tmod (Int.ofNat 10)) = (Int.ofNat 1)) → ((((digF (wr IntKind.u64 (n.tdiv (Int.ofNat 10)))).length.add 1).ble 1000000000) = (true)) ∧
               ((((([49] : List UInt8) = ([49])) ∧
                  (([49] : List UInt8) = ([49]))) ∧
                 (True)) ∧
                ((R (V.str (digF (wr IntKind.u64 (n.tdiv (Int.ofNat 10))) ++ [49]))))))) ∧
             (((n.tmod (Int.ofNat 10)) = (Int.ofNat 2)) → ((((digF (wr IntKind.u64 (n.tdiv (Int.ofNat 10)))).length.add 1).ble 1000000000) = (true)) ∧
              ((((([50] : List UInt8) = ([50])) ∧
                 (([50] : List UInt8) = ([50]))) ∧
                (True)) ∧
               ((R (V.str (digF (wr IntKind.u64 (n.tdiv (Int.ofNat 10))) ++ [50]))))))) ∧
            (((n.tmod (Int.ofNat 10)) = (Int.ofNat 3)) → ((((digF (wr IntKind.u64 (n.tdiv (Int.ofNat 10)))).length.add 1).ble 1000000000) = (true)) ∧
             ((((([51] : List UInt8) = ([51])) ∧
                (([51] : List UInt8) = ([51]))) ∧
               (True)) ∧
              ((R (V.str (digF (wr IntKind.u64 (n.tdiv (Int.ofNat 10))) ++ [51]))))))) ∧
           (((n.tmod (Int.ofNat 10)) = (Int.ofNat 4)) → ((((digF (wr IntKind.u64 (n.tdiv (Int.ofNat 10)))).length.add 1).ble 1000000000) = (true)) ∧
            ((((([52] : List UInt8) = ([52])) ∧
               (([52] : List UInt8) = ([52]))) ∧
              (True)) ∧
             ((R (V.str (digF (wr IntKind.u64 (n.tdiv (Int.ofNat 10))) ++ [52]))))))) ∧
          (((n.tmod (Int.ofNat 10)) = (Int.ofNat 5)) → ((((digF (wr IntKind.u64 (n.tdiv (Int.ofNat 10)))).length.add 1).ble 1000000000) = (true)) ∧
           ((((([53] : List UInt8) = ([53])) ∧
              (([53] : List UInt8) = ([53]))) ∧
             (True)) ∧
            ((R (V.str (digF (wr IntKind.u64 (n.tdiv (Int.ofNat 10))) ++ [53]))))))) ∧
         (((n.tmod (Int.ofNat 10)) = (Int.ofNat 6)) → ((((digF (wr IntKind.u64 (n.tdiv (Int.ofNat 10)))).length.add 1).ble 1000000000) = (true)) ∧
          ((((([54] : List UInt8) = ([54])) ∧
             (([54] : List UInt8) = ([54]))) ∧
            (True)) ∧
           ((R (V.str (digF (wr IntKind.u64 (n.tdiv (Int.ofNat 10))) ++ [54]))))))) ∧
        (((n.tmod (Int.ofNat 10)) = (Int.ofNat 7)) → ((((digF (wr IntKind.u64 (n.tdiv (Int.ofNat 10)))).length.add 1).ble 1000000000) = (true)) ∧
         ((((([55] : List UInt8) = ([55])) ∧
            (([55] : List UInt8) = ([55]))) ∧
           (True)) ∧
          ((R (V.str (digF (wr IntKind.u64 (n.tdiv (Int.ofNat 10))) ++ [55]))))))) ∧
       (((n.tmod (Int.ofNat 10)) = (Int.ofNat 8)) → ((((digF (wr IntKind.u64 (n.tdiv (Int.ofNat 10)))).length.add 1).ble 1000000000) = (true)) ∧
        ((((([56] : List UInt8) = ([56])) ∧
           (([56] : List UInt8) = ([56]))) ∧
          (True)) ∧
         ((R (V.str (digF (wr IntKind.u64 (n.tdiv (Int.ofNat 10))) ++ [56]))))))) ∧
      (((n.tmod (Int.ofNat 10)) = (Int.ofNat 9)) → ((((digF (wr IntKind.u64 (n.tdiv (Int.ofNat 10)))).length.add 1).ble 1000000000) = (true)) ∧
       ((((([57] : List UInt8) = ([57])) ∧
          (([57] : List UInt8) = ([57]))) ∧
         (True)) ∧
        ((R (V.str (digF (wr IntKind.u64 (n.tdiv (Int.ofNat 10))) ++ [57]))))))))))))) := by kernel_rfl
end DT
end Go.Proofs.YtfmcmolhkmjemaaGreatDoor

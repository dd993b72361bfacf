/- PlayRefuses: the whole law, as a condition: two mutators. -/
import Derived.Test.YtemanejjmkjfnaaGreatDoorRd
namespace Go.Proofs.YtemanejjmkjfnaaGreatDoor
set_option maxRecDepth 100000
set_option maxHeartbeats 4000000
open Go.Ev Go.RowKit
namespace RT
theorem w2 (a b c d e f g i k : Int) : (fnW (GL (Int.ofNat 2)) (sp (Int.ofNat 2)) 200 iRefuses [n8 a b c d e f g i, .int .u16 k] hA (fun v _ => v = .bool true)) = (
((!eqI (up b 2) (Int.ofNat 2)) = (false)) ∧
(((!eqI
 (MachV (up a 12) (Int.ofNat 2) (up c 4) (up d 4) (up e 4) (wr IntKind.i64 ((Int.ofNat 257).add (wr IntKind.i64 k)))
 (up (wr IntKind.u8 (f.tdiv (Int.ofNat 6))) 3) (up g 5) (capF g i) (firstF i))
 (Int.ofNat 2)) = (false)) ∧
 (((!eqI
 (MachV (up a 12) (Int.ofNat 2) (up c 4) (up d 4) (up e 4) (wr IntKind.i64 ((Int.ofNat 257).add (wr IntKind.i64 k)))
 (up (wr IntKind.u8 (f.tdiv (Int.ofNat 6))) 3) (up g 5) (capF g i) (firstF i))
 (Int.ofNat 2)) = (false)) ∧
 (((!eqI
 (MachV (up a 12) (Int.ofNat 2) (up c 4) (up d 4) (up e 4) (wr IntKind.i64 ((Int.ofNat 257).add (wr IntKind.i64 k)))
 (up (wr IntKind.u8 (f.tdiv (Int.ofNat 6))) 3) (up g 5) (capF g i) (firstF i))
 (Int.ofNat 2)) = (false)) ∧
 (((!eqI
 (MachV (up a 12) (Int.ofNat 2) (up c 4) (up d 4) (up e 4) (wr IntKind.i64 ((Int.ofNat 257).add (wr IntKind.i64 k)))
 (up (wr IntKind.u8 (f.tdiv (Int.ofNat 6))) 3) (up g 5) (capF g i) (firstF i))
 (Int.ofNat 2)) = (false)) ∧
 (((!eqI
 (MachV (up a 12) (Int.ofNat 2) (up c 4) (up d 4) (up e 4) (wr IntKind.i64 ((Int.ofNat 257).add (wr IntKind.i64 k)))
 (up (wr IntKind.u8 (f.tdiv (Int.ofNat 6))) 3) (up g 5) (capF g i) (firstF i))
 (Int.ofNat 2)) = (false)) ∧
 (((!eqI
 (MachV (up a 12) (Int.ofNat 2) (up c 4) (up d 4) (up e 4) (wr IntKind.i64 ((Int.ofNat 257).add (wr IntKind.i64 k)))
 (up (wr IntKind.u8 (f.tdiv (Int.ofNat 6))) 3) (up g 5) (capF g i) (firstF i))
 (Int.ofNat 2)) = (false)) ∧
 (((!eqI
 (MachV (up a 12) (Int.ofNat 2) (up c 4) (up d 4) (up e 4) (up f 6) (up (wr IntKind.u8 (f.tdiv (Int.ofNat 6))) 3)
 (up g 5) (capF g i) (firstF i))
 (Int.ofNat 0)) = (false)) ∧
 (((!eqI
 (MachV (up a 12) (Int.ofNat 2) (up c 4) (up d 4) (up e 4) (up f 6) (up (wr IntKind.u8 (f.tdiv (Int.ofNat 6))) 3)
 (up g 5) (capF g i) (firstF i))
 (Int.ofNat 0)) = (false)) ∧
 (((!eqI
 (MachV (up a 12) (Int.ofNat 2) (up c 4) (up d 4) (up e 4) (up f 6) (up (wr IntKind.u8 (f.tdiv (Int.ofNat 6))) 3)
 (up g 5) (capF g i) (firstF i))
 (Int.ofNat 0)) = (false)) ∧
 (((!eqI
 (MachV (up a 12) (Int.ofNat 2) (up c 4) (up d 4) (up e 4) (wr IntKind.i64 ((Int.ofNat 257).add (wr IntKind.i64 k)))
 (up (wr IntKind.u8 (f.tdiv (Int.ofNat 6))) 3) (up g 5) (capF g i) (firstF i))
 (Int.ofNat 2)) = (false)) ∧
 (((!eqI
 (MachV (up a 12) (Int.ofNat 2) (up c 4) (up d 4) (up e 4) (up f 6) (up (wr IntKind.u8 (f.tdiv (Int.ofNat 6))) 3)
 (up g 5) (capF g i) (firstF i))
 (Int.ofNat 0)) = (false)) ∧
 ((((ilt (wr IntKind.i64 ((Int.negSucc 0).sub (wr IntKind.i64 k))) (Int.ofNat 0)) = (true)) → ((!eqI
 (MachV (up a 12) (Int.ofNat 2) (up c 4) (up d 4) (up e 4) (up f 6) (up (wr IntKind.u8 (f.tdiv (Int.ofNat 6))) 3)
 (up g 5) (capF g i) (firstF i))
 (Int.ofNat 0)) = (false)) ∧
 ((((ilt (wr IntKind.i64 ((Int.ofNat 2001).add (wr IntKind.i64 k))) (Int.ofNat 0)) = (true)) → (V.bool false) = (V.bool true)) ∧
 (((ilt (wr IntKind.i64 ((Int.ofNat 2001).add (wr IntKind.i64 k))) (Int.ofNat 0)) = (false)) → (((ilt (Int.ofNat 2000) (wr IntKind.i64 ((Int.ofNat 2001).add (wr IntKind.i64 k)))) = (true)) → ((okAllowed (up a 12) (Int.ofNat 2) (up c 4) (up d 4) (up e 4) (up f 6) (up (wr IntKind.u8 (f.tdiv (Int.ofNat 6))) 3)
 (up g 5) (capF g i) (firstF i)) = (true)) ∧
 ((((((up a 12) = (up a 12)) ∧
 (((Int.ofNat 2) = (Int.ofNat 2)) ∧
 (((up c 4) = (up c 4)) ∧
 (((up d 4) = (up d 4)) ∧
 (((up e 4) = (up e 4)) ∧
 (((up f 6) = (up f 6)) ∧
 (((up (wr IntKind.u8 (f.tdiv (Int.ofNat 6))) 3) = (up (wr IntKind.u8 (f.tdiv (Int.ofNat 6))) 3)) ∧
 (((up g 5) = (up g 5)) ∧
 (((capF g i) = (capF g i)) ∧
 (((firstF i) = (firstF i)) ∧
 (True))))))))))) ∧
 (((up a 12) = (up a 12)) ∧
 (((Int.ofNat 2) = (Int.ofNat 2)) ∧
 (((up c 4) = (up c 4)) ∧
 (((up d 4) = (up d 4)) ∧
 (((up e 4) = (up e 4)) ∧
 (((up f 6) = (up f 6)) ∧
 (((up (wr IntKind.u8 (f.tdiv (Int.ofNat 6))) 3) = (up (wr IntKind.u8 (f.tdiv (Int.ofNat 6))) 3)) ∧
 (((up g 5) = (up g 5)) ∧
 (((capF g i) = (capF g i)) ∧
 (((firstF i) = (firstF i)) ∧
 (True)))))))))))) ∧
 (True)) ∧
 (((ilt (up a 12) (Int.ofNat 1)) = (false)) ∧
 (((ilt (Int.ofNat 256) (up a 12)) = (false)) ∧
 (((ilt (firstF i) (Int.ofNat 1)) = (false)) ∧
 (((badSlots (up a 12) (firstF i)) = (false)) ∧
 ((True) ∧
 ((True) ∧
 (((ilt (up a 12) (Int.ofNat 1)) = (false)) ∧
 (((ilt (Int.ofNat 256) (up a 12)) = (false)) ∧
 (((ilt (up c 4) (Int.ofNat 1)) = (false)) ∧
 (((ilt (Int.ofNat 64) (up c 4)) = (false)) ∧
 (((ilt (up d 4) (Int.ofNat 1)) = (false)) ∧
 (((ilt (Int.ofNat 64) (up d 4)) = (false)) ∧
 (((ilt (up d 4) (Int.ofNat 1)) = (false)) ∧
 (((ilt (Int.ofNat 64) (up d 4)) = (false)) ∧
 (((ilt (up a 12) (Int.ofNat 1)) = (false)) ∧
 (((ilt (Int.ofNat 256) (up a 12)) = (false)) ∧
 (((false) = (false)) ∧
 (((false) = (false)) ∧
 (((ilt (up e 4) (Int.ofNat 1)) = (false)) ∧
 (((ilt (Int.ofNat 64) (up e 4)) = (false)) ∧
 (((false) = (false)) ∧
 (((false) = (false)) ∧
 (((ilt (up e 4) (Int.ofNat 1)) = (false)) ∧
 (((ilt (Int.ofNat 64) (up e 4)) = (false)) ∧
 (((badSlots (Int.ofNat 256) (firstF i)) = (false)) ∧
 (((!ieq (GensV (firstF i)) (Int.ofNat 0)) = (false)) ∧
 (((badSlots (Int.ofNat 64) (firstF i)) = (false)) ∧
 (((ilt (firstF i) (Int.ofNat 1)) = (false)) ∧
 (((badSlots (Int.ofNat 64) (firstF i)) = (false)) ∧
 (((badSlots (Int.ofNat 64) (firstF i)) = (false)) ∧
 ((True) ∧
 (((ilt (up f 6) (Int.ofNat 1)) = (false)) ∧
 (((ilt (Int.ofNat 256) (up f 6)) = (false)) ∧
 (((ilt (Int.ofNat 0) (up a 12)) = (true)) ∧
 ((((True) ∧
 ((True) ∧
 ((True) ∧
 ((True) ∧
 (True))))) ∧
 (((True) ∧
 ((True) ∧
 ((True) ∧
 ((True) ∧
 (True))))) ∧
 (((True) ∧
 ((True) ∧
 ((True) ∧
 ((True) ∧
 (True))))) ∧
 (True)))) ∧
 (((ilt (Int.ofNat 0) (up a 12)) = (true)) ∧
 (((ilt (Int.ofNat 0) (up a 12)) = (true)) ∧
 (((ilt (Int.ofNat 0) (up c 4)) = (true)) ∧
 ((((True) ∧
 ((True) ∧
 ((True) ∧
 (True)))) ∧
 (((True) ∧
 ((True) ∧
 ((True) ∧
 (True)))) ∧
 (((True) ∧
 ((True) ∧
 ((True) ∧
 (True)))) ∧
 ((((Int.ofNat 2) = (Int.ofNat 2)) ∧
 (((Int.ofNat 2) = (Int.ofNat 2)) ∧
 (((Int.ofNat 2) = (Int.ofNat 2)) ∧
 ((Int.ofNat 2) = (Int.ofNat 2))))) ∧
 ((((up a 12) = (up a 12)) ∧
 (((up a 12) = (up a 12)) ∧
 (((up a 12) = (up a 12)) ∧
 ((up a 12) = (up a 12))))) ∧
 (True)))))) ∧
 (((ilt (Int.ofNat 0) (up d 4)) = (true)) ∧
 ((((True) ∧
 ((True) ∧
 ((True) ∧
 (True)))) ∧
 (True)) ∧
 (((ilt (Int.ofNat 0) (up d 4)) = (true)) ∧
 ((((True) ∧
 ((True) ∧
 ((((0) = (0)) ∧
 (((1) = (1)) ∧
 ((Cap.atl 1 1) = (Cap.atl 1 1)))) ∧
 (((0) = (0)) ∧
 (((1) = (1)) ∧
 ((Cap.atl 1 1) = (Cap.atl 1 1))))))) ∧
 (True)) ∧
 (((ilt (Int.ofNat 0) (up a 12)) = (true)) ∧
 ((((True) ∧
 ((True) ∧
 ((True) ∧
 ((True) ∧
 (True))))) ∧
 (((True) ∧
 ((True) ∧
 ((True) ∧
 ((True) ∧
 (True))))) ∧
 (True))) ∧
 ((((True) ∧
 ((True) ∧
 (True))) ∧
 (((True) ∧
 ((True) ∧
 (True))) ∧
 ((((Int.ofNat 256) = (Int.ofNat 256)) ∧
 (((Int.ofNat 256) = (Int.ofNat 256)) ∧
 ((Int.ofNat 256) = (Int.ofNat 256)))) ∧
 (True)))) ∧
 (((ilt (Int.ofNat 0) (up e 4)) = (true)) ∧
 ((((True) ∧
 ((True) ∧
 ((True) ∧
 ((True) ∧
 (True))))) ∧
 (((True) ∧
 ((True) ∧
 ((True) ∧
 ((True) ∧
 (True))))) ∧
 (((True) ∧
 ((True) ∧
 ((True) ∧
 ((True) ∧
 (True))))) ∧
 (True)))) ∧
 (((((Int.ofNat 256) = (Int.ofNat 256)) ∧
 ((Int.ofNat 256) = (Int.ofNat 256))) ∧
 (((True) ∧
 ((True) ∧
 ((True) ∧
 ((True) ∧
 (True))))) ∧
 (True))) ∧
 ((((True) ∧
 ((True) ∧
 ((True) ∧
 ((True) ∧
 (True))))) ∧
 (((True) ∧
 ((True) ∧
 ((True) ∧
 ((True) ∧
 (True))))) ∧
 (((True) ∧
 ((True) ∧
 ((True) ∧
 ((True) ∧
 (True))))) ∧
 (True)))) ∧
 (((true) = (true)) ∧
 ((((True) ∧
 ((True) ∧
 (True))) ∧
 (((True) ∧
 ((True) ∧
 (True))) ∧
 (True))) ∧
 (((((Int.ofNat 0) = (Int.ofNat 0)) ∧
 (((Int.ofNat 0) = (Int.ofNat 0)) ∧
 ((Int.ofNat 0) = (Int.ofNat 0)))) ∧
 (((True) ∧
 ((True) ∧
 (True))) ∧
 (((True) ∧
 ((True) ∧
 (True))) ∧
 (True)))) ∧
 (((true) = (true)) ∧
 ((((True) ∧
 ((True) ∧
 (True))) ∧
 (((True) ∧
 ((True) ∧
 (True))) ∧
 (True))) ∧
 ((True) ∧
 (((true) = (true)) ∧
 ((True) ∧
 (((true) = (true)) ∧
 ((((((Int.ofNat 0) = (Int.ofNat 0)) ∧
 (((Int.ofNat 0) = (Int.ofNat 0)) ∧
 (((Int.ofNat 0) = (Int.ofNat 0)) ∧
 (((Int.ofNat 0) = (Int.ofNat 0)) ∧
 (((Int.ofNat 0) = (Int.ofNat 0)) ∧
 (((Int.ofNat 0) = (Int.ofNat 0)) ∧
 (((Int.ofNat 0) = (Int.ofNat 0)) ∧
 (((Int.ofNat 0) = (Int.ofNat 0)) ∧
 (((Int.ofNat 0) = (Int.ofNat 0)) ∧
 (((Int.ofNat 0) = (Int.ofNat 0)) ∧
 (((Int.ofNat 0) = (Int.ofNat 0)) ∧
 (((Int.ofNat 0) = (Int.ofNat 0)) ∧
 (((Int.ofNat 0) = (Int.ofNat 0)) ∧
 (((Int.ofNat 0) = (Int.ofNat 0)) ∧
 (((Int.ofNat 0) = (Int.ofNat 0)) ∧
 (((Int.ofNat 0) = (Int.ofNat 0)) ∧
 (((Int.ofNat 0) = (Int.ofNat 0)) ∧
 (((Int.ofNat 0) = (Int.ofNat 0)) ∧
 (((Int.ofNat 0) = (Int.ofNat 0)) ∧
 (((Int.ofNat 0) = (Int.ofNat 0)) ∧
 (((Int.ofNat 0) = (Int.ofNat 0)) ∧
 (((Int.ofNat 0) = (Int.ofNat 0)) ∧
 (((Int.ofNat 0) = (Int.ofNat 0)) ∧
 (((Int.ofNat 0) = (Int.ofNat 0)) ∧
 (((Int.ofNat 0) = (Int.ofNat 0)) ∧
 (((Int.ofNat 0) = (Int.ofNat 0)) ∧
 (((Int.ofNat 0) = (Int.ofNat 0)) ∧
 (((Int.ofNat 0) = (Int.ofNat 0)) ∧
 (((Int.ofNat 0) = (Int.ofNat 0)) ∧
 (((Int.ofNat 0) = (Int.ofNat 0)) ∧
 (((Int.ofNat 0) = (Int.ofNat 0)) ∧
 (((Int.ofNat 0) = (Int.ofNat 0)) ∧
 (((Int.ofNat 0) = (Int.ofNat 0)) ∧
 (((Int.ofNat 0) = (Int.ofNat 0)) ∧
 (((Int.ofNat 0) = (Int.ofNat 0)) ∧
 (((Int.ofNat 0) = (Int.ofNat 0)) ∧
 (((Int.ofNat 0) = (Int.ofNat 0)) ∧
 (((Int.ofNat 0) = (Int.ofNat 0)) ∧
 (((Int.ofNat 0) = (Int.ofNat 0)) ∧
 (((Int.ofNat 0) = (Int.ofNat 0)) ∧
 (((Int.ofNat 0) = (Int.ofNat 0)) ∧
 (((Int.ofNat 0) = (Int.ofNat 0)) ∧
 (((Int.ofNat 0) = (Int.ofNat 0)) ∧
 (((Int.ofNat 0) = (Int.ofNat 0)) ∧
 (((Int.ofNat 0) = (Int.ofNat 0)) ∧
 (((Int.ofNat 0) = (Int.ofNat 0)) ∧
 (((Int.ofNat 0) = (Int.ofNat 0)) ∧
 (((Int.ofNat 0) = (Int.ofNat 0)) ∧
 (((Int.ofNat 0) = (Int.ofNat 0)) ∧
 (((Int.ofNat 0) = (Int.ofNat 0)) ∧
 (((Int.ofNat 0) = (Int.ofNat 0)) ∧
 (((Int.ofNat 0) = (Int.ofNat 0)) ∧
 (((Int.ofNat 0) = (Int.ofNat 0)) ∧
 (((Int.ofNat 0) = (Int.ofNat 0)) ∧
 (((Int.ofNat 0) = (Int.ofNat 0)) ∧
 (((Int.ofNat 0) = (Int.ofNat 0)) ∧
 (((Int.ofNat 0) = (Int.ofNat 0)) ∧
 (((Int.ofNat 0) = (Int.ofNat 0)) ∧
 (((Int.ofNat 0) = (Int.ofNat 0)) ∧
 (((Int.ofNat 0) = (Int.ofNat 0)) ∧
 (((Int.ofNat 0) = (Int.ofNat 0)) ∧
 (((Int.ofNat 0) = (Int.ofNat 0)) ∧
 (((Int.ofNat 0) = (Int.ofNat 0)) ∧
 (((Int.ofNat 0) = (Int.ofNat 0)) ∧
 (True))))))))))))))))))))))))))))))))))))))))))))))))))))))))))))))))) ∧
 (((Int.ofNat 0) = (Int.ofNat 0)) ∧
 (((Int.ofNat 0) = (Int.ofNat 0)) ∧
 (((Int.ofNat 0) = (Int.ofNat 0)) ∧
 (((Int.ofNat 0) = (Int.ofNat 0)) ∧
 (((Int.ofNat 0) = (Int.ofNat 0)) ∧
 (((Int.ofNat 0) = (Int.ofNat 0)) ∧
 (((Int.ofNat 0) = (Int.ofNat 0)) ∧
 (((Int.ofNat 0) = (Int.ofNat 0)) ∧
 (((Int.ofNat 0) = (Int.ofNat 0)) ∧
 (((Int.ofNat 0) = (Int.ofNat 0)) ∧
 (((Int.ofNat 0) = (Int.ofNat 0)) ∧
 (((Int.ofNat 0) = (Int.ofNat 0)) ∧
 (((Int.ofNat 0) = (Int.ofNat 0)) ∧
 (((Int.ofNat 0) = (Int.ofNat 0)) ∧
 (((Int.ofNat 0) = (Int.ofNat 0)) ∧
 (((Int.ofNat 0) = (Int.ofNat 0)) ∧
 (((Int.ofNat 0) = (Int.ofNat 0)) ∧
 (((Int.ofNat 0) = (Int.ofNat 0)) ∧
 (((Int.ofNat 0) = (Int.ofNat 0)) ∧
 (((Int.ofNat 0) = (Int.ofNat 0)) ∧
 (((Int.ofNat 0) = (Int.ofNat 0)) ∧
 (((Int.ofNat 0) = (Int.ofNat 0)) ∧
 (((Int.ofNat 0) = (Int.ofNat 0)) ∧
 (((Int.ofNat 0) = (Int.ofNat 0)) ∧
 (((Int.ofNat 0) = (Int.ofNat 0)) ∧
 (((Int.ofNat 0) = (Int.ofNat 0)) ∧
 (((Int.ofNat 0) = (Int.ofNat 0)) ∧
 (((Int.ofNat 0) = (Int.ofNat 0)) ∧
 (((Int.ofNat 0) = (Int.ofNat 0)) ∧
 (((Int.ofNat 0) = (Int.ofNat 0)) ∧
 (((Int.ofNat 0) = (Int.ofNat 0)) ∧
 (((Int.ofNat 0) = (Int.ofNat 0)) ∧
 (((Int.ofNat 0) = (Int.ofNat 0)) ∧
 (((Int.ofNat 0) = (Int.ofNat 0)) ∧
 (((Int.ofNat 0) = (Int.ofNat 0)) ∧
 (((Int.ofNat 0) = (Int.ofNat 0)) ∧
 (((Int.ofNat 0) = (Int.ofNat 0)) ∧
 (((Int.ofNat 0) = (Int.ofNat 0)) ∧
 (((Int.ofNat 0) = (Int.ofNat 0)) ∧
 (((Int.ofNat 0) = (Int.ofNat 0)) ∧
 (((Int.ofNat 0) = (Int.ofNat 0)) ∧
 (((Int.ofNat 0) = (Int.ofNat 0)) ∧
 (((Int.ofNat 0) = (Int.ofNat 0)) ∧
 (((Int.ofNat 0) = (Int.ofNat 0)) ∧
 (((Int.ofNat 0) = (Int.ofNat 0)) ∧
 (((Int.ofNat 0) = (Int.ofNat 0)) ∧
 (((Int.ofNat 0) = (Int.ofNat 0)) ∧
 (((Int.ofNat 0) = (Int.ofNat 0)) ∧
 (((Int.ofNat 0) = (Int.ofNat 0)) ∧
 (((Int.ofNat 0) = (Int.ofNat 0)) ∧
 (((Int.ofNat 0) = (Int.ofNat 0)) ∧
 (((Int.ofNat 0) = (Int.ofNat 0)) ∧
 (((Int.ofNat 0) = (Int.ofNat 0)) ∧
 (((Int.ofNat 0) = (Int.ofNat 0)) ∧
 (((Int.ofNat 0) = (Int.ofNat 0)) ∧
 (((Int.ofNat 0) = (Int.ofNat 0)) ∧
 (((Int.ofNat 0) = (Int.ofNat 0)) ∧
 (((Int.ofNat 0) = (Int.ofNat 0)) ∧
 (((Int.ofNat 0) = (Int.ofNat 0)) ∧
 (((Int.ofNat 0) = (Int.ofNat 0)) ∧
 (((Int.ofNat 0) = (Int.ofNat 0)) ∧
 (((Int.ofNat 0) = (Int.ofNat 0)) ∧
 (((Int.ofNat 0) = (Int.ofNat 0)) ∧
 (((Int.ofNat 0) = (Int.ofNat 0)) ∧
 (True)))))))))))))))))))))))))))))))))))))))))))))))))))))))))))))))))) ∧
 (((True) ∧
 (True)) ∧
 (True))) ∧
 ((True) ∧
 (((ilt (Int.ofNat 0) (up f 6)) = (true)) ∧
 ((((True) ∧
 ((True) ∧
 ((True) ∧
 ((True) ∧
 ((True) ∧
 ((True) ∧
 ((True) ∧
 ((True) ∧
 (True))))))))) ∧
 (((True) ∧
 ((True) ∧
 ((True) ∧
 ((True) ∧
 ((True) ∧
 ((True) ∧
 ((True) ∧
 ((True) ∧
 (True))))))))) ∧
 (((True) ∧
 ((True) ∧
 ((True) ∧
 ((True) ∧
 ((True) ∧
 ((True) ∧
 ((True) ∧
 ((True) ∧
 (True))))))))) ∧
 (((True) ∧
 ((True) ∧
 ((True) ∧
 ((True) ∧
 ((True) ∧
 ((True) ∧
 ((True) ∧
 ((True) ∧
 (True))))))))) ∧
 (True))))) ∧
 ((((True) ∧
 ((True) ∧
 ((True) ∧
 (True)))) ∧
 (((True) ∧
 ((True) ∧
 ((True) ∧
 (True)))) ∧
 (((True) ∧
 ((True) ∧
 ((True) ∧
 (True)))) ∧
 ((((Int.ofNat 2) = (Int.ofNat 2)) ∧
 (((Int.ofNat 2) = (Int.ofNat 2)) ∧
 (((Int.ofNat 2) = (Int.ofNat 2)) ∧
 ((Int.ofNat 2) = (Int.ofNat 2))))) ∧
 (True))))) ∧
 ((((ilt (wr IntKind.i64 ((Int.negSucc 0).sub (wr IntKind.i64 k))) (Int.ofNat 0)) = (true)) → ((ilt (Int.ofNat 0) (up a 12)) = (true)) ∧
 ((((True) ∧
 ((True) ∧
 ((True) ∧
 ((True) ∧
 (True))))) ∧
 (((True) ∧
 ((True) ∧
 ((True) ∧
 ((True) ∧
 (True))))) ∧
 (((True) ∧
 ((True) ∧
 ((True) ∧
 ((True) ∧
 (True))))) ∧
 (True)))) ∧
 (((ilt (Int.ofNat 0) (up a 12)) = (true)) ∧
 (((ilt (Int.ofNat 0) (up a 12)) = (true)) ∧
 (((ilt (Int.ofNat 0) (up c 4)) = (true)) ∧
 ((((True) ∧
 ((True) ∧
 ((True) ∧
 (True)))) ∧
 (((True) ∧
 ((True) ∧
 ((True) ∧
 (True)))) ∧
 (((True) ∧
 ((True) ∧
 ((True) ∧
 (True)))) ∧
 ((((Int.ofNat 2) = (Int.ofNat 2)) ∧
 (((Int.ofNat 2) = (Int.ofNat 2)) ∧
 (((Int.ofNat 2) = (Int.ofNat 2)) ∧
 ((Int.ofNat 2) = (Int.ofNat 2))))) ∧
 ((((up a 12) = (up a 12)) ∧
 (((up a 12) = (up a 12)) ∧
 (((up a 12) = (up a 12)) ∧
 ((up a 12) = (up a 12))))) ∧
 (True)))))) ∧
 (((ilt (Int.ofNat 0) (up d 4)) = (true)) ∧
 ((((True) ∧
 ((True) ∧
 ((True) ∧
 (True)))) ∧
 (True)) ∧
 (((ilt (Int.ofNat 0) (up d 4)) = (true)) ∧
 ((((True) ∧
 ((True) ∧
 ((((0) = (0)) ∧
 (((1) = (1)) ∧
 ((Cap.atl 1 1) = (Cap.atl 1 1)))) ∧
 (((0) = (0)) ∧
 (((1) = (1)) ∧
 ((Cap.atl 1 1) = (Cap.atl 1 1))))))) ∧
 (True)) ∧
 (((ilt (Int.ofNat 0) (up a 12)) = (true)) ∧
 ((((True) ∧
 ((True) ∧
 ((True) ∧
 ((True) ∧
 (True))))) ∧
 (((True) ∧
 ((True) ∧
 ((True) ∧
 ((True) ∧
 (True))))) ∧
 (True))) ∧
 ((((True) ∧
 ((True) ∧
 (True))) ∧
 (((True) ∧
 ((True) ∧
 (True))) ∧
 ((((Int.ofNat 256) = (Int.ofNat 256)) ∧
 (((Int.ofNat 256) = (Int.ofNat 256)) ∧
 ((Int.ofNat 256) = (Int.ofNat 256)))) ∧
 (True)))) ∧
 (((ilt (Int.ofNat 0) (up e 4)) = (true)) ∧
 ((((True) ∧
 ((True) ∧
 ((True) ∧
 ((True) ∧
 (True))))) ∧
 (((True) ∧
 ((True) ∧
 ((True) ∧
 ((True) ∧
 (True))))) ∧
 (((True) ∧
 ((True) ∧
 ((True) ∧
 ((True) ∧
 (True))))) ∧
 (True)))) ∧
 (((((Int.ofNat 256) = (Int.ofNat 256)) ∧
 ((Int.ofNat 256) = (Int.ofNat 256))) ∧
 (((True) ∧
 ((True) ∧
 ((True) ∧
 ((True) ∧
 (True))))) ∧
 (True))) ∧
 ((((True) ∧
 ((True) ∧
 ((True) ∧
 ((True) ∧
 (True))))) ∧
 (((True) ∧
 ((True) ∧
 ((True) ∧
 ((True) ∧
 (True))))) ∧
 (((True) ∧
 ((True) ∧
 ((True) ∧
 ((True) ∧
 (True))))) ∧
 (True)))) ∧
 (((true) = (true)) ∧
 ((((True) ∧
 ((True) ∧
 (True))) ∧
 (((True) ∧
 ((True) ∧
 (True))) ∧
 (True))) ∧
 (((((Int.ofNat 0) = (Int.ofNat 0)) ∧
 (((Int.ofNat 0) = (Int.ofNat 0)) ∧
 ((Int.ofNat 0) = (Int.ofNat 0)))) ∧
 (((True) ∧
 ((True) ∧
 (True))) ∧
 (((True) ∧
 ((True) ∧
 (True))) ∧
 (True)))) ∧
 (((true) = (true)) ∧
 ((((True) ∧
 ((True) ∧
 (True))) ∧
 (((True) ∧
 ((True) ∧
 (True))) ∧
 (True))) ∧
 ((True) ∧
 (((true) = (true)) ∧
 ((True) ∧
 (((true) = (true)) ∧
 ((((((Int.ofNat 0) = (Int.ofNat 0)) ∧
 (((Int.ofNat 0) = (Int.ofNat 0)) ∧
 (((Int.ofNat 0) = (Int.ofNat 0)) ∧
 (((Int.ofNat 0) = (Int.ofNat 0)) ∧
 (((Int.ofNat 0) = (Int.ofNat 0)) ∧
 (((Int.ofNat 0) = (Int.ofNat 0)) ∧
 (((Int.ofNat 0) = (Int.ofNat 0)) ∧
 (((Int.ofNat 0) = (Int.ofNat 0)) ∧
 (((Int.ofNat 0) = (Int.ofNat 0)) ∧
 (((Int.ofNat 0) = (Int.ofNat 0)) ∧
 (((Int.ofNat 0) = (Int.ofNat 0)) ∧
 (((Int.ofNat 0) = (Int.ofNat 0)) ∧
 (((Int.ofNat 0) = (Int.ofNat 0)) ∧
 (((Int.ofNat 0) = (Int.ofNat 0)) ∧
 (((Int.ofNat 0) = (Int.ofNat 0)) ∧
 (((Int.ofNat 0) = (Int.ofNat 0)) ∧
 (((Int.ofNat 0) = (Int.ofNat 0)) ∧
 (((Int.ofNat 0) = (Int.ofNat 0)) ∧
 (((Int.ofNat 0) = (Int.ofNat 0)) ∧
 (((Int.ofNat 0) = (Int.ofNat 0)) ∧
 (((Int.ofNat 0) = (Int.ofNat 0)) ∧
 (((Int.ofNat 0) = (Int.ofNat 0)) ∧
 (((Int.ofNat 0) = (Int.ofNat 0)) ∧
 (((Int.ofNat 0) = (Int.ofNat 0)) ∧
 (((Int.ofNat 0) = (Int.ofNat 0)) ∧
 (((Int.ofNat 0) = (Int.ofNat 0)) ∧
 (((Int.ofNat 0) = (Int.ofNat 0)) ∧
 (((Int.ofNat 0) = (Int.ofNat 0)) ∧
 (((Int.ofNat 0) = (Int.ofNat 0)) ∧
 (((Int.ofNat 0) = (Int.ofNat 0)) ∧
 (((Int.ofNat 0) = (Int.ofNat 0)) ∧
 (((Int.ofNat 0) = (Int.ofNat 0)) ∧
 (((Int.ofNat 0) = (Int.ofNat 0)) ∧
 (((Int.ofNat 0) = (Int.ofNat 0)) ∧
 (((Int.ofNat 0) = (Int.ofNat 0)) ∧
 (((Int.ofNat 0) = (Int.ofNat 0)) ∧
 (((Int.ofNat 0) = (Int.ofNat 0)) ∧
 (((Int.ofNat 0) = (Int.ofNat 0)) ∧
 (((Int.ofNat 0) = (Int.ofNat 0)) ∧
 (((Int.ofNat 0) = (Int.ofNat 0)) ∧
 (((Int.ofNat 0) = (Int.ofNat 0)) ∧
 (((Int.ofNat 0) = (Int.ofNat 0)) ∧
 (((Int.ofNat 0) = (Int.ofNat 0)) ∧
 (((Int.ofNat 0) = (Int.ofNat 0)) ∧
 (((Int.ofNat 0) = (Int.ofNat 0)) ∧
 (((Int.ofNat 0) = (Int.ofNat 0)) ∧
 (((Int.ofNat 0) = (Int.ofNat 0)) ∧
 (((Int.ofNat 0) = (Int.ofNat 0)) ∧
 (((Int.ofNat 0) = (Int.ofNat 0)) ∧
 (((Int.ofNat 0) = (Int.ofNat 0)) ∧
 (((Int.ofNat 0) = (Int.ofNat 0)) ∧
 (((Int.ofNat 0) = (Int.ofNat 0)) ∧
 (((Int.ofNat 0) = (Int.ofNat 0)) ∧
 (((Int.ofNat 0) = (Int.ofNat 0)) ∧
 (((Int.ofNat 0) = (Int.ofNat 0)) ∧
 (((Int.ofNat 0) = (Int.ofNat 0)) ∧
 (((Int.ofNat 0) = (Int.ofNat 0)) ∧
 (((Int.ofNat 0) = (Int.ofNat 0)) ∧
 (((Int.ofNat 0) = (Int.ofNat 0)) ∧
 (((Int.ofNat 0) = (Int.ofNat 0)) ∧
 (((Int.ofNat 0) = (Int.ofNat 0)) ∧
 (((Int.ofNat 0) = (Int.ofNat 0)) ∧
 (((Int.ofNat 0) = (Int.ofNat 0)) ∧
 (((Int.ofNat 0) = (Int.ofNat 0)) ∧
 (True))))))))))))))))))))))))))))))))))))))))))))))))))))))))))))))))) ∧
 (((Int.ofNat 0) = (Int.ofNat 0)) ∧
 (((Int.ofNat 0) = (Int.ofNat 0)) ∧
 (((Int.ofNat 0) = (Int.ofNat 0)) ∧
 (((Int.ofNat 0) = (Int.ofNat 0)) ∧
 (((Int.ofNat 0) = (Int.ofNat 0)) ∧
 (((Int.ofNat 0) = (Int.ofNat 0)) ∧
 (((Int.ofNat 0) = (Int.ofNat 0)) ∧
 (((Int.ofNat 0) = (Int.ofNat 0)) ∧
 (((Int.ofNat 0) = (Int.ofNat 0)) ∧
 (((Int.ofNat 0) = (Int.ofNat 0)) ∧
 (((Int.ofNat 0) = (Int.ofNat 0)) ∧
 (((Int.ofNat 0) = (Int.ofNat 0)) ∧
 (((Int.ofNat 0) = (Int.ofNat 0)) ∧
 (((Int.ofNat 0) = (Int.ofNat 0)) ∧
 (((Int.ofNat 0) = (Int.ofNat 0)) ∧
 (((Int.ofNat 0) = (Int.ofNat 0)) ∧
 (((Int.ofNat 0) = (Int.ofNat 0)) ∧
 (((Int.ofNat 0) = (Int.ofNat 0)) ∧
 (((Int.ofNat 0) = (Int.ofNat 0)) ∧
 (((Int.ofNat 0) = (Int.ofNat 0)) ∧
 (((Int.ofNat 0) = (Int.ofNat 0)) ∧
 (((Int.ofNat 0) = (Int.ofNat 0)) ∧
 (((Int.ofNat 0) = (Int.ofNat 0)) ∧
 (((Int.ofNat 0) = (Int.ofNat 0)) ∧
 (((Int.ofNat 0) = (Int.ofNat 0)) ∧
 (((Int.ofNat 0) = (Int.ofNat 0)) ∧
 (((Int.ofNat 0) = (Int.ofNat 0)) ∧
 (((Int.ofNat 0) = (Int.ofNat 0)) ∧
 (((Int.ofNat 0) = (Int.ofNat 0)) ∧
 (((Int.ofNat 0) = (Int.ofNat 0)) ∧
 (((Int.ofNat 0) = (Int.ofNat 0)) ∧
 (((Int.ofNat 0) = (Int.ofNat 0)) ∧
 (((Int.ofNat 0) = (Int.ofNat 0)) ∧
 (((Int.ofNat 0) = (Int.ofNat 0)) ∧
 (((Int.ofNat 0) = (Int.ofNat 0)) ∧
 (((Int.ofNat 0) = (Int.ofNat 0)) ∧
 (((Int.ofNat 0) = (Int.ofNat 0)) ∧
 (((Int.ofNat 0) = (Int.ofNat 0)) ∧
 (((Int.ofNat 0) = (Int.ofNat 0)) ∧
 (((Int.ofNat 0) = (Int.ofNat 0)) ∧
 (((Int.ofNat 0) = (Int.ofNat 0)) ∧
 (((Int.ofNat 0) = (Int.ofNat 0)) ∧
 (((Int.ofNat 0) = (Int.ofNat 0)) ∧
 (((Int.ofNat 0) = (Int.ofNat 0)) ∧
 (((Int.ofNat 0) = (Int.ofNat 0)) ∧
 (((Int.ofNat 0) = (Int.ofNat 0)) ∧
 (((Int.ofNat 0) = (Int.ofNat 0)) ∧
 (((Int.ofNat 0) = (Int.ofNat 0)) ∧
 (((Int.ofNat 0) = (Int.ofNat 0)) ∧
 (((Int.ofNat 0) = (Int.ofNat 0)) ∧
 (((Int.ofNat 0) = (Int.ofNat 0)) ∧
 (((Int.ofNat 0) = (Int.ofNat 0)) ∧
 (((Int.ofNat 0) = (Int.ofNat 0)) ∧
 (((Int.ofNat 0) = (Int.ofNat 0)) ∧
 (((Int.ofNat 0) = (Int.ofNat 0)) ∧
 (((Int.ofNat 0) = (Int.ofNat 0)) ∧
 (((Int.ofNat 0) = (Int.ofNat 0)) ∧
 (((Int.ofNat 0) = (Int.ofNat 0)) ∧
 (((Int.ofNat 0) = (Int.ofNat 0)) ∧
 (((Int.ofNat 0) = (Int.ofNat 0)) ∧
 (((Int.ofNat 0) = (Int.ofNat 0)) ∧
 (((Int.ofNat 0) = (Int.ofNat 0)) ∧
 (((Int.ofNat 0) = (Int.ofNat 0)) ∧
 (((Int.ofNat 0) = (Int.ofNat 0)) ∧
 (True)))))))))))))))))))))))))))))))))))))))))))))))))))))))))))))))))) ∧
 (((True) ∧
 (True)) ∧
 (True))) ∧
 ((True) ∧
 (((ilt (Int.ofNat 0) (up f 6)) = (true)) ∧
 ((((True) ∧
 ((True) ∧
 ((True) ∧
 ((True) ∧
 ((True) ∧
 ((True) ∧
 ((True) ∧
 ((True) ∧
 (True))))))))) ∧
 (((True) ∧
 ((True) ∧
 ((True) ∧
 ((True) ∧
 ((True) ∧
 ((True) ∧
 ((True) ∧
 ((True) ∧
 (True))))))))) ∧
 (((True) ∧
 ((True) ∧
 ((True) ∧
 ((True) ∧
 ((True) ∧
 ((True) ∧
 ((True) ∧
 ((True) ∧
 (True))))))))) ∧
 (((True) ∧
 ((True) ∧
 ((True) ∧
 ((True) ∧
 ((True) ∧
 ((True) ∧
 ((True) ∧
 ((True) ∧
 (True))))))))) ∧
 (True))))) ∧
 ((((True) ∧
 ((True) ∧
 ((True) ∧
 (True)))) ∧
 (((True) ∧
 ((True) ∧
 ((True) ∧
 (True)))) ∧
 (((True) ∧
 ((True) ∧
 ((True) ∧
 (True)))) ∧
 ((((Int.ofNat 2) = (Int.ofNat 2)) ∧
 (((Int.ofNat 2) = (Int.ofNat 2)) ∧
 (((Int.ofNat 2) = (Int.ofNat 2)) ∧
 ((Int.ofNat 2) = (Int.ofNat 2))))) ∧
 (True))))) ∧
 ((((ilt (wr IntKind.i64 ((Int.ofNat 1001).add (wr IntKind.i64 k))) (Int.ofNat 0)) = (true)) → (V.bool true) = (V.bool true)) ∧
 (((ilt (wr IntKind.i64 ((Int.ofNat 1001).add (wr IntKind.i64 k))) (Int.ofNat 0)) = (false)) → (((ilt (Int.ofNat 1000) (wr IntKind.i64 ((Int.ofNat 1001).add (wr IntKind.i64 k)))) = (true)) → (V.bool true) = (V.bool true)) ∧
 (((ilt (Int.ofNat 1000) (wr IntKind.i64 ((Int.ofNat 1001).add (wr IntKind.i64 k)))) = (false)) → ((ilt (Int.ofNat 0) (wr IntKind.i64 ((Int.ofNat 1001).add (wr IntKind.i64 k)))) = (true)) ∧
 (((true) = (false)) ∧
 (((true) = (false)) ∧
 ((V.bool false) = (V.bool true)))))))))))))))))))))))))))))))))))))) ∧
 (((ilt (wr IntKind.i64 ((Int.negSucc 0).sub (wr IntKind.i64 k))) (Int.ofNat 0)) = (false)) → (((ilt (Int.ofNat 1000) (wr IntKind.i64 ((Int.negSucc 0).sub (wr IntKind.i64 k)))) = (true)) → ((ilt (Int.ofNat 0) (up a 12)) = (true)) ∧
 ((((True) ∧
 ((True) ∧
 ((True) ∧
 ((True) ∧
 (True))))) ∧
 (((True) ∧
 ((True) ∧
 ((True) ∧
 ((True) ∧
 (True))))) ∧
 (((True) ∧
 ((True) ∧
 ((True) ∧
 ((True) ∧
 (True))))) ∧
 (True)))) ∧
 (((ilt (Int.ofNat 0) (up a 12)) = (true)) ∧
 (((ilt (Int.ofNat 0) (up a 12)) = (true)) ∧
 (((ilt (Int.ofNat 0) (up c 4)) = (true)) ∧
 ((((True) ∧
 ((True) ∧
 ((True) ∧
 (True)))) ∧
 (((True) ∧
 ((True) ∧
 ((True) ∧
 (True)))) ∧
 (((True) ∧
 ((True) ∧
 ((True) ∧
 (True)))) ∧
 ((((Int.ofNat 2) = (Int.ofNat 2)) ∧
 (((Int.ofNat 2) = (Int.ofNat 2)) ∧
 (((Int.ofNat 2) = (Int.ofNat 2)) ∧
 ((Int.ofNat 2) = (Int.ofNat 2))))) ∧
 ((((up a 12) = (up a 12)) ∧
 (((up a 12) = (up a 12)) ∧
 (((up a 12) = (up a 12)) ∧
 ((up a 12) = (up a 12))))) ∧
 (True)))))) ∧
 (((ilt (Int.ofNat 0) (up d 4)) = (true)) ∧
 ((((True) ∧
 ((True) ∧
 ((True) ∧
 (True)))) ∧
 (True)) ∧
 (((ilt (Int.ofNat 0) (up d 4)) = (true)) ∧
 ((((True) ∧
 ((True) ∧
 ((((0) = (0)) ∧
 (((1) = (1)) ∧
 ((Cap.atl 1 1) = (Cap.atl 1 1)))) ∧
 (((0) = (0)) ∧
 (((1) = (1)) ∧
 ((Cap.atl 1 1) = (Cap.atl 1 1))))))) ∧
 (True)) ∧
 (((ilt (Int.ofNat 0) (up a 12)) = (true)) ∧
 ((((True) ∧
 ((True) ∧
 ((True) ∧
 ((True) ∧
 (True))))) ∧
 (((True) ∧
 ((True) ∧
 ((True) ∧
 ((True) ∧
 (True))))) ∧
 (True))) ∧
 ((((True) ∧
 ((True) ∧
 (True))) ∧
 (((True) ∧
 ((True) ∧
 (True))) ∧
 ((((Int.ofNat 256) = (Int.ofNat 256)) ∧
 (((Int.ofNat 256) = (Int.ofNat 256)) ∧
 ((Int.ofNat 256) = (Int.ofNat 256)))) ∧
 (True)))) ∧
 (((ilt (Int.ofNat 0) (up e 4)) = (true)) ∧
 ((((True) ∧
 ((True) ∧
 ((True) ∧
 ((True) ∧
 (True))))) ∧
 (((True) ∧
 ((True) ∧
 ((True) ∧
 ((True) ∧
 (True))))) ∧
 (((True) ∧
 ((True) ∧
 ((True) ∧
 ((True) ∧
 (True))))) ∧
 (True)))) ∧
 (((((Int.ofNat 256) = (Int.ofNat 256)) ∧
 ((Int.ofNat 256) = (Int.ofNat 256))) ∧
 (((True) ∧
 ((True) ∧
 ((True) ∧
 ((True) ∧
 (True))))) ∧
 (True))) ∧
 ((((True) ∧
 ((True) ∧
 ((True) ∧
 ((True) ∧
 (True))))) ∧
 (((True) ∧
 ((True) ∧
 ((True) ∧
 ((True) ∧
 (True))))) ∧
 (((True) ∧
 ((True) ∧
 ((True) ∧
 ((True) ∧
 (True))))) ∧
 (True)))) ∧
 (((true) = (true)) ∧
 ((((True) ∧
 ((True) ∧
 (True))) ∧
 (((True) ∧
 ((True) ∧
 (True))) ∧
 (True))) ∧
 (((((Int.ofNat 0) = (Int.ofNat 0)) ∧
 (((Int.ofNat 0) = (Int.ofNat 0)) ∧
 ((Int.ofNat 0) = (Int.ofNat 0)))) ∧
 (((True) ∧
 ((True) ∧
 (True))) ∧
 (((True) ∧
 ((True) ∧
 (True))) ∧
 (True)))) ∧
 (((true) = (true)) ∧
 ((((True) ∧
 ((True) ∧
 (True))) ∧
 (((True) ∧
 ((True) ∧
 (True))) ∧
 (True))) ∧
 ((True) ∧
 (((true) = (true)) ∧
 ((True) ∧
 (((true) = (true)) ∧
 ((((((Int.ofNat 0) = (Int.ofNat 0)) ∧
 (((Int.ofNat 0) = (Int.ofNat 0)) ∧
 (((Int.ofNat 0) = (Int.ofNat 0)) ∧
 (((Int.ofNat 0) = (Int.ofNat 0)) ∧
 (((Int.ofNat 0) = (Int.ofNat 0)) ∧
 (((Int.ofNat 0) = (Int.ofNat 0)) ∧
 (((Int.ofNat 0) = (Int.ofNat 0)) ∧
 (((Int.ofNat 0) = (Int.ofNat 0)) ∧
 (((Int.ofNat 0) = (Int.ofNat 0)) ∧
 (((Int.ofNat 0) = (Int.ofNat 0)) ∧
 (((Int.ofNat 0) = (Int.ofNat 0)) ∧
 (((Int.ofNat 0) = (Int.ofNat 0)) ∧
 (((Int.ofNat 0) = (Int.ofNat 0)) ∧
 (((Int.ofNat 0) = (Int.ofNat 0)) ∧
 (((Int.ofNat 0) = (Int.ofNat 0)) ∧
 (((Int.ofNat 0) = (Int.ofNat 0)) ∧
 (((Int.ofNat 0) = (Int.ofNat 0)) ∧
 (((Int.ofNat 0) = (Int.ofNat 0)) ∧
 (((Int.ofNat 0) = (Int.ofNat 0)) ∧
 (((Int.ofNat 0) = (Int.ofNat 0)) ∧
 (((Int.ofNat 0) = (Int.ofNat 0)) ∧
 (((Int.ofNat 0) = (Int.ofNat 0)) ∧
 (((Int.ofNat 0) = (Int.ofNat 0)) ∧
 (((Int.ofNat 0) = (Int.ofNat 0)) ∧
 (((Int.ofNat 0) = (Int.ofNat 0)) ∧
 (((Int.ofNat 0) = (Int.ofNat 0)) ∧
 (((Int.ofNat 0) = (Int.ofNat 0)) ∧
 (((Int.ofNat 0) = (Int.ofNat 0)) ∧
 (((Int.ofNat 0) = (Int.ofNat 0)) ∧
 (((Int.ofNat 0) = (Int.ofNat 0)) ∧
 (((Int.ofNat 0) = (Int.ofNat 0)) ∧
 (((Int.ofNat 0) = (Int.ofNat 0)) ∧
 (((Int.ofNat 0) = (Int.ofNat 0)) ∧
 (((Int.ofNat 0) = (Int.ofNat 0)) ∧
 (((Int.ofNat 0) = (Int.ofNat 0)) ∧
 (((Int.ofNat 0) = (Int.ofNat 0)) ∧
 (((Int.ofNat 0) = (Int.ofNat 0)) ∧
 (((Int.ofNat 0) = (Int.ofNat 0)) ∧
 (((Int.ofNat 0) = (Int.ofNat 0)) ∧
 (((Int.ofNat 0) = (Int.ofNat 0)) ∧
 (((Int.ofNat 0) = (Int.ofNat 0)) ∧
 (((Int.ofNat 0) = (Int.ofNat 0)) ∧
 (((Int.ofNat 0) = (Int.ofNat 0)) ∧
 (((Int.ofNat 0) = (Int.ofNat 0)) ∧
 (((Int.ofNat 0) = (Int.ofNat 0)) ∧
 (((Int.ofNat 0) = (Int.ofNat 0)) ∧
 (((Int.ofNat 0) = (Int.ofNat 0)) ∧
 (((Int.ofNat 0) = (Int.ofNat 0)) ∧
 (((Int.ofNat 0) = (Int.ofNat 0)) ∧
 (((Int.ofNat 0) = (Int.ofNat 0)) ∧
 (((Int.ofNat 0) = (Int.ofNat 0)) ∧
 (((Int.ofNat 0) = (Int.ofNat 0)) ∧
 (((Int.ofNat 0) = (Int.ofNat 0)) ∧
 (((Int.ofNat 0) = (Int.ofNat 0)) ∧
 (((Int.ofNat 0) = (Int.ofNat 0)) ∧
 (((Int.ofNat 0) = (Int.ofNat 0)) ∧
 (((Int.ofNat 0) = (Int.ofNat 0)) ∧
 (((Int.ofNat 0) = (Int.ofNat 0)) ∧
 (((Int.ofNat 0) = (Int.ofNat 0)) ∧
 (((Int.ofNat 0) = (Int.ofNat 0)) ∧
 (((Int.ofNat 0) = (Int.ofNat 0)) ∧
 (((Int.ofNat 0) = (Int.ofNat 0)) ∧
 (((Int.ofNat 0) = (Int.ofNat 0)) ∧
 (((Int.ofNat 0) = (Int.ofNat 0)) ∧
 (True))))))))))))))))))))))))))))))))))))))))))))))))))))))))))))))))) ∧
 (((Int.ofNat 0) = (Int.ofNat 0)) ∧
 (((Int.ofNat 0) = (Int.ofNat 0)) ∧
 (((Int.ofNat 0) = (Int.ofNat 0)) ∧
 (((Int.ofNat 0) = (Int.ofNat 0)) ∧
 (((Int.ofNat 0) = (Int.ofNat 0)) ∧
 (((Int.ofNat 0) = (Int.ofNat 0)) ∧
 (((Int.ofNat 0) = (Int.ofNat 0)) ∧
 (((Int.ofNat 0) = (Int.ofNat 0)) ∧
 (((Int.ofNat 0) = (Int.ofNat 0)) ∧
 (((Int.ofNat 0) = (Int.ofNat 0)) ∧
 (((Int.ofNat 0) = (Int.ofNat 0)) ∧
 (((Int.ofNat 0) = (Int.ofNat 0)) ∧
 (((Int.ofNat 0) = (Int.ofNat 0)) ∧
 (((Int.ofNat 0) = (Int.ofNat 0)) ∧
 (((Int.ofNat 0) = (Int.ofNat 0)) ∧
 (((Int.ofNat 0) = (Int.ofNat 0)) ∧
 (((Int.ofNat 0) = (Int.ofNat 0)) ∧
 (((Int.ofNat 0) = (Int.ofNat 0)) ∧
 (((Int.ofNat 0) = (Int.ofNat 0)) ∧
 (((Int.ofNat 0) = (Int.ofNat 0)) ∧
 (((Int.ofNat 0) = (Int.ofNat 0)) ∧
 (((Int.ofNat 0) = (Int.ofNat 0)) ∧
 (((Int.ofNat 0) = (Int.ofNat 0)) ∧
 (((Int.ofNat 0) = (Int.ofNat 0)) ∧
 (((Int.ofNat 0) = (Int.ofNat 0)) ∧
 (((Int.ofNat 0) = (Int.ofNat 0)) ∧
 (((Int.ofNat 0) = (Int.ofNat 0)) ∧
 (((Int.ofNat 0) = (Int.ofNat 0)) ∧
 (((Int.ofNat 0) = (Int.ofNat 0)) ∧
 (((Int.ofNat 0) = (Int.ofNat 0)) ∧
 (((Int.ofNat 0) = (Int.ofNat 0)) ∧
 (((Int.ofNat 0) = (Int.ofNat 0)) ∧
 (((Int.ofNat 0) = (Int.ofNat 0)) ∧
 (((Int.ofNat 0) = (Int.ofNat 0)) ∧
 (((Int.ofNat 0) = (Int.ofNat 0)) ∧
 (((Int.ofNat 0) = (Int.ofNat 0)) ∧
 (((Int.ofNat 0) = (Int.ofNat 0)) ∧
 (((Int.ofNat 0) = (Int.ofNat 0)) ∧
 (((Int.ofNat 0) = (Int.ofNat 0)) ∧
 (((Int.ofNat 0) = (Int.ofNat 0)) ∧
 (((Int.ofNat 0) = (Int.ofNat 0)) ∧
 (((Int.ofNat 0) = (Int.ofNat 0)) ∧
 (((Int.ofNat 0) = (Int.ofNat 0)) ∧
 (((Int.ofNat 0) = (Int.ofNat 0)) ∧
 (((Int.ofNat 0) = (Int.ofNat 0)) ∧
 (((Int.ofNat 0) = (Int.ofNat 0)) ∧
 (((Int.ofNat 0) = (Int.ofNat 0)) ∧
 (((Int.ofNat 0) = (Int.ofNat 0)) ∧
 (((Int.ofNat 0) = (Int.ofNat 0)) ∧
 (((Int.ofNat 0) = (Int.ofNat 0)) ∧
 (((Int.ofNat 0) = (Int.ofNat 0)) ∧
 (((Int.ofNat 0) = (Int.ofNat 0)) ∧
 (((Int.ofNat 0) = (Int.ofNat 0)) ∧
 (((Int.ofNat 0) = (Int.ofNat 0)) ∧
 (((Int.ofNat 0) = (Int.ofNat 0)) ∧
 (((Int.ofNat 0) = (Int.ofNat 0)) ∧
 (((Int.ofNat 0) = (Int.ofNat 0)) ∧
 (((Int.ofNat 0) = (Int.ofNat 0)) ∧
 (((Int.ofNat 0) = (Int.ofNat 0)) ∧
 (((Int.ofNat 0) = (Int.ofNat 0)) ∧
 (((Int.ofNat 0) = (Int.ofNat 0)) ∧
 (((Int.ofNat 0) = (Int.ofNat 0)) ∧
 (((Int.ofNat 0) = (Int.ofNat 0)) ∧
 (((Int.ofNat 0) = (Int.ofNat 0)) ∧
 (True)))))))))))))))))))))))))))))))))))))))))))))))))))))))))))))))))) ∧
 (((True) ∧
 (True)) ∧
 (True))) ∧
 ((True) ∧
 (((ilt (Int.ofNat 0) (up f 6)) = (true)) ∧
 ((((True) ∧
 ((True) ∧
 ((True) ∧
 ((True) ∧
 ((True) ∧
 ((True) ∧
 ((True) ∧
 ((True) ∧
 (True))))))))) ∧
 (((True) ∧
 ((True) ∧
 ((True) ∧
 ((True) ∧
 ((True) ∧
 ((True) ∧
 ((True) ∧
 ((True) ∧
 (True))))))))) ∧
 (((True) ∧
 ((True) ∧
 ((True) ∧
 ((True) ∧
 ((True) ∧
 ((True) ∧
 ((True) ∧
 ((True) ∧
 (True))))))))) ∧
 (((True) ∧
 ((True) ∧
 ((True) ∧
 ((True) ∧
 ((True) ∧
 ((True) ∧
 ((True) ∧
 ((True) ∧
 (True))))))))) ∧
 (True))))) ∧
 ((((True) ∧
 ((True) ∧
 ((True) ∧
 (True)))) ∧
 (((True) ∧
 ((True) ∧
 ((True) ∧
 (True)))) ∧
 (((True) ∧
 ((True) ∧
 ((True) ∧
 (True)))) ∧
 ((((Int.ofNat 2) = (Int.ofNat 2)) ∧
 (((Int.ofNat 2) = (Int.ofNat 2)) ∧
 (((Int.ofNat 2) = (Int.ofNat 2)) ∧
 ((Int.ofNat 2) = (Int.ofNat 2))))) ∧
 (True))))) ∧
 ((((ilt (wr IntKind.i64 ((Int.ofNat 1001).add (wr IntKind.i64 k))) (Int.ofNat 0)) = (true)) → (V.bool true) = (V.bool true)) ∧
 (((ilt (wr IntKind.i64 ((Int.ofNat 1001).add (wr IntKind.i64 k))) (Int.ofNat 0)) = (false)) → (((ilt (Int.ofNat 1000) (wr IntKind.i64 ((Int.ofNat 1001).add (wr IntKind.i64 k)))) = (true)) → (V.bool true) = (V.bool true)) ∧
 (((ilt (Int.ofNat 1000) (wr IntKind.i64 ((Int.ofNat 1001).add (wr IntKind.i64 k)))) = (false)) → ((ilt (Int.ofNat 0) (wr IntKind.i64 ((Int.ofNat 1001).add (wr IntKind.i64 k)))) = (true)) ∧
 (((true) = (false)) ∧
 (((true) = (false)) ∧
 ((V.bool false) = (V.bool true)))))))))))))))))))))))))))))))))))))) ∧
 (((ilt (Int.ofNat 1000) (wr IntKind.i64 ((Int.negSucc 0).sub (wr IntKind.i64 k)))) = (false)) → ((ilt (Int.ofNat 0) (wr IntKind.i64 ((Int.negSucc 0).sub (wr IntKind.i64 k)))) = (true)) ∧
 (((true) = (false)) ∧
 (((true) = (false)) ∧
 ((V.bool false) = (V.bool true))))))))))))))))))))))))))))))))))))))))))))))))))))))))))))))))))))))))) ∧
 (((ilt (Int.ofNat 2000) (wr IntKind.i64 ((Int.ofNat 2001).add (wr IntKind.i64 k)))) = (false)) → ((((Int.ofNat 2) = (Int.ofNat 2)) ∧
 ((Int.ofNat 2) = (Int.ofNat 2))) ∧
 (True)) ∧
 (((ilt (Int.ofNat 0) (wr IntKind.i64 ((Int.ofNat 2001).add (wr IntKind.i64 k)))) = (false)) ∧
 ((V.bool false) = (V.bool true))))))) ∧
 (((ilt (wr IntKind.i64 ((Int.negSucc 0).sub (wr IntKind.i64 k))) (Int.ofNat 0)) = (false)) → (((ilt (Int.ofNat 2000) (wr IntKind.i64 ((Int.negSucc 0).sub (wr IntKind.i64 k)))) = (true)) → (V.bool false) = (V.bool true)) ∧
 (((ilt (Int.ofNat 2000) (wr IntKind.i64 ((Int.negSucc 0).sub (wr IntKind.i64 k)))) = (false)) → ((((Int.ofNat 2) = (Int.ofNat 2)) ∧
 ((Int.ofNat 2) = (Int.ofNat 2))) ∧
 (True)) ∧
 (((ilt (Int.ofNat 0) (wr IntKind.i64 ((Int.negSucc 0).sub (wr IntKind.i64 k)))) = (false)) ∧
 ((V.bool false) = (V.bool true)))))))))))))))))) := by kernel_rfl
end RT
end Go.Proofs.YtemanejjmkjfnaaGreatDoor

/- (*strings.Builder).String: its parts. -/
import Derived.Test.YtfmcmolhkmjemaaGreatDoorBl2
namespace Go.Proofs.YtfmcmolhkmjemaaGreatDoor
set_option maxRecDepth 100000
set_option maxHeartbeats 2000000
open Go.Ev Go.RowKit
namespace ST
noncomputable def fn : Func := match Tryz.prog.funcs[iStr]? with
  | some f => f
  | .none => default
noncomputable def code : Code := match fn.body with
  | some c => c
  | .none => .skip
noncomputable def r0 : Code := cFst code
noncomputable def x1 : Code := cSnd code
noncomputable def r1 : Code := cFst x1
theorem isFn : Tryz.prog.funcs[iStr]? = some fn := by kernel_rfl
theorem body : fn.body = some code := by kernel_rfl
theorem tmps : fn.ntmps = 14 := by kernel_rfl
theorem q0 : code = .seq r0 x1 := by kernel_rfl
theorem q1 : x1 = .seq r1 .ret := by kernel_rfl
noncomputable def S (l : List (Nat × V)) (h : H) : St := ⟨envL 14 l, h, []⟩
noncomputable def sp : SpF where
  at' := fun f t => match Nat.beq f iStr, t with
    | true, 13 => .efS | _, _ => .keep
theorem ok : okC code = true := by kernel_rfl
noncomputable def retIs (Q : V → H → Prop) (st : St) : Prop := match takeAll st.defs st.h with
  | some h2 => match resultsO G0 h2 st.env fn with
    | some v => Q v h2
    | .none => False
  | .none => False
/-- memory at the end of the run: the builder, its row -/
noncomputable def hE (m : Nat) (L : List V) (nx : Nat) : H := BT.hB (.ptr 1001 0) (ou 1002 (m + 1)) 1002 L nx
noncomputable def fS (m : Nat) (L : List V) : Option (V × H) := fString G0 (G0.ty tPb) (hE m L 1015) (some (.ptr 1002 0)) (some (.int .i64 (Int.ofNat (m + 1))))
theorem w1 (m : Nat) (L : List V) (R : V → H → Prop) : (evW G0 sp 40 code none iStr (S [(0, .ptr 1001 0)] (hE m L 1003)) (fun x st => match x with | .ret => retIs R st | _ => False)) =
    ((∃ s h, fS m L = some (.str s, h)) ∧ ∀ s h, fS m L = some (.str s, h) → ((True ∧ Int.ofNat (m + 1) = Int.ofNat (m + 1)) ∧ ((True ∧ (0 = 0 ∧ (m + 1 = m + 1 ∧ Cap.atl (m + 1) 1 = Cap.atl (m + 1) 1))) ∧ ((True ∧ (0 = 0 ∧ (m + 1 = m + 1 ∧ Cap.atl (m + 1) 1 = Cap.atl (m + 1) 1))) ∧ True))) ∧ R (.str s) h) := by kernel_rfl
theorem toBytes_byts : ∀ s : List UInt8, toBytes (byts s) = some s
  | [] => rfl
  | b :: s => by
    have h1 : Nat.blt b.toNat 256 = true := Nat.ble_eq_true_of_le b.toNat_lt
    have h2 := toBytes_byts s
    show (match Nat.blt b.toNat 256, toBytes (byts s) with
      | true, some r => some (b.toNat.toUInt8 :: r)
      | _, _ => none) = _
    rw [h1, h2]
    simp
theorem tP : ∃ t, G0.ty tPb = some t ∧ t.desc = .pointer tByte := by
  have : (match G0.ty tPb with | some t => (match t.desc with | .pointer u => Nat.beq u tByte | _ => false) | none => false) = true := by kernel_rfl
  revert this
  cases G0.ty tPb with
  | none => intro h; cases h
  | some t =>
    intro h
    refine ⟨t, rfl, ?_⟩
    simp only at h
    split at h
    · rename_i u q; rw [q, (T.beq_true).1 h]
    · cases h
/-- the text of a row -/
theorem fS_eq {s : List UInt8} {m : Nat} (hm : s.length = m + 1) (hk : m + 1 ≤ 100000) : fS m (byts s) = some (.str s, (hE m (byts s) 1015).set 1002 (some (.ro none (byts s).length (byts s) .leaf))) := by
  obtain ⟨t, t1, t2⟩ := tP
  have hb : (hE m (byts s) 1015).tr.get 1002 = some (.cells (some tByte) (byts s).length (byts s) .leaf) := by
    simp only [hE, BT.hB, T.get_put, if_pos]
  have h1 : rGather (hE m (byts s) 1015) 1002 0 (m + 1) = some (byts s) := by
    simp only [rGather, hb]
    rw [← hm, ← byts_len s]
    exact gather_leaf _
  have h2 : Nat.ble m 100000 = true := Nat.ble_eq_true_of_le (by omega)
  have h3 : (Nat.beq tByte tByte && Nat.beq 0 0 && Nat.ble m 100000) = true := by rw [h2]; rfl
  have h4 : Nat.beq BT.tyE.size 1 = true := by rw [BT.t6]; rfl
  unfold fS fString
  rw [t1]
  simp only [t2, h1, hb, toBytes_byts, BT.t3]
  rw [h3]
  simp only [h4]
end ST
end Go.Proofs.YtfmcmolhkmjemaaGreatDoor

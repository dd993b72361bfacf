/- (*strings.Builder).WriteString, at a builder of this run: what it does to the memory. -/
import Derived.Test.YtfmcmolhkmjemaaGreatDoorBl1
namespace Go.Proofs.YtfmcmolhkmjemaaGreatDoor
set_option maxRecDepth 100000
open Go.Ev Go.RowKit
namespace BT
theorem G0_x : ExtOK Tryz.prog G0 := fun _ _ _ _ _ h => nomatch h
theorem ret_out {Q : V → H → Prop} {st : St} (h : retIs Q st) : ∃ h2 v, takeAll st.defs st.h = some h2 ∧ resultsO G0 h2 st.env fn = some v ∧ Q v h2 := by
  unfold retIs at h
  split at h
  · split at h
    · exact ⟨_, _, by assumption, by assumption, h⟩
    · cases h
  · cases h
theorem eqH_eq {a b : H} (h : eqH a b) : a = b := by
  obtain ⟨x, y⟩ := a
  obtain ⟨h1, h2⟩ := h
  cases h1; cases h2; rfl
theorem hB_get {a b : V} {r : Nat} {L : List V} {nx : Nat} {i : Nat} {o : O} (h : (hB a b r L nx).tr.get i = some o) : (i = r ∧ o = .cells (some tByte) L.length L .leaf) ∨ (i = 1001 ∧ i ≠ r ∧ o = bO a b) := by
  simp only [hB, T.get_put, T.get_leaf] at h
  split at h
  · rename_i q; cases h; exact .inl ⟨q, rfl⟩
  · split at h
    · rename_i q q2; cases h; exact .inr ⟨q2, q, rfl⟩
    · cases h
theorem hA_get {a b : V} {nx : Nat} {i : Nat} {o : O} (h : (hA a b nx).tr.get i = some o) : i = 1001 ∧ o = bO a b := by
  simp only [hA, T.get_put, T.get_leaf] at h
  split at h
  · rename_i q; cases h; exact ⟨q, rfl⟩
  · cases h
/-- the first text that is written -/
theorem writeA {s : List UInt8} (h0 : 0 < s.length) (h1 : s.length ≤ 100000) {ρ : Ren} {cargs : Array Value} {w : World} (ha : Rels ρ [.ptr 1001 0, .str s] cargs.toList) (hS : Sim ρ (hA .nilp .nils 1013) w) (k : Nat) :
    CallsIn Fence.wide k Tryz.prog iWrite cargs w (Ret (Post ρ (hA .nilp .nils 1013) w (.tuple [.int .i64 (Int.ofNat s.length), .nili]) (hB (.ptr 1001 0) (ou 1013 s.length) 1013 (byts s) 1014))) := by
  have hG : GOk Tryz.prog G0 := (mk_ok _).1
  have hC : Codes G0 := (mk_ok _).2
  have hK : KxOK G0 sp.kx := kx_none _
  have hX := G0_x
  refine callsIn_of_wp_marks isFn body trivial ?_
  rw [tmps]
  have hen := at_enter hS ha (n := 19) (show 2 ≤ 19 by decide)
  have A0 : At ρ (hA .nilp .nils 1013) w (S [(0, .ptr 1001 0), (1, .str s)] (hA .nilp .nils 1013)) _ w := at_less hen (hasT_get ⟨rfl, rfl, trivial⟩) (Nat.le_refl _) (fun _ _ h => h) rfl rfl
  rw [cut]
  refine at_list hG hC hX hK (N := 40) (fn := iWrite) (K := K0A [(0, .ptr 1001 0), (1, .str s)] (.ptr 1001 0) .nils 1013) (rest := x2) (fun st a1 w1 k1 A1 => ?_) (fun x st a1 w1 hx k1 _ => ?_) A0 (by refine Eq.mpr (BT.w0A ..) ?_; repeat' (first | exact rfl | exact trivial | apply And.intro)) ok0
  rotate_left
  · cases x with
    | normal => exact absurd rfl hx
    | ret => cases k1
    | exit _ => cases k1
  obtain ⟨g1, g2, g3⟩ := k1
  obtain ⟨ob, p1, p2, p3⟩ := isB_o g3
  have A2 := at_shape A1 (h := hA (.ptr 1001 0) .nils 1013) g2.symm fun b x hx => by
    obtain ⟨rfl, rfl⟩ := hA_get hx
    exact ⟨ob, p1, p2, p3⟩
  have A3 : At ρ (hA .nilp .nils 1013) w (S [(0, .ptr 1001 0), (1, .str s)] (hA (.ptr 1001 0) .nils 1013)) a1 w1 := at_less A2 (hasT_get g1.1) (Nat.le_of_eq g1.2.1.symm) (fun _ _ h => h) rfl (noDefs_eq g1.2.2).symm
  rw [q2]
  refine wpIn_seq ?_
  rw [q2r]
  refine region_parts ?_
  rw [q2n]
  show wpOpsIn Fence.wide k Tryz.prog (cOps r2) _ (List.range' 0 (6 + (1 + 3))) a1 w1
  have n2 : (cOps r2).size = 10 := q2n
  refine at_partW hG hC hX hK (N := 40) (fn := iWrite) (n := 6) (K := KH [(1, .str s), (8, .ptr 1001 0), (12, .nils), (13, .str s)] (hA (.ptr 1001 0) .nils 1013)) A3 (by omega) (by refine Eq.mpr (BT.w2A ..) ?_; repeat' (first | exact rfl | exact trivial | apply And.intro)) fun env h a2 w2 hk A4 => ?_
  obtain ⟨g4, g5, g6'⟩ := hk
  have g6' := eqH_eq g6'
  subst g6'
  have A5 : At ρ (hA .nilp .nils 1013) w (S [(1, .str s), (8, .ptr 1001 0), (12, .nils), (13, .str s)] (hA (.ptr 1001 0) .nils 1013)) a2 w2 := at_less A4 (hasT_get g4) (Nat.le_of_eq g5.symm) (fun _ _ h => h) rfl rfl
  refine at_appendN hG hC hX A5 (by omega) p6 g6 (hop _) t1 t2 t3 t4 t5 (el := byts s) (s := 1) t6 (by decide) (n := s.length) h0 rfl h1 (yv := .str s) rfl ?_ d6 rfl fun a3 w3 A6 => ?_
  · rw [t6]; rfl
  have A7 : At ρ (hA .nilp .nils 1013) w (S [(14, ou 1013 s.length), (1, .str s), (8, .ptr 1001 0)] (hB (.ptr 1001 0) .nils 1013 (byts s) 1014)) a3 w3 := at_less A6 (hasT_get ⟨rfl, rfl, rfl, trivial⟩) (Nat.le_refl _) (fun _ _ h => h) rfl rfl
  refine at_partW hG hC hX hK (N := 40) (fn := iWrite) (n := 3) (m := 0) (K := KC [(1, .str s)] (.ptr 1001 0) (ou 1013 s.length) 1013 (byts s) 1014) A7 (by omega) (by refine Eq.mpr (BT.w3A ..) ?_; repeat' (first | exact rfl | exact trivial | apply And.intro)) fun env h a4 w4 hk A8 => ?_
  obtain ⟨j1, j2, j3, j4, j5⟩ := hk
  obtain ⟨ob2, u1, u2, u3⟩ := isB_o j4
  have A9 := at_shape A8 (h := hB (.ptr 1001 0) (ou 1013 s.length) 1013 (byts s) 1014) j3.symm fun b x hx => by
    rcases hB_get hx with ⟨rfl, rfl⟩ | ⟨rfl, _, rfl⟩
    · exact ⟨_, j5, id, fun _ _ _ h => h⟩
    · exact ⟨ob2, u1, u2, u3⟩
  have A10 : At ρ (hA .nilp .nils 1013) w (S [(1, .str s)] (hB (.ptr 1001 0) (ou 1013 s.length) 1013 (byts s) 1014)) a4 w4 := at_less A9 (hasT_get j1) (Nat.le_of_eq j2.symm) (fun _ _ h => h) rfl rfl
  show Code.wpIn Fence.wide k Tryz.prog x3 _ a4 w4
  refine at_w hG hC hX hK (N := 40) (fn := iWrite) (K := fun x st => match x with | .ret => retIs (fun v h' => v = .tuple [.int .i64 (Int.ofNat s.length), .nili] ∧ eqH h' (hB (.ptr 1001 0) (ou 1013 s.length) 1013 (byts s) 1014)) st | _ => False) A10 (by refine Eq.mpr (BT.w4A ..) ?_; repeat' (first | exact rfl | exact trivial | apply And.intro)) ok3 fun x st a5 w5 k5 A11 => ?_
  cases x with
  | normal => cases k5
  | exit _ => cases k5
  | ret =>
  obtain ⟨h2, v, e1, e2, e3, e4⟩ := ret_out k5
  subst e3
  have e4 := eqH_eq e4
  subst e4
  obtain ⟨ρ', s1, s2, s3, s4⟩ := A11
  exact body_out (n := k) hG e1 e2 s2 s1 s3 s4 fun c w2 c1 c2 c3 => ⟨c, rfl, ρ', c2, c3, c1⟩
/-- a text behind others -/
theorem writeB {s : List UInt8} {L : List V} {n : Nat} (hn : L.length = n) (h0 : 0 < s.length) (h1 : n + s.length ≤ 100000) {ρ : Ren} {cargs : Array Value} {w : World} (ha : Rels ρ [.ptr 1001 0, .str s] cargs.toList) (hS : Sim ρ (hB (.ptr 1001 0) (ou 1002 n) 1002 L 1014) w) (k : Nat) :
    CallsIn Fence.wide k Tryz.prog iWrite cargs w (Ret (Post ρ (hB (.ptr 1001 0) (ou 1002 n) 1002 L 1014) w (.tuple [.int .i64 (Int.ofNat s.length), .nili]) (hB (.ptr 1001 0) (ou 1014 (n + s.length)) 1014 (L ++ byts s) 1015))) := by
  have hG : GOk Tryz.prog G0 := (mk_ok _).1
  have hC : Codes G0 := (mk_ok _).2
  have hK : KxOK G0 sp.kx := kx_none _
  have hX := G0_x
  refine callsIn_of_wp_marks isFn body trivial ?_
  rw [tmps]
  have hen := at_enter hS ha (n := 19) (show 2 ≤ 19 by decide)
  have A0 : At ρ (hB (.ptr 1001 0) (ou 1002 n) 1002 L 1014) w (S [(0, .ptr 1001 0), (1, .str s)] (hB (.ptr 1001 0) (ou 1002 n) 1002 L 1014)) _ w := at_less hen (hasT_get ⟨rfl, rfl, trivial⟩) (Nat.le_refl _) (fun _ _ h => h) rfl rfl
  rw [cut]
  refine at_list hG hC hX hK (N := 40) (fn := iWrite) (K := K0B [(0, .ptr 1001 0), (1, .str s)] (.ptr 1001 0) (ou 1002 n) 1002 L 1014) (rest := x2) (fun st a1 w1 k1 A1 => ?_) (fun x st a1 w1 hx k1 _ => ?_) A0 (by refine Eq.mpr (BT.w0B ..) ?_; repeat' (first | exact rfl | exact trivial | apply And.intro)) ok0
  rotate_left
  · cases x with
    | normal => exact absurd rfl hx
    | ret => cases k1
    | exit _ => cases k1
  obtain ⟨g1, g2, g3, g3'⟩ := k1
  obtain ⟨ob, p1, p2, p3⟩ := isB_o g3
  have A2 := at_shape A1 (h := hB (.ptr 1001 0) (ou 1002 n) 1002 L 1014) g2.symm fun b x hx => by
    rcases hB_get hx with ⟨rfl, rfl⟩ | ⟨rfl, _, rfl⟩
    · exact ⟨_, g3', id, fun _ _ _ h => h⟩
    · exact ⟨ob, p1, p2, p3⟩
  have A3 : At ρ (hB (.ptr 1001 0) (ou 1002 n) 1002 L 1014) w (S [(0, .ptr 1001 0), (1, .str s)] (hB (.ptr 1001 0) (ou 1002 n) 1002 L 1014)) a1 w1 := at_less A2 (hasT_get g1.1) (Nat.le_of_eq g1.2.1.symm) (fun _ _ h => h) rfl (noDefs_eq g1.2.2).symm
  rw [q2]
  refine wpIn_seq ?_
  rw [q2r]
  refine region_parts ?_
  rw [q2n]
  show wpOpsIn Fence.wide k Tryz.prog (cOps r2) _ (List.range' 0 (6 + (1 + 3))) a1 w1
  have n2 : (cOps r2).size = 10 := q2n
  refine at_partW hG hC hX hK (N := 40) (fn := iWrite) (n := 6) (K := KH [(1, .str s), (8, .ptr 1001 0), (12, ou 1002 n), (13, .str s)] (hB (.ptr 1001 0) (ou 1002 n) 1002 L 1014)) A3 (by omega) (by refine Eq.mpr (BT.w2B ..) ?_; repeat' (first | exact rfl | exact trivial | apply And.intro)) fun env h a2 w2 hk A4 => ?_
  obtain ⟨g4, g5, g6'⟩ := hk
  have g6' := eqH_eq g6'
  subst g6'
  have A5 : At ρ (hB (.ptr 1001 0) (ou 1002 n) 1002 L 1014) w (S [(1, .str s), (8, .ptr 1001 0), (12, ou 1002 n), (13, .str s)] (hB (.ptr 1001 0) (ou 1002 n) 1002 L 1014)) a2 w2 := at_less A4 (hasT_get g4) (Nat.le_of_eq g5.symm) (fun _ _ h => h) rfl rfl
  refine at_appendM hG hC hX A5 (by omega) p6 g6 (hop _) t1 t2 t3 t4 t5 (L := L) (el := byts s) (s := 1) t6 (by decide) (b := 1002) (k := n) (n := s.length) (e := some tByte) h0 (by omega) rfl rfl h1 (yv := .str s) rfl ?_ d6 rfl fun a3 w3 A6 => ?_
  · rw [t6]; rfl
  have A6' := at_shape A6 (h := hB (.ptr 1001 0) (ou 1002 n) 1014 (L ++ byts s) 1015) rfl fun b x hx => by
    rcases hB_get hx with ⟨rfl, rfl⟩ | ⟨rfl, _, rfl⟩
    · exact ⟨_, by simp only [T.get_put]; rfl, id, fun _ _ _ h => h⟩
    · exact ⟨_, by simp only [T.get_put]; rfl, id, fun _ _ _ h => h⟩
  have A7 : At ρ (hB (.ptr 1001 0) (ou 1002 n) 1002 L 1014) w (S [(14, ou 1014 (n + s.length)), (1, .str s), (8, .ptr 1001 0)] (hB (.ptr 1001 0) (ou 1002 n) 1014 (L ++ byts s) 1015)) a3 w3 := at_less A6' (hasT_get ⟨rfl, rfl, rfl, trivial⟩) (Nat.le_refl _) (fun _ _ h => h) rfl rfl
  refine at_partW hG hC hX hK (N := 40) (fn := iWrite) (n := 3) (m := 0) (K := KC [(1, .str s)] (.ptr 1001 0) (ou 1014 (n + s.length)) 1014 (L ++ byts s) 1015) A7 (by omega) (by refine Eq.mpr (BT.w3B ..) ?_; repeat' (first | exact rfl | exact trivial | apply And.intro)) fun env h a4 w4 hk A8 => ?_
  obtain ⟨j1, j2, j3, j4, j5⟩ := hk
  obtain ⟨ob2, u1, u2, u3⟩ := isB_o j4
  have A9 := at_shape A8 (h := hB (.ptr 1001 0) (ou 1014 (n + s.length)) 1014 (L ++ byts s) 1015) j3.symm fun b x hx => by
    rcases hB_get hx with ⟨rfl, rfl⟩ | ⟨rfl, _, rfl⟩
    · exact ⟨_, j5, id, fun _ _ _ h => h⟩
    · exact ⟨ob2, u1, u2, u3⟩
  have A10 : At ρ (hB (.ptr 1001 0) (ou 1002 n) 1002 L 1014) w (S [(1, .str s)] (hB (.ptr 1001 0) (ou 1014 (n + s.length)) 1014 (L ++ byts s) 1015)) a4 w4 := at_less A9 (hasT_get j1) (Nat.le_of_eq j2.symm) (fun _ _ h => h) rfl rfl
  show Code.wpIn Fence.wide k Tryz.prog x3 _ a4 w4
  refine at_w hG hC hX hK (N := 40) (fn := iWrite) (K := fun x st => match x with | .ret => retIs (fun v h' => v = .tuple [.int .i64 (Int.ofNat s.length), .nili] ∧ eqH h' (hB (.ptr 1001 0) (ou 1014 (n + s.length)) 1014 (L ++ byts s) 1015)) st | _ => False) A10 (by refine Eq.mpr (BT.w4B ..) ?_; repeat' (first | exact rfl | exact trivial | apply And.intro)) ok3 fun x st a5 w5 k5 A11 => ?_
  cases x with
  | normal => cases k5
  | exit _ => cases k5
  | ret =>
  obtain ⟨h2, v, e1, e2, e3, e4⟩ := ret_out k5
  subst e3
  have e4 := eqH_eq e4
  subst e4
  obtain ⟨ρ', s1, s2, s3, s4⟩ := A11
  exact body_out (n := k) hG e1 e2 s2 s1 s3 s4 fun c w2 c1 c2 c3 => ⟨c, rfl, ρ', c2, c3, c1⟩
end BT
end Go.Proofs.YtfmcmolhkmjemaaGreatDoor

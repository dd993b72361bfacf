/- (*strings.Builder).WriteString as a call that is known, if its texts are not too long. -/
import Derived.Test.YtfmcmolhkmjemaaGreatDoorBs2
namespace Go.Proofs.YtfmcmolhkmjemaaGreatDoor
set_option maxRecDepth 100000
open Go.Ev Go.RowKit
namespace BT
noncomputable section
/-- the builder's first cell, its slice's length and what it can hold: the builder of this run that was written -/
def isUsed (x y : V) : Option (Nat × Nat) :=
  match x, y with
  | .ptr b o, .slice r p k (.atl k' es) => match Nat.beq b 1001 && Nat.beq o 0 && Nat.beq r 1002 && Nat.beq p 0 && Nat.beq es 1 with
    | true => some (k, k')
    | false => none
  | _, _ => none
def isFresh (x y : V) : Bool :=
  match x, y with
  | .nilp, .nils => true
  | _, _ => false
def hFresh (h : H) (s : List UInt8) : H := ⟨T.put (T.put h.tr 1001 (some (bO (.ptr 1001 0) (ou 1013 s.length)))) 1013 (some (.cells (some tByte) (byts s).length (byts s) .leaf)), 1014⟩
def hUsed (h : H) (k : Nat) (L : List V) (s : List UInt8) : H := ⟨T.put (T.put (T.put h.tr 1002 none) 1001 (some (bO (.ptr 1001 0) (ou 1014 (k + s.length))))) 1014 (some (.cells (some tByte) (L ++ byts s).length (L ++ byts s) .leaf)), 1015⟩
abbrev lenV (s : List UInt8) : V := .tuple [.int .i64 (Int.ofNat s.length), .nili]
def kxB : KX := fun f args h =>
  match Nat.beq f iWrite, args with
  | true, [.ptr b o, .str s] => match Nat.beq b 1001 && Nat.beq o 0, h.tr.get 1001 with
    | true, some (.cells (some e) n [x, y] .leaf) => match Nat.beq e tBld && Nat.beq n 2 with
      | true => match isFresh x y with
        | true => match Nat.beq h.next 1013 with
          | true => some (not (Nat.blt 0 s.length && Nat.ble s.length 100000), (.nilf, h), (lenV s, hFresh h s))
          | false => none
        | false => match isUsed x y, Nat.beq h.next 1014, h.tr.get 1002 with
          | some (k, k'), true, some (.cells (some e2) n2 L .leaf) => match Nat.beq e2 tByte with
            | true => some (not (Nat.beq k k' && Nat.beq n2 k && Nat.beq L.length k && Nat.blt 0 s.length && Nat.ble (k + s.length) 100000), (.nilf, h), (lenV s, hUsed h k L s))
            | false => none
          | _, _, _ => none
      | false => none
    | _, _ => none
  | _, _ => none
def bldX (f : FuncId) (args : List V) (h : H) : Option (V × H) :=
  match kxB f args h with
  | some (false, _, r) => some r
  | _ => none
end
theorem kxB_bog {f : FuncId} {args : List V} {h : H} {b : Bool} {r1 r2 : V × H} (hk : kxB f args h = some (b, r1, r2)) : bog r1.1 = true := by
  unfold kxB at hk
  repeat' split at hk
  all_goals first | (cases hk; rfl) | cases hk
theorem kxB_ok {G : Γ} (hG : ∀ f args h r, bldX f args h = some r → G.ext f args h = some r) : KxOK G kxB := fun f args h b r1 r2 hk =>
  ⟨fun _ hb => absurd ((kxB_bog hk).symm.trans hb) (by decide), fun hb => hG _ _ _ _ (by subst hb; simp only [bldX, hk])⟩
theorem isFresh_eq {x y : V} (h : isFresh x y = true) : x = .nilp ∧ y = .nils := by
  unfold isFresh at h
  split at h
  · exact ⟨rfl, rfl⟩
  · cases h
theorem isUsed_eq {x y : V} {k k' : Nat} (h : isUsed x y = some (k, k')) : x = .ptr 1001 0 ∧ y = .slice 1002 0 k (.atl k' 1) := by
  unfold isUsed at h
  split at h
  · split at h
    · rename_i q
      cases h
      simp only [Bool.and_eq_true, T.beq_true] at q
      obtain ⟨⟨⟨⟨q1, q2⟩, q3⟩, q4⟩, q5⟩ := q
      subst q1; subst q2; subst q3; subst q4; subst q5
      exact ⟨rfl, rfl⟩
    · cases h
  · cases h
theorem fresh_framed {h : H} {s : List UInt8} {ρ : Ren} {w : World} (hS : Sim ρ h w) (h1 : h.tr.get 1001 = some (bO .nilp .nils)) (h2 : h.next = 1013) : Framed h (hA .nilp .nils 1013) (hB (.ptr 1001 0) (ou 1013 s.length) 1013 (byts s) 1014) (hFresh h s) := by
  refine ⟨h2.symm, fun b o hb => ?_, rfl, fun b o hb => ?_⟩
  · obtain ⟨rfl, rfl⟩ := hA_get hb
    exact h1
  · simp only [hFresh, T.get_put] at hb
    simp only [hA, hB, T.get_put, T.get_leaf]
    by_cases q1 : b = 1013
    · rw [if_pos q1] at hb ⊢
      exact .inl hb
    · rw [if_neg q1] at hb ⊢
      by_cases q2 : b = 1001
      · rw [if_pos q2] at hb ⊢
        exact .inl hb
      · rw [if_neg q2] at hb
        refine .inr ⟨?_, by rw [if_neg q2], hb⟩
        obtain ⟨L, c, l1, _⟩ := hS.live b o hb
        exact hS.dom b L l1
theorem used_framed {h : H} {k : Nat} {L : List V} {s : List UInt8} {ρ : Ren} {w : World} (hS : Sim ρ h w) (h1 : h.tr.get 1001 = some (bO (.ptr 1001 0) (ou 1002 k))) (h3 : h.tr.get 1002 = some (.cells (some tByte) L.length L .leaf)) (h2 : h.next = 1014) :
    Framed h (hB (.ptr 1001 0) (ou 1002 k) 1002 L 1014) (hB (.ptr 1001 0) (ou 1014 (k + s.length)) 1014 (L ++ byts s) 1015) (hUsed h k L s) := by
  refine ⟨h2.symm, fun b o hb => ?_, rfl, fun b o hb => ?_⟩
  · rcases hB_get hb with ⟨rfl, rfl⟩ | ⟨rfl, _, rfl⟩
    · exact h3
    · exact h1
  · simp only [hUsed, T.get_put] at hb
    simp only [hB, T.get_put, T.get_leaf]
    by_cases q1 : b = 1014
    · rw [if_pos q1] at hb ⊢
      exact .inl hb
    · rw [if_neg q1] at hb ⊢
      by_cases q2 : b = 1001
      · rw [if_pos q2] at hb ⊢
        exact .inl hb
      · rw [if_neg q2] at hb
        by_cases q3 : b = 1002
        · rw [if_pos q3] at hb
          cases hb
        · rw [if_neg q3] at hb
          refine .inr ⟨?_, by rw [if_neg q3, if_neg q2], hb⟩
          obtain ⟨M, c, l1, _⟩ := hS.live b o hb
          exact hS.dom b M l1
theorem bldX_ok {f : FuncId} {args : List V} {h : H} {v : V} {h' : H} (hx : bldX f args h = some (v, h')) {ρ : Ren} {cargs : Array Value} {w : World} (ha : Rels ρ args cargs.toList) (hS : Sim ρ h w) (n : Nat) : CallsIn Fence.wide n Tryz.prog f cargs w (Ret (Post ρ h w v h')) := by
  unfold bldX at hx
  split at hx
  · rename_i r0 r hk
    cases hx
    unfold kxB at hk
    split at hk
    · rename_i b o s hf
      have hf := (T.beq_true).1 hf
      subst hf
      split at hk
      · rename_i e n2 x y hb hg
        simp only [Bool.and_eq_true, T.beq_true] at hb
        obtain ⟨rfl, rfl⟩ := hb
        split at hk
        · rename_i q
          simp only [Bool.and_eq_true, T.beq_true] at q
          obtain ⟨rfl, rfl⟩ := q
          split at hk
          · rename_i q
            obtain ⟨rfl, rfl⟩ := isFresh_eq q
            split at hk
            · rename_i q2
              have q2 := (T.beq_true).1 q2
              simp only [Option.some.injEq, Prod.mk.injEq, Bool.not_eq_false', Bool.and_eq_true] at hk
              obtain ⟨⟨c1, c2⟩, _, rfl, rfl⟩ := hk
              have c1 : 0 < s.length := Nat.le_of_ble_eq_true c1
              have c2 := Nat.le_of_ble_eq_true c2
              have F := fresh_framed (s := s) hS hg q2
              refine (writeA c1 c2 ha (hS.sub (Nat.le_of_eq q2) F.part) n).mono fun en w' ⟨c, e1, ρ', p1, p2, p3⟩ => ?_
              obtain ⟨u1, u2⟩ := frame_rule F hS p1 p2
              exact ⟨c, e1, ρ', u1, u2, p3⟩
            · cases hk
          · split at hk
            · rename_i k k' e2 n3 L q1 q2 q3
              obtain ⟨rfl, rfl⟩ := isUsed_eq q1
              have q2 := (T.beq_true).1 q2
              split at hk
              · rename_i q4
                have q4 := (T.beq_true).1 q4
                subst q4
                simp only [Option.some.injEq, Prod.mk.injEq, Bool.not_eq_false', Bool.and_eq_true, T.beq_true] at hk
                obtain ⟨⟨⟨⟨⟨c1, c2⟩, c3⟩, c4⟩, c5⟩, _, rfl, rfl⟩ := hk
                subst c1
                subst c2
                have c4 : 0 < s.length := Nat.le_of_ble_eq_true c4
                have c5 := Nat.le_of_ble_eq_true c5
                rw [← c3] at q3
                have F := used_framed (s := s) (k := n3) hS hg q3 q2
                refine (writeB c3 c4 c5 ha (hS.sub (Nat.le_of_eq q2) F.part) n).mono fun en w' ⟨c, e1, ρ', p1, p2, p3⟩ => ?_
                obtain ⟨u1, u2⟩ := frame_rule F hS p1 p2
                exact ⟨c, e1, ρ', u1, u2, p3⟩
              · cases hk
            · cases hk
        · cases hk
      · cases hk
    · cases hk
  · cases hx
end BT
end Go.Proofs.YtfmcmolhkmjemaaGreatDoor

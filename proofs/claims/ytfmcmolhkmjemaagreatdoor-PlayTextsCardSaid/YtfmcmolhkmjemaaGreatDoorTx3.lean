/- play.Text: memory between its rounds; what is known of calls. -/
import Derived.Test.YtfmcmolhkmjemaaGreatDoorTx2
namespace Go.Proofs.YtfmcmolhkmjemaaGreatDoor
set_option maxRecDepth 100000
open Go.Ev Go.RowKit
namespace PT
theorem base_get {L : List V} {b : Nat} {o : O} (h : (base L).get b = some o) : (b = 1000 ∧ o = .ro none L.length L .leaf) ∨ (b = gPow ∧ (varsT gsP).get gPow = some o) := by
  simp only [base, T.get_put] at h
  split at h
  · rename_i q; cases h; exact .inl ⟨q, rfl⟩
  · obtain ⟨l, h1, h2⟩ := varsT_get h
    simp only [gsP, List.mem_cons, Prod.mk.injEq, List.not_mem_nil, or_false] at h1
    obtain ⟨rfl, rfl⟩ := h1
    exact .inr ⟨rfl, h⟩
theorem okO_pow {o : O} (h : (varsT gsP).get gPow = some o) : okO 1000 o := by
  obtain ⟨l, h1, rfl⟩ := varsT_get h
  simp only [gsP, List.mem_cons, Prod.mk.injEq, List.not_mem_nil, or_false] at h1
  obtain ⟨_, rfl⟩ := h1
  intro i v hv
  have := List.mem_of_getElem? (cell_leaf hv)
  simp only [pow10, List.mem_map] at this
  obtain ⟨n, _, rfl⟩ := this
  rfl
theorem okO_byts (s : List UInt8) : okO 1000 (.cells (some tByte) (byts s).length (byts s) .leaf) := fun i v hv => by
  have := List.mem_of_getElem? (cell_leaf hv)
  simp only [byts, List.mem_map] at this
  obtain ⟨n, _, rfl⟩ := this
  rfl
theorem bO_ren {ρ ρ' : Ren} {r k : Nat} (h1 : ρ' 1001 = ρ 1001) (h2 : ρ' 1002 = ρ r) {M : Nat × Nat × Nat} {c : Obj} (h : ORel ρ (bO (.ptr 1001 0) (ou r k)) M c) : ORel ρ' (bO (.ptr 1001 0) (ou 1002 k)) M c := by
  obtain ⟨cs, el, lo, hi, x1, x2, x3, x4, x5, x6⟩ := h
  refine ⟨cs, el, lo, hi, x1, x2, x3, x4, x5, x6.1, fun i v x hv hx => ?_⟩
  obtain ⟨hi', hv⟩ := cell_pat hv
  match i, hi', hv with
  | 0, _, hv =>
    cases hv
    have q := x6.2 0 (.ptr 1001 0) x rfl hx
    cases q with
    | ptr q => exact .ptr (h1.trans q)
  | 1, _, hv =>
    cases hv
    have q := x6.2 1 (ou r k) x rfl hx
    cases q with
    | sliceA q a b => exact .sliceA (h2.trans q) a b
    | sliceZ a => exact .sliceZ a
theorem hW_get {L R : List V} {m nx : Nat} {b : Nat} {o : O} (h : (hW L m R nx).tr.get b = some o) : (b = 1002 ∧ o = .cells (some tByte) R.length R .leaf) ∨ (b = 1001 ∧ o = bO (.ptr 1001 0) (ou 1002 m)) ∨ (base L).get b = some o := by
  simp only [hW, T.get_put] at h
  split at h
  · rename_i q; cases h; exact .inl ⟨q, rfl⟩
  · split at h
    · rename_i q; cases h; exact .inr (.inl ⟨q, rfl⟩)
    · exact .inr (.inr h)
/-- the row's block becomes 1002 again; what else a round made is forgotten -/
theorem renamed {ρ0 : Ren} {h0 : H} {w0 : World} {xs : List (Int × Int)} (e0 : h0.next = 1001) {r k : Nat} (hr : 1002 ≤ r) {s : List UInt8} {st : St} {a : Act} {w : World} {c : Cap} {i n : Nat} (hA : At ρ0 h0 w0 st a w) (hs : hasS (inv n c (Int.ofNat i)) st)
    (h1 : st.h.tr.get 1001 = some (bO (.ptr 1001 0) (ou r k))) (h2 : st.h.tr.get r = some (.cells (some tByte) (byts s).length (byts s) .leaf)) (h3 : st.h.tr.get 1000 = some (.ro none (resC xs).length (resC xs) .leaf)) (h4 : st.h.tr.get gPow = (varsT gsP).get gPow) :
    At ρ0 h0 w0 (S (inv n c (Int.ofNat i)) (hW (resC xs) k (byts s) 1003)) a w := by
  let f : Nat → Option Nat := fun b => if b < 1002 then some b else if b = 1002 then some r else none
  have fl : ∀ b, b < 1002 → f b = some b := fun b hb => by simp [f, hb]
  have fm : f 1002 = some r := by simp [f]
  have fv : ∀ b x, f b = some x → (b < 1002 ∧ x = b) ∨ (b = 1002 ∧ x = r) := fun b x h => by
    simp only [f] at h
    split at h
    · cases h; exact .inl ⟨by assumption, rfl⟩
    · split at h
      · cases h; exact .inr ⟨by assumption, rfl⟩
      · cases h
  have hlow : ∀ {ρ ρ' : Ren}, (∀ b b2, f b = some b2 → ρ' b = ρ b2) → ∀ b, b < 1001 → ρ' b = ρ b := fun h b hb => h b b (fl b (by omega))
  have hlow0 : ∀ {ρ ρ' : Ren}, (∀ b b2, f b = some b2 → ρ' b = ρ b2) → ∀ b, b < 1000 → ρ' b = ρ b := fun h b hb => h b b (fl b (by omega))
  have hlow2 : ∀ {ρ ρ' : Ren}, (∀ b b2, f b = some b2 → ρ' b = ρ b2) → ∀ b, b < 1002 → ρ' b = ρ b := fun h b hb => h b b (fl b (by omega))
  refine at_rename hA f (fun b hb => fl b (by omega)) (by show h0.next ≤ 1003; omega) (fun b x hx => ?_) (by omega) (fun b1 b2 x q1 q2 => ?_) (fun b o hb => ?_) (Nat.le_of_eq hs.2.1.symm) (fun t v hv => ?_) (noDefs_eq hs.2.2)
  · show b < 1003
    rcases fv b x hx with h | h <;> omega
  · rcases fv _ _ q1 with h | h <;> rcases fv _ _ q2 with h' | h' <;> omega
  · rcases hW_get hb with ⟨rfl, rfl⟩ | ⟨rfl, rfl⟩ | hb
    · exact ⟨r, _, fm, h2, id, fun ρ ρ' h M c hc => okO_rel (okO_byts s) (hlow0 h) hc⟩
    · exact ⟨1001, _, fl _ (by omega), h1, fun _ => rfl, fun ρ ρ' h M c hc => bO_ren (h 1001 1001 (fl _ (by omega))) (h 1002 r fm) hc⟩
    · rcases base_get hb with ⟨rfl, rfl⟩ | ⟨rfl, q⟩
      · exact ⟨1000, _, fl _ (by omega), h3, id, fun ρ ρ' h M c hc => okO_rel (RT.okO_res xs) (hlow h) hc⟩
      · exact ⟨gPow, _, fl _ (by decide), h4.trans q, id, fun ρ ρ' h M c hc => okO_rel (okO_pow q) (hlow0 h) hc⟩
  · refine ⟨v, hasT_get hs.1 t v hv, fun ρ ρ' h c' hc => ?_⟩
    have hv : (putL (inv n c (Int.ofNat i))).get t = some v := hv
    simp only [inv, putL, T.get_put, T.get_leaf] at hv
    repeat' split at hv
    all_goals first | (cases hv; exact okS_rel (m := 1002) rfl (hlow2 h) hc) | cases hv
/-! what is known of calls -/
theorem kxI_ok : KxOK GP kxP := fun f args h b r1 r2 hk => by
  unfold kxP at hk
  split at hk
  · rename_i r q
    cases hk
    exact BT.kxB_ok (G := GP) (fun f args h r hr => by show extP f args h = _; unfold extP; rw [hr]) f args h b r1 r2 q
  · rename_i q
    have q0 : BT.bldX f args h = none := by unfold BT.bldX; rw [q]
    unfold kxI at hk
    split at hk
    · rename_i n hf hh
      simp only [Option.some.injEq, Prod.mk.injEq] at hk
      obtain ⟨e1, e2, e3⟩ := hk
      refine ⟨fun _ hb => absurd (show bog r1.1 = true by rw [← e2]; rfl) (by rw [hb]; exact Bool.false_ne_true), fun hb => ?_⟩
      have hi : DT.inB RT.big n = true := by
        rw [hb] at e1
        cases q2 : DT.inB RT.big n with
        | true => rfl
        | false => rw [q2] at e1; cases e1
      rw [← e3]
      show extP f _ h = _
      unfold extP
      rw [q0]
      simp only [extL, kI, hf, hh, hi]
    · cases hk
theorem GP_x (hk : KnownOk Tryz.prog kI) : ExtOK Tryz.prog GP := fun f args h v h' hr ρ cargs w ha hS n => by
  have hr : extP f args h = some (v, h') := hr
  unfold extP at hr
  split at hr
  · rename_i r q
    cases hr
    exact BT.bldX_ok q ha hS n
  · exact extL_ok (G := mkG Tryz.prog eqs rows (extL [kI])) (l := [kI]) (fun x hx => by
      simp only [List.mem_cons, List.not_mem_nil, or_false] at hx
      subst hx
      exact hk) rfl f args h v h' hr ρ cargs w ha hS n
end PT
end Go.Proofs.YtfmcmolhkmjemaaGreatDoor

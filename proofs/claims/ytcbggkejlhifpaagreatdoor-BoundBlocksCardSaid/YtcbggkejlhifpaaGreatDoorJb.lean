/- The newest block gets a number again that is free; append of a whole row. -/
import Derived.Test.YtcbggkejlhifpaaGreatDoorEvF
namespace Go.Ev
open Go.RowKit
/-- values that speak of blocks below m alone -/
def okS (m : Nat) : V → Bool
  | .ptr b _ => Nat.blt b m
  | .slice b _ _ _ => Nat.blt b m
  | .map r => Nat.blt r m
  | v => pureS v
def okB (m : Nat) : V → Bool
  | .func (.func _) a b => a.all (okS m) && b.all (okS m)
  | v => okS m v
def okO (m : Nat) : O → Prop
  | .cells _ n pat tr => ∀ i v, cell n pat tr i = some v → okB m v = true
  | .ro _ n pat tr => ∀ i v, cell n pat tr i = some v → okB m v = true
  | _ => False
theorem okS_rel {m : Nat} {v : V} (hv : okS m v = true) {ρ ρ' : Ren} (hr : ∀ b, b < m → ρ' b = ρ b) {c : Value} (h : Rel ρ v c) : Rel ρ' v c := by
  cases h with
  | ptr q => exact .ptr ((hr _ (blt_t.1 hv)).trans q)
  | sliceK q => exact .sliceK ((hr _ (blt_t.1 hv)).trans q)
  | sliceA q h1 h2 => exact .sliceA ((hr _ (blt_t.1 hv)).trans q) h1 h2
  | sliceZ a => exact .sliceZ a
  | map q => exact .map ((hr _ (blt_t.1 hv)).trans q)
  | func f h1 h2 h3 h4 => cases hv
  | yield q => cases hv
  | iface t q => cases hv
  | agg h1 h2 h3 => cases hv
  | tuple h1 h2 => cases hv
  | bool b => exact .bool b
  | int k n => exact .int k n
  | str s => exact .str s
  | nilp => exact .nilp
  | nils => exact .nils
  | nilm => exact .nilm
  | nilf => exact .nilf
  | nili => exact .nili
theorem okB_rel {m : Nat} {v : V} (hv : okB m v = true) {ρ ρ' : Ren} (hr : ∀ b, b < m → ρ' b = ρ b) {c : Value} (h : Rel ρ v c) : Rel ρ' v c := by
  unfold okB at hv
  split at hv
  · simp only [Bool.and_eq_true, List.all_eq_true] at hv
    cases h with
    | func _ h1 h2 h3 h4 => exact .func _ h1 h2 (fun i u x a b => okS_rel (hv.1 u (List.mem_of_getElem? a)) hr (h3 i u x a b)) fun i u x a b => okS_rel (hv.2 u (List.mem_of_getElem? a)) hr (h4 i u x a b)
  · exact okS_rel hv hr h
theorem okC_rel {m n : Nat} {pat : List V} {tr : T V} (ho : ∀ i v, cell n pat tr i = some v → okB m v = true) {ρ ρ' : Ren} (hr : ∀ b, b < m → ρ' b = ρ b) {cs : Array Value} {d : Nat} (h : CRel ρ n pat tr cs d) : CRel ρ' n pat tr cs d :=
  ⟨h.1, fun i v x a b => okB_rel (ho i v a) hr (h.2 i v x a b)⟩
theorem okO_rel {m : Nat} {o : O} (ho : okO m o) {ρ ρ' : Ren} (hr : ∀ b, b < m → ρ' b = ρ b) {L : Nat × Nat × Nat} {c : Obj} (h : ORel ρ o L c) : ORel ρ' o L c := by
  cases o with
  | cells e n pat tr => obtain ⟨cs, el, lo, hi, h1, h2, h3, h4, h5, h6⟩ := h; exact ⟨cs, el, lo, hi, h1, h2, h3, h4, h5, okC_rel ho hr h6⟩
  | ro e n pat tr => obtain ⟨cs, el, fr, h1, h2, h3, h5, h6⟩ := h; exact ⟨cs, el, fr, h1, h2, h3, h5, okC_rel ho hr h6⟩
  | _ => cases ho
theorem back {ρ0 : Ren} {h0 : H} {w0 : World} {sz t b' m k s nx : Nat} {l : List (Nat × V)} {base : T O} {o : O} {a : Act} {w : World}
    (hA : At ρ0 h0 w0 ⟨envL sz ((t, .slice b' 0 k (.atl k s)) :: l), ⟨T.put base b' (some o), nx⟩, []⟩ a w) (hm : m ≤ b') (h1 : h0.next ≤ m) (h2 : 1000 ≤ h0.next)
    (hb : ∀ b x, base.get b = some x → b < m ∧ okO m x) (ho : okO m o) (hl : ∀ p, p ∈ l → okB m p.2 = true) :
    At ρ0 h0 w0 ⟨envL sz ((t, .slice m 0 k (.atl k s)) :: l), ⟨T.put base m (some o), m + 1⟩, []⟩ a w := by
  let f : Nat → Option Nat := fun b => if b < m then some b else if b = m then some b' else none
  have fl : ∀ b, b < m → f b = some b := fun b hb => by simp [f, hb]
  have fm : f m = some b' := by simp [f]
  have fv : ∀ b x, f b = some x → (b < m ∧ x = b) ∨ (b = m ∧ x = b') := fun b x h => by
    simp only [f] at h
    split at h
    · cases h; exact .inl ⟨by assumption, rfl⟩
    · split at h
      · cases h; exact .inr ⟨by assumption, rfl⟩
      · cases h
  have hr : ∀ {ρ ρ' : Ren}, (∀ b b2, f b = some b2 → ρ' b = ρ b2) → ∀ b, b < m → ρ' b = ρ b := fun h b hb => h b b (fl b hb)
  refine at_rename hA f (fun b hb => fl b (by omega)) (by show h0.next ≤ m + 1; omega) (fun b x hx => ?_) h2 (fun b1 b2 x q1 q2 => ?_) (fun b x hx => ?_) (Nat.le_refl _) (fun t0 v hv => ?_) rfl
  · show b < m + 1
    rcases fv b x hx with h | h <;> omega
  · rcases fv _ _ q1 with h | h <;> rcases fv _ _ q2 with h' | h' <;> omega
  · simp only [T.get_put] at hx
    split at hx
    · rename_i q; cases hx; subst q
      exact ⟨b', o, fm, by simp [T.get_put], id, fun ρ ρ' h L c hc => okO_rel ho (hr h) hc⟩
    · obtain ⟨q1, q2⟩ := hb b x hx
      exact ⟨b, x, fl b q1, by simp only [T.get_put]; rw [if_neg (by omega)]; exact hx, id, fun ρ ρ' h L c hc => okO_rel q2 (hr h) hc⟩
  · have hv : (putL ((t, .slice m 0 k (.atl k s)) :: l)).get t0 = some v := hv
    simp only [putL, T.get_put] at hv
    split at hv
    · rename_i q; cases hv; subst q
      refine ⟨.slice b' 0 k (.atl k s), by show (putL ((t0, _) :: l)).get t0 = _; simp [putL, T.get_put], fun ρ ρ' h c hc => ?_⟩
      cases hc with
      | sliceA q1 q2 q3 => exact .sliceA ((h m b' fm).trans q1) q2 q3
      | sliceZ a => exact .sliceZ a
    · rename_i q
      have hmem : ∀ (l : List (Nat × V)), (putL l).get t0 = some v → ∃ p, p ∈ l ∧ p.2 = v := by
        intro l
        induction l with
        | nil => intro h; simp [putL, T.get_leaf] at h
        | cons p l ih =>
          intro h
          simp only [putL, T.get_put] at h
          split at h
          · cases h; exact ⟨p, by simp, rfl⟩
          · obtain ⟨p', h1, h2⟩ := ih h; exact ⟨p', by simp [h1], h2⟩
      obtain ⟨p, p1, p2⟩ := hmem l hv
      refine ⟨v, by show (putL ((t, _) :: l)).get t0 = _; simp only [putL, T.get_put]; rw [if_neg q]; exact hv, fun ρ ρ' h c hc => okB_rel (p2 ▸ hl p p1) (hr h) hc⟩
section
variable {P : Program} {G : Γ} (hG : GOk P G) (hcodes : Codes G) (hext : ExtOK P G)
include hG hcodes hext
/-- append of a whole row, its cells known, to a row of no elements -/
theorem at_appendR {ρ0 : Ren} {h0 : H} {w0 : World} {env : Env} {h : H} {defs : List Nat} {a : Act} {w : World} {kk i m : Nat} {ops : Array Oper} {o : Oper} {Q : Exit → Act → World → Prop}
    (hA : At ρ0 h0 w0 ⟨env, h, defs⟩ a w) (hle : i + 1 ≤ ops.size) (ho : opsPart ops i 1 = [o]) (hgd : o.guard = none) {t t' : TypeId} {x y : Operand} (hop : act G env.get o.op = .ef (fun h => fAppend G (G.ty t) (G.ty t') h (env.get x) (env.get y)))
    {ty tx te : TY} {elem : TypeId} (h1 : G.ty t = some ty) (h2 : ty.desc = .slice elem) (h3 : G.ty elem = some te) (h4 : G.ty t' = some tx) (h5 : isInt tx.desc = some false) {L : List V} {s : Nat} (h6 : te.size = s) (h8 : s ≤ 100000)
    {b0 b k : Nat} {e : Option TypeId} {c : Cap} {x0 : List V} (hL : L.length = k * s) (h0k : 0 < k) (hx : env.get x = some (.slice b0 0 0 (.known 0))) (hb0 : rGather h b0 0 0 = some x0) (hb : h.tr.get b = some (.cells e L.length L .leaf)) (hk : k ≤ 100000) (hy : env.get y = some (.slice b 0 k c)) {d : Tmp} (hd : o.dst = some d) (hsz : Nat.blt d env.sz = true)
    (hQ : ∀ a' w', At ρ0 h0 w0 ⟨⟨env.sz, env.tr.put d (some (.slice h.next 0 k (.atl k s)))⟩, ⟨h.tr.put h.next (some (.cells (some elem) L.length L .leaf)), h.next + 1⟩, defs⟩ a' w' → wpOpsIn Fence.wide kk P ops Q (List.range' (i + 1) m) a' w') :
    wpOpsIn Fence.wide kk P ops Q (List.range' i (1 + m)) a w := by
  have n2 : Nat.ble k 0 = false := by
    cases q : Nat.ble k 0 with
    | false => rfl
    | true => have := Nat.le_of_ble_eq_true q; omega
  have n0 : Nat.add 0 k = k := Nat.zero_add k
  have n3 : Nat.ble k 100000 = true := Nat.ble_eq_true_of_le hk
  have n4 : Nat.ble s 100000 = true := Nat.ble_eq_true_of_le h8
  have hx0 : x0 = [] := by
    unfold rGather at hb0
    split at hb0
    · simp only [gather] at hb0; cases hb0; rfl
    · simp only [gather] at hb0; cases hb0; rfl
    · cases hb0
  subst hx0
  have n5 : rGather h b 0 (Nat.mul k s) = some L := by
    simp only [rGather, hb]
    rw [show Nat.mul k s = L.length from hL.symm]
    exact gather_leaf L
  have n6 : Nat.mul 0 s = 0 := Nat.zero_mul s
  have hfa : fAppend G (G.ty t) (G.ty t') h (env.get x) (env.get y) = some (.slice h.next 0 k (.atl k s), h.add (mkO (some elem) L)) := by
    rw [h1, h4, hx, hy]
    simp only [fAppend, h2, h3, h5, news, elems, h6, n5, append2, n2, n6, hb0, grown, n0, n3, n4, Bool.and_self, List.nil_append]
  have hput : env.put (some d) (.slice h.next 0 k (.atl k s)) = some ⟨env.sz, env.tr.put d (some (.slice h.next 0 k (.atl k s)))⟩ := by
    obtain ⟨sz, tr⟩ := env
    have hsz : Nat.blt d sz = true := hsz
    simp only [Env.put, hsz]
  have hr : regS G (callT G (evC G 0)) ops (opsPart ops i 1) env h = some (⟨env.sz, env.tr.put d (some (.slice h.next 0 k (.atl k s)))⟩, h.add (mkO (some elem) L)) := by
    rw [ho]
    simp only [regS, wantedO, hgd, step1, hop, hfa, hd, hput]
  refine at_part hG hcodes hext (N := 0) (n := 1) hA hle hr fun a' w' hA' => hQ a' w' ?_
  refine at_shape hA' rfl fun x obj hx => ?_
  simp only [T.get_put] at hx
  by_cases q : x = h.next
  · rw [if_pos q] at hx
    cases hx
    refine ⟨mkO (some elem) L, ?_, fun _ => mkO_rw _ _, fun ρ M c hc => mkO_list hc⟩
    show (h.add _).tr.get x = _
    rw [H.add_get, if_pos q]
  · rw [if_neg q] at hx
    refine ⟨obj, ?_, id, fun _ _ _ hc => hc⟩
    show (h.add _).tr.get x = _
    rw [H.add_get, if_neg q]
    exact hx
end
end Go.Ev
/-! Blocks that are forgotten. -/
namespace Go.Ev
open Go.RowKit
/-- all blocks from m on are forgotten -/
theorem drop {ρ0 : Ren} {h0 : H} {w0 : World} {st : St} {sz m : Nat} {l : List (Nat × V)} {base : T O} {a : Act} {w : World} (hA : At ρ0 h0 w0 st a w) (hsz : sz ≤ st.env.sz) (hd : st.defs = []) (hT : hasT st.env l) (h1 : h0.next ≤ m) (h2 : 1000 ≤ h0.next)
    (hb : ∀ b x, base.get b = some x → b < m ∧ okO m x ∧ st.h.tr.get b = some x) (hl : ∀ p, p ∈ l → okB m p.2 = true) : At ρ0 h0 w0 ⟨envL sz l, ⟨base, m⟩, []⟩ a w := by
  let f : Nat → Option Nat := fun b => if b < m then some b else none
  have fl : ∀ b, b < m → f b = some b := fun b hb => by simp [f, hb]
  have fv : ∀ b x, f b = some x → b < m ∧ x = b := fun b x h => by
    simp only [f] at h
    split at h
    · cases h; exact ⟨by assumption, rfl⟩
    · cases h
  have hr : ∀ {ρ ρ' : Ren}, (∀ b b2, f b = some b2 → ρ' b = ρ b2) → ∀ b, b < m → ρ' b = ρ b := fun h b hb => h b b (fl b hb)
  refine at_rename hA f (fun b hb => fl b (by omega)) h1 (fun b x hx => (fv b x hx).1) h2 (fun b1 b2 x q1 q2 => by rw [← (fv _ _ q1).2, ← (fv _ _ q2).2]) (fun b x hx => ?_) hsz (fun t0 v hv => ?_) hd
  · obtain ⟨q1, q2, q3⟩ := hb b x hx
    exact ⟨b, x, fl b q1, q3, id, fun ρ ρ' h L c hc => okO_rel q2 (hr h) hc⟩
  · have hv : (putL l).get t0 = some v := hv
    refine ⟨v, hasT_get hT t0 v hv, fun ρ ρ' h c hc => ?_⟩
    have hmem : ∀ (l : List (Nat × V)), (putL l).get t0 = some v → ∃ p, p ∈ l ∧ p.2 = v := by
      intro l
      induction l with
      | nil => intro h; simp [putL, T.get_leaf] at h
      | cons p l ih =>
        intro h
        simp only [putL, T.get_put] at h
        split at h
        · cases h; exact ⟨p, by simp, rfl⟩
        · obtain ⟨p', h1, h2⟩ := ih h; exact ⟨p', by simp [h1], h2⟩
    obtain ⟨p, p1, p2⟩ := hmem l hv
    exact okB_rel (p2 ▸ hl p p1) (hr h) hc
end Go.Ev
/-! Memories that say the same, with more numbers given. -/
namespace Go.Ev
open Go.RowKit
theorem sim_kept {ρ : Ren} {h h2 : H} {w : World} (hS : Sim ρ h w) (hn : h.next ≤ h2.next) (hh : ∀ b o, h2.tr.get b = some o → ∃ o', h.tr.get b = some o' ∧ (o.rw = true → o'.rw = true) ∧ ∀ ρ L c, ORel ρ o' L c → ORel ρ o L c) : Sim ρ h2 w := by
  refine ⟨hS.glob, fun b L hb => Nat.lt_of_lt_of_le (hS.dom b L hb) hn, fun b o hb => ?_, fun b b' o o' L L' hb hb' => ?_⟩
  · obtain ⟨o', p1, _, p3⟩ := hh b o hb
    obtain ⟨L, c, l1, l2, l3⟩ := hS.live b o' p1
    exact ⟨L, c, l1, l2, p3 ρ L c l3⟩
  · obtain ⟨o1, p1, _⟩ := hh b o hb
    obtain ⟨o2, p2, _⟩ := hh b' o' hb'
    exact hS.inj b b' o1 o2 L L' p1 p2
theorem ext_kept {ρ ρ' : Ren} {h h' h2 : H} {w w' : World} (hE : Ext ρ h w ρ' h' w') (hn : h'.next ≤ h2.next) (hh : ∀ b o, h2.tr.get b = some o → ∃ o', h'.tr.get b = some o' ∧ (o.rw = true → o'.rw = true) ∧ ∀ ρ L c, ORel ρ o' L c → ORel ρ o L c) : Ext ρ h w ρ' h2 w' := by
  refine ⟨Nat.le_trans hE.next hn, hE.agree, hE.size, hE.frame, fun b o L hb hL hlt => ?_, hE.tape, hE.os, hE.output⟩
  obtain ⟨o', p1, p2, _⟩ := hh b o hb
  obtain ⟨b0, o0, L0, q1, q2, q3, q4⟩ := hE.origin b o' L p1 hL hlt
  exact ⟨b0, o0, L0, q1, q2, q3, fun r => q4 (p2 r)⟩
/-- a memory that says the same, with more numbers given -/
theorem at_kept {ρ0 : Ren} {h0 : H} {w0 : World} {env : Env} {h : H} {defs : List Nat} {a : Act} {w : World} (hA : At ρ0 h0 w0 ⟨env, h, defs⟩ a w) {h2 : H} (hn : h.next ≤ h2.next) (hh : ∀ b o, h2.tr.get b = some o → ∃ o', h.tr.get b = some o' ∧ (o.rw = true → o'.rw = true) ∧ ∀ ρ L c, ORel ρ o' L c → ORel ρ o L c) : At ρ0 h0 w0 ⟨env, h2, defs⟩ a w := by
  obtain ⟨ρ, s1, s2, s3, s4⟩ := hA
  exact ⟨ρ, sim_kept s1 hn hh, ext_kept s2 hn hh, s3, s4⟩
end Go.Ev

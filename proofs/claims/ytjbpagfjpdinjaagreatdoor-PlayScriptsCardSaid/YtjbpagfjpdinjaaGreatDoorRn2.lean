/- play.Random: one round of its loop. -/
import Derived.Test.YtjbpagfjpdinjaaGreatDoorRn1
import Derived.Test.YtjbpagfjpdinjaaGreatDoorJb
namespace Go.Ev
open Go.RowKit
/-- a memory that says the same, with more numbers given -/
theorem at_kept {ρ0 : Ren} {h0 : H} {w0 : World} {env : Env} {h : H} {defs : List Nat} {a : Act} {w : World} (hA : At ρ0 h0 w0 ⟨env, h, defs⟩ a w) {h2 : H} (hn : h.next ≤ h2.next) (hh : ∀ b o, h2.tr.get b = some o → ∃ o', h.tr.get b = some o' ∧ (o.rw = true → o'.rw = true) ∧ ∀ ρ L c, ORel ρ o' L c → ORel ρ o L c) : At ρ0 h0 w0 ⟨env, h2, defs⟩ a w := by
  obtain ⟨ρ, s1, s2, s3, s4⟩ := hA
  exact ⟨ρ, sim_kept s1 hn hh, ext_kept s2 hn hh, s3, s4⟩
end Go.Ev
namespace Go.Proofs.YtjbpagfjpdinjaaGreatDoor
set_option maxRecDepth 100000
open Go.Ev Go.RowKit
namespace RN
open OD (opA)
noncomputable def hT (x m : Int) (L : List V) : H := ⟨T.put (OD.tD x m) 1201 (some (rowO L)), 1202⟩
theorem GN_x : ExtOK Tryz.prog GN := extL_ok (l := [kMach]) (fun x hx => by
  simp only [List.mem_cons, List.not_mem_nil, or_false] at hx
  rcases hx with rfl
  exact Mach_ok) rfl
theorem eqH_eq {a b : H} (h : eqH a b) : a = b := by
  obtain ⟨a1, a2⟩ := a
  obtain ⟨b1, b2⟩ := b
  obtain ⟨h1, h2⟩ := h
  cases h1
  cases h2
  rfl
/-- a row of one -/
theorem row_o {o : Option O} {a b c d e f : V} (h : rowX o = some [a, b, c, d, e, f]) : ∃ o', o = some o' ∧ o'.rw = true ∧ ∀ ρ L c', ORel ρ o' L c' → ORel ρ (.cells (some tOp) 6 [a, b, c, d, e, f] .leaf) L c' := by
  unfold rowX at h
  split at h
  · rename_i ee n pat tr
    split at h
    · rename_i h0 hn h1 h2 h3 h4 h5 h6
      cases h
      have h0 := (T.beq_true).1 h0
      have hn := (T.beq_true).1 hn
      subst h0
      subst hn
      refine ⟨_, rfl, rfl, fun ρ L c' ho => ?_⟩
      obtain ⟨cs, el, lo, hi, x1, x2, x3, x4, x5, x6⟩ := ho
      refine ⟨cs, el, lo, hi, x1, x2, x3, x4, x5, x6.1, fun i v x hv hx => ?_⟩
      obtain ⟨hi', hv⟩ := cell_pat hv
      match i, hi', hv with
      | 0, _, hv => cases hv; exact x6.2 0 _ x h1 hx
      | 1, _, hv => cases hv; exact x6.2 1 _ x h2 hx
      | 2, _, hv => cases hv; exact x6.2 2 _ x h3 hx
      | 3, _, hv => cases hv; exact x6.2 3 _ x h4 hx
      | 4, _, hv => cases hv; exact x6.2 4 _ x h5 hx
      | 5, _, hv => cases hv; exact x6.2 5 _ x h6 hx
    · cases h
  · cases h
/-- memory when one operation lies ready: the rows -/
noncomputable def hO (x m : Int) (r : Option O) (o : OpR) : H := ⟨T.put (match r with
  | some o' => T.put (OD.tD x m) 1046 (some o')
  | .none => OD.tD x m) 1200 (some (.cells (some tOp) 6 (opV o) .leaf)), 1201⟩
theorem lt_kept {b : Nat} {o : O} (h : (b, o) ∈ OD.kept) : b < 1046 := by
  have : OD.kept.all (fun p => Nat.blt p.1 1046) = true := by kernel_rfl
  rw [List.all_eq_true] at this
  exact blt_t.1 (this _ h)
theorem ge_kept {b : Nat} {o : O} (h : (b, o) ∈ OD.kept) : 1016 < b := by
  have : OD.kept.all (fun p => Nat.blt 1016 p.1) = true := by kernel_rfl
  rw [List.all_eq_true] at this
  exact blt_t.1 (this _ h)
theorem tD_lt {x m : Int} {b : Nat} {o : O} (h : (OD.tD x m).get b = some o) : b < 1046 := by
  rcases OD.tD_get h with ⟨rfl, _⟩ | h
  · omega
  · exact lt_kept h
theorem keO {l : List (Nat × V)} {x m : Int} {r : Option O} {o : OpR} {env : Env} {h' : H} (hk : KE l x m r (opV o) env h') : ∀ b ob, (hO x m r o).tr.get b = some ob → ∃ o', h'.tr.get b = some o' ∧ (ob.rw = true → o'.rw = true) ∧ ∀ ρ L c, ORel ρ o' L c → ORel ρ ob L c := fun b ob hb => by
  obtain ⟨_, _, _, k1, k2, k3, k4⟩ := hk
  simp only [hO, T.get_put] at hb
  split at hb
  · rename_i q
    cases hb; subst q
    obtain ⟨o', p1, p2, p3⟩ := row_o k1
    exact ⟨o', p1, fun _ => p2, p3⟩
  · have base : (OD.tD x m).get b = some ob → ∃ o', h'.tr.get b = some o' ∧ (ob.rw = true → o'.rw = true) ∧ ∀ ρ L c, ORel ρ o' L c → ORel ρ ob L c := OD.keeps (n := 0) k2 k3 b ob
    cases r with
    | none => exact base hb
    | some rr =>
      simp only [T.get_put] at hb
      split at hb
      · rename_i q
        cases hb; subst q
        exact ⟨_, k4, id, fun _ _ _ h => h⟩
      · exact base hb
/-- a round's parts: the call, the row of one, the append -/
def Ready (n : Int) (i : Nat) (r : V) (t : T O) (h1 : H) (ro : Option O) (o : OpR) (x' m : Int) (L' : List V) : Prop :=
  (∀ ρ (cargs : Array Value) w, Sim ρ ⟨t, 1047⟩ w → Rels ρ OD.args cargs.toList → ∀ k, CallsIn Fence.wide k Tryz.prog iOp cargs w (Ret (Post ρ ⟨t, 1047⟩ w (opA o) h1)))
  ∧ regW GN sp cT iRandom (cOps r12) (opsPart (cOps r12) 4 1) (envL 42 ([(37, opA o), (34, r)] ++ inv r n (Int.ofNat i))) h1 (KE ([(34, r), (38, .slice 1200 0 1 (.known 1))] ++ inv r n (Int.ofNat i)) x' m ro (opV o))
  ∧ (∀ {ρ0 : Ren} {h0 : H} {w0 : World} {Q : Exit → Act → World → Prop} {kk : Nat} {a : Act} {w : World}, At ρ0 h0 w0 ⟨envL 42 ([(34, r), (38, .slice 1200 0 1 (.known 1))] ++ inv r n (Int.ofNat i)), hO x' m ro o, []⟩ a w →
    (∀ a' w', At ρ0 h0 w0 ⟨envL 42 ((39, .slice 1201 0 (i + 1) (.atl (i + 1) 6)) :: inv r n (Int.ofNat i)), hT x' m L', []⟩ a' w' → wpOpsIn Fence.wide kk Tryz.prog (cOps r12) Q (List.range' 6 1) a' w') → wpOpsIn Fence.wide kk Tryz.prog (cOps r12) Q (List.range' 5 (1 + 1)) a w)
theorem readyF {x m n : Int} (hx : inX x) (h1 : 1 ≤ m) (h2 : m ≤ 4) : Ready n 0 .nils (OD.tD x m) (hF (opF x m).1 m 1200) .none (opF x m).2 (opF x m).1 m (opV (opF x m).2) := by
  have hG : GOk Tryz.prog G0 := (mk_ok _).1
  have hC : Codes G0 := (mk_ok _).2
  have n12 : (cOps r12).size = 7 := q12n
  refine ⟨fun ρ cargs w hS ha k => OD.op_call hx h1 h2 hS ha k, ?_, fun hA hQ => ?_⟩
  · refine Eq.mpr (RN.w12bF ..) ?_
    repeat' (first | exact rfl | exact trivial | apply And.intro)
  · refine at_appendN hG hC ext_none hA (by omega) p5 g5 (hop _) t1 t2 t3 t1 t5 (el := opV (opF x m).2) (s := 6) t6 (by decide) (n := 1) (by omega) rfl (by omega) (yv := .slice 1200 0 1 (.known 1)) rfl ?_ d5 rfl fun a' w' A => ?_
    · rw [t6]; rfl
    · refine hQ a' w' ?_
      refine at_less (at_kept A (h2 := hT (opF x m).1 m (opV (opF x m).2)) (Nat.le_refl _) fun b o hb => ?_) (hasT_get ⟨rfl, rfl, rfl, rfl, rfl, rfl, trivial⟩) (Nat.le_refl _) (fun _ _ h => h) rfl rfl
      simp only [hT, T.get_put] at hb
      split at hb
      · rename_i q
        cases hb; subst q
        exact ⟨_, by simp only [hO, T.get_put]; rfl, id, fun _ _ _ h => h⟩
      · rename_i q
        have hlt := tD_lt hb
        refine ⟨o, ?_, id, fun _ _ _ h => h⟩
        simp only [hO, T.get_put]
        rw [if_neg (by exact q), if_neg (by omega)]
        exact hb
theorem readyW {x m n : Int} {i : Nat} {L : List V} (hx : inX x) (h1 : 1 ≤ m) (h2 : m ≤ 4) (hL : L.length = i * 6) (hi : 0 < i) (hi2 : i ≤ 90000) : Ready n i (.slice 1046 0 i (.atl i 6)) (hW x m L 1047).tr (hW (opF x m).1 m L 1200) (some (rowO L)) (opF x m).2 (opF x m).1 m (L ++ opV (opF x m).2) := by
  have hG : GOk Tryz.prog G0 := (mk_ok _).1
  have hC : Codes G0 := (mk_ok _).2
  have n12 : (cOps r12).size = 7 := q12n
  refine ⟨fun ρ cargs w hS ha k => ?_, ?_, fun hA hQ => ?_⟩
  · have F : Framed (hW x m L 1047) (OD.hD x m 1047) (OD.hD (opF x m).1 m 1200) (hW (opF x m).1 m L 1200) := by
      refine ⟨rfl, fun b o hb => ?_, rfl, fun b o hb => ?_⟩
      · have := tD_lt hb
        simp only [hW, T.get_put]
        rw [if_neg (by omega)]
        exact hb
      · simp only [hW, T.get_put] at hb
        split at hb
        · rename_i q
          cases hb; subst q
          refine .inr ⟨by show 1046 < 1047; omega, ?_, by simp only [hW, T.get_put]; rfl⟩
          cases e : (OD.hD x m 1047).tr.get 1046 with
          | none => rfl
          | some o => exact absurd (tD_lt e) (by omega)
        · exact .inl hb
    refine (OD.op_call hx h1 h2 (hS.sub (Nat.le_refl _) F.part) ha k).mono fun en w' ⟨c, e1, ρ', p1, p2, p3⟩ => ?_
    obtain ⟨u1, u2⟩ := frame_rule F hS p1 p2
    exact ⟨c, e1, ρ', u1, u2, p3⟩
  · refine Eq.mpr (RN.w12bW ..) ?_
    repeat' (first | exact rfl | exact trivial | apply And.intro)
  · refine at_appendM hG hC ext_none hA (by omega) p5 g5 (hop _) t1 t2 t3 t1 t5 (L := L) (el := opV (opF x m).2) (s := 6) t6 (by decide) (b := 1046) (k := i) (n := 1) (e := some tOp) (by omega) hL rfl rfl (by omega) (yv := .slice 1200 0 1 (.known 1)) rfl ?_ d5 rfl fun a' w' A => ?_
    · rw [t6]; rfl
    · refine hQ a' w' ?_
      refine at_less (at_kept A (h2 := hT (opF x m).1 m (L ++ opV (opF x m).2)) (Nat.le_refl _) fun b o hb => ?_) (hasT_get ⟨rfl, rfl, rfl, rfl, rfl, rfl, trivial⟩) (Nat.le_refl _) (fun _ _ h => h) rfl rfl
      simp only [hT, T.get_put] at hb
      split at hb
      · rename_i q
        cases hb; subst q
        exact ⟨_, by simp only [hO, T.get_put]; rfl, id, fun _ _ _ h => h⟩
      · rename_i q
        have hlt := tD_lt hb
        refine ⟨o, ?_, id, fun _ _ _ h => h⟩
        simp only [hO, T.get_put]
        rw [if_neg (by exact q), if_neg (by omega), if_neg (by omega), if_neg (by omega)]
        exact hb
end RN
end Go.Proofs.YtjbpagfjpdinjaaGreatDoor

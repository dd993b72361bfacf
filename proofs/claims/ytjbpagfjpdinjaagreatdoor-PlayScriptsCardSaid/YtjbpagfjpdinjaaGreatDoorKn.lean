/- Calls that are known under a condition: the equality of rows, the checks of an operation. -/
import Derived.Test.YtjbpagfjpdinjaaGreatDoorEq2
import Derived.Test.YtjbpagfjpdinjaaGreatDoorCk2
namespace Go.Ev
/-- what is known of a call, and under which condition -/
abbrev KBool := FuncId → List V → H → Option (Bool × V)
noncomputable def extU (kB : KBool) (g : FuncId → List V → H → Option (V × H)) (f : FuncId) (args : List V) (h : H) : Option (V × H) := match kB f args h with
  | some (b, v) => match b with
    | true => some (v, h)
    | false => none
  | none => g f args h
noncomputable def kxU (kB : KBool) : KX := fun f args h => match kB f args h with
  | some (b, v) => some (not b, (.nilf, h), (v, h))
  | none => none
theorem kxU_ok {P : Program} {eqs : List TypeId} {rows : List (FuncId × Row)} {kB : KBool} {g : FuncId → List V → H → Option (V × H)} : KxOK (mkG P eqs rows (extU kB g)) (kxU kB) := fun f args h b r1 r2 hk => by
  unfold kxU at hk
  split at hk
  · rename_i b0 v q
    simp only [Option.some.injEq, Prod.mk.injEq] at hk
    obtain ⟨e1, e2, e3⟩ := hk
    refine ⟨fun _ hb => absurd (show bog r1.1 = true by rw [← e2]; rfl) (by rw [hb]; exact Bool.false_ne_true), fun hb => ?_⟩
    rw [← e3]
    show extU kB g f args h = _
    unfold extU
    rw [q]
    cases b0 with
    | true => rfl
    | false => rw [hb] at e1; cases e1
  · cases hk
theorem extU_ok {P : Program} {eqs : List TypeId} {rows : List (FuncId × Row)} {kB : KBool} {g : FuncId → List V → H → Option (V × H)} (hB : ∀ f, KnownOk P (f, fun args h => match kB f args h with | some (true, v) => some v | _ => none)) (hg : ExtOK P (mkG P eqs rows g)) : ExtOK P (mkG P eqs rows (extU kB g)) := fun f args h v h' hr ρ cargs w ha hS n => by
  have hr : extU kB g f args h = some (v, h') := hr
  unfold extU at hr
  split at hr
  · rename_i b v0 q
    split at hr
    · cases hr
      refine extL_ok (G := mkG P eqs rows (extL [(f, fun args h => match kB f args h with | some (true, v) => some v | _ => none)])) (l := [(f, fun args h => match kB f args h with | some (true, v) => some v | _ => none)]) (fun x hx => by
        simp only [List.mem_cons, List.not_mem_nil, or_false] at hx
        subst hx
        exact hB f) rfl f args h v h ?_ ρ cargs w ha hS n
      show extL _ f args h = _
      have e : Nat.beq f f = true := (T.beq_true).2 rfl
      simp only [extL, e, q]
    · cases hr
  · exact hg f args h v h' hr ρ cargs w ha hS n
end Go.Ev
namespace Go.Proofs.YtjbpagfjpdinjaaGreatDoor
set_option maxRecDepth 100000
open Go.Ev Go.RowKit
open OD (opA)
theorem vars_of_has {l : List (Nat × List V)} (hp : ∀ p, p ∈ l → ∀ v, v ∈ p.2 → pureS v = true) (hl : ∀ p, p ∈ l → p.1 < 1000) {h : H} (hh : Go.Ev.has h (roL l) = true) {ρ : Ren} {w : World} (hS : Sim ρ h w) : VarsOk l w := by
  intro g vs hm
  obtain ⟨o, h1, h2⟩ := has_get hh (g, .ro (some 0) vs.length vs .leaf) (List.mem_map.2 ⟨(g, vs), hm, rfl⟩)
  obtain ⟨L, c, l1, l2, l3⟩ := hS.live g o h1
  obtain ⟨z, hz⟩ := hS.glob g (hl _ hm)
  rw [hz] at l1
  cases l1
  obtain ⟨cs, el, fr, q1, q2, q3, q5, q6⟩ := (O.beq_rel h2).2 _ _ _ l3
  subst q1
  have q2 : cs.size = z := q2
  have q3 : 0 + vs.length ≤ z := q3
  have q4 : z = vs.length := (q5 _ rfl).2
  refine ⟨hl _ hm, cs, el, fr, l2, by omega, fun i v hv => ?_⟩
  have hi := (List.getElem?_eq_some_iff.1 hv).1
  have hc : cs[i]? = some cs[i] := Array.getElem?_eq_getElem (by omega)
  refine ⟨_, hc, q6.1 i _ hi (by rw [Nat.zero_add]; exact hc), fun ρ' => pureS_rel (hp _ hm v (List.mem_of_getElem? hv)) (q6.2 i v _ (leaf_cell hv) (by rw [Nat.zero_add]; exact hc))⟩
theorem bytesV_pure (l : List Nat) : ∀ v, v ∈ bytesV l → pureS v = true := fun v hv => by
  simp only [bytesV, List.mem_map] at hv
  obtain ⟨n, _, rfl⟩ := hv
  rfl
theorem gsL_lt : ∀ p, p ∈ gsL → p.1 < 1000 := fun p hp => by
  simp only [gsL, List.mem_cons, List.not_mem_nil, or_false] at hp
  subst hp
  show gLet < 1000; decide
theorem gsL_pure : ∀ p, p ∈ gsL → ∀ v, v ∈ p.2 → pureS v = true := fun p hp v hv => by
  simp only [gsL, List.mem_cons, List.not_mem_nil, or_false] at hp
  subst hp
  exact bytesV_pure _ v hv
namespace KB
def EqRows (n : Nat) (h : H) : Prop := 0 < n ∧ n ≤ 2000 ∧ h.next ≤ 1010 ∧ ∃ A B : List OpR, h.tr.get 1002 = some (RN.rowO (cellsR A)) ∧ h.tr.get 1003 = some (RN.rowO (cellsR B)) ∧ A.length = n ∧ ∀ j, j < n → B[j]? = A[j]?
open Classical in
noncomputable def eqB (n : Nat) (h : H) : Bool := decide (EqRows n h)
open Classical in
noncomputable def goodB (k m a b c : Int) (t : List UInt8) : Bool := decide (Good ⟨k, m, a, b, c, t⟩)
open Classical in
theorem eqB_t {n : Nat} {h : H} (q : eqB n h = true) : EqRows n h := by
  unfold eqB at q
  exact of_decide_eq_true q
open Classical in
theorem eqB_of {n : Nat} {h : H} (q : EqRows n h) : eqB n h = true := by
  unfold eqB
  exact decide_eq_true q
open Classical in
theorem goodB_t {k m a b c : Int} {t : List UInt8} (q : goodB k m a b c t = true) : Good ⟨k, m, a, b, c, t⟩ := by
  unfold goodB at q
  exact of_decide_eq_true q
open Classical in
theorem goodB_of {k m a b c : Int} {t : List UInt8} (q : Good ⟨k, m, a, b, c, t⟩) : goodB k m a b c t = true := by
  unfold goodB
  exact decide_eq_true q
def inK (k : Int) : Bool := decide (1 ≤ k ∧ k ≤ 17)
def mutB (k : Int) : Bool := decide (k ≤ 12)
noncomputable def kB : KBool := fun f args h => match Nat.beq f iEqual, args with
  | true, [.slice 1002 0 n _, .slice 1003 0 n' _] => some (Nat.beq n n' && eqB n h, .bool true)
  | _, _ => match Nat.beq f iOpChk, args with
    | true, [.agg 6 [.int .i64 k, .int .i64 m, .int .i64 a, .int .i64 b, .int .i64 c, .str t] .leaf] => some (Go.Ev.has h (roL gsL) && goodB k m a b c t, .int .i64 (Int.ofNat 0))
    | _, _ => match Nat.beq f iMut, args with
      | true, [.int .i64 k] => some (inK k, .bool (mutB k))
      | _, _ => .none
theorem mut_fn {k : Int} (h : inK k = true) : fnW G0 CK.sp 200 iMut [.int .i64 k] hE (fun v _ => v = .bool (mutB k)) := by
  have h := of_decide_eq_true h
  have : k = 1 ∨ k = 2 ∨ k = 3 ∨ k = 4 ∨ k = 5 ∨ k = 6 ∨ k = 7 ∨ k = 8 ∨ k = 9 ∨ k = 10 ∨ k = 11 ∨ k = 12 ∨ k = 13 ∨ k = 14 ∨ k = 15 ∨ k = 16 ∨ k = 17 := by omega
  rcases this with rfl | rfl | rfl | rfl | rfl | rfl | rfl | rfl | rfl | rfl | rfl | rfl | rfl | rfl | rfl | rfl | rfl
  · exact Eq.mpr (CK.m1 ..) (by repeat' (first | exact rfl | exact trivial | apply And.intro))
  · exact Eq.mpr (CK.m2 ..) (by repeat' (first | exact rfl | exact trivial | apply And.intro))
  · exact Eq.mpr (CK.m3 ..) (by repeat' (first | exact rfl | exact trivial | apply And.intro))
  · exact Eq.mpr (CK.m4 ..) (by repeat' (first | exact rfl | exact trivial | apply And.intro))
  · exact Eq.mpr (CK.m5 ..) (by repeat' (first | exact rfl | exact trivial | apply And.intro))
  · exact Eq.mpr (CK.m6 ..) (by repeat' (first | exact rfl | exact trivial | apply And.intro))
  · exact Eq.mpr (CK.m7 ..) (by repeat' (first | exact rfl | exact trivial | apply And.intro))
  · exact Eq.mpr (CK.m8 ..) (by repeat' (first | exact rfl | exact trivial | apply And.intro))
  · exact Eq.mpr (CK.m9 ..) (by repeat' (first | exact rfl | exact trivial | apply And.intro))
  · exact Eq.mpr (CK.m10 ..) (by repeat' (first | exact rfl | exact trivial | apply And.intro))
  · exact Eq.mpr (CK.m11 ..) (by repeat' (first | exact rfl | exact trivial | apply And.intro))
  · exact Eq.mpr (CK.m12 ..) (by repeat' (first | exact rfl | exact trivial | apply And.intro))
  · exact Eq.mpr (CK.m13 ..) (by repeat' (first | exact rfl | exact trivial | apply And.intro))
  · exact Eq.mpr (CK.m14 ..) (by repeat' (first | exact rfl | exact trivial | apply And.intro))
  · exact Eq.mpr (CK.m15 ..) (by repeat' (first | exact rfl | exact trivial | apply And.intro))
  · exact Eq.mpr (CK.m16 ..) (by repeat' (first | exact rfl | exact trivial | apply And.intro))
  · exact Eq.mpr (CK.m17 ..) (by repeat' (first | exact rfl | exact trivial | apply And.intro))
theorem row_ro {ρ : Ren} {A : List V} {L : Nat × Nat × Nat} {c : Obj} (h : ORel ρ (RN.rowO A) L c) : ORel ρ (EQ.roO A) L c := by
  obtain ⟨cs, el, lo, hi, x1, x2, x3, x4, x5, x6⟩ := h
  exact ⟨cs, el, _, x1, x2, x3, fun e' q => (nomatch q), x6⟩
theorem kB_ok (f : FuncId) : KnownOk Tryz.prog (f, fun args h => match kB f args h with | some (true, v) => some v | _ => .none) := by
  intro args h v hv ρ cargs w ha hS n
  simp only at hv
  split at hv
  · rename_i v0 hq
    cases hv
    unfold kB at hq
    split at hq
    · rename_i nn c n' d hf
      have hf := (T.beq_true).1 hf
      simp only [Option.some.injEq, Prod.mk.injEq, Bool.and_eq_true, T.beq_true] at hq
      obtain ⟨⟨rfl, h2⟩, rfl⟩ := hq
      obtain ⟨g1, g2, g3, A, B, g4, g5, g6, g7⟩ := eqB_t h2
      have hS2 : Sim ρ (EQ.hQ (cellsR A) (cellsR B)) w := sim_kept hS g3 fun b o hb => by
        rcases EQ.hQ_get hb with ⟨rfl, rfl⟩ | ⟨rfl, rfl⟩
        · exact ⟨_, g5, fun q => (nomatch q), fun ρ L c ho => row_ro ho⟩
        · exact ⟨_, g4, fun q => (nomatch q), fun ρ L c ho => row_ro ho⟩
      subst hf
      exact (EQ.call g1 g2 g6 g7 ha hS2 n).mono fun en w' ⟨e1, e2⟩ => ⟨_, e1, e2, .bool true⟩
    · split at hq
      · rename_i kk m a b c t hf _
        have hf := (T.beq_true).1 hf
        simp only [Option.some.injEq, Prod.mk.injEq, Bool.and_eq_true] at hq
        obtain ⟨⟨h1, h2⟩, rfl⟩ := hq
        have hg : Good ⟨kk, m, a, b, c, t⟩ := goodB_t h2
        have hV := vars_of_has gsL_pure gsL_lt h1 hS
        obtain ⟨cc, cs', e1, q1, q2⟩ := ha.uncons
        have q2 := q2.of_nil
        have ha2 : Rels (rVars (roomOf w)) [V.agg 6 [.int .i64 kk, .int .i64 m, .int .i64 a, .int .i64 b, .int .i64 c, .str t] .leaf] cargs.toList := by
          rw [e1, q2]
          exact Rels.cons (canonV_rel (v := V.agg 6 [.int .i64 kk, .int .i64 m, .int .i64 a, .int .i64 b, .int .i64 c, .str t] .leaf) rfl q1) Rels.nil
        subst hf
        refine (law_w (G := G0) (sp := CK.sp) (mk_ok _).1 (mk_ok _).2 ext_none (kx_none _) (v := .int .i64 (Int.ofNat 0)) (CK.chk hg) rfl (hVars_ro _ _) ha2 (sim_vars hV (Nat.le_refl 1000)) n).mono fun en w' ⟨c, e1, e2, e3⟩ => ⟨c, e1, e2, e3 _⟩
      · split at hq
        · rename_i kk hf _ _
          have hf := (T.beq_true).1 hf
          simp only [Option.some.injEq, Prod.mk.injEq] at hq
          obtain ⟨h1, rfl⟩ := hq
          obtain ⟨cc, cs', e1, q1, q2⟩ := ha.uncons
          have q2 := q2.of_nil
          have ha2 : Rels rE [V.int .i64 kk] cargs.toList := by
            rw [e1, q2]
            exact Rels.cons (pureS_rel rfl q1) Rels.nil
          subst hf
          exact (law_w (G := G0) (sp := CK.sp) (mk_ok _).1 (mk_ok _).2 ext_none (kx_none _) (v := .bool (mutB kk)) (mut_fn h1) rfl hE_ro ha2 (sim_E w) n).mono fun en w' ⟨c, e1, e2, e3⟩ => ⟨c, e1, e2, e3 _⟩
        · cases hq
  · cases hv
end KB
end Go.Proofs.YtjbpagfjpdinjaaGreatDoor

/- judge.Text: what it returns, whatever the numbers: the walk (strings.Join is taken as known). -/
import Derived.Test.YtgadijnefbmgkaaGreatDoorJt9
namespace Go.Proofs.YtgadijnefbmgkaaGreatDoor
set_option maxRecDepth 100000
open Go.Ev Go.RowKit
/-- strings.Join, at rows of words -/
def JoinOk : Prop := ∀ (n : Nat) (xs : List Int) (e : Option TypeId) (k : Nat), k ≤ xs.length → xs.length ≤ 30 → okTo xs k → ∀ (ρ : Ren) (cargs : Array Value) (W : World), Sim ρ (JT.hL e n xs (strs xs k)) W → Rels ρ [JT.ou 1001 k, .str sep] cargs.toList →
  ∀ m, CallsIn Fence.wide m Tryz.prog iJoin cargs W (fun en w' => ∃ v, v = V.str (textTo xs k) ∧ Below W.heap.size W w' ∧ ∃ c, en = .returned c ∧ ∀ ρ, Rel ρ v c)
namespace JT
theorem actJ2 (o : V) : act G0 (envL 34 [(4, o), (32, o)]).get opJ.op = .call (some (.fn iJoin [o, .str sep])) := by kernel_rfl
noncomputable def fnJ : Func := match Tryz.prog.funcs[iJoin]? with
  | some f => f
  | .none => default
theorem isJ : Tryz.prog.funcs[iJoin]? = some fnJ := by kernel_rfl
theorem nameJ : fnJ.name ≠ "runtime.NumGoroutine" := fun h => absurd (show (fnJ.name == "runtime.NumGoroutine") = false by kernel_rfl) (by rw [h]; decide)
theorem bodyJ : ∃ c, fnJ.body = some c := by
  have : fnJ.body.isSome = true := by kernel_rfl
  exact Option.isSome_iff_exists.1 this
theorem at_list {P : Program} {G : Γ} {sp : SpF} (hG : GOk P G) (hcodes : Codes G) (hext : ExtOK P G) (hk : KxOK G sp.kx) {ρ0 : Ren} {h0 : H} {w0 : World} {k : Nat} {Q : Exit → Act → World → Prop} {N : Nat} {fn : FuncId} {K : X → St → Prop} {rest : Code}
    (hN : ∀ st' a' w', K .normal st' → At ρ0 h0 w0 st' a' w' → rest.wpIn Fence.wide k P Q a' w') (hO : ∀ x st' a' w', x ≠ .normal → K x st' → At ρ0 h0 w0 st' a' w' → Q (XE x) a' w') :
    ∀ {cs : List Code} {st : St} {a : Act} {w : World}, At ρ0 h0 w0 st a w → evL G sp N fn cs K st → cs.all okC = true → (nest cs rest).wpIn Fence.wide k P Q a w
  | [], st, a, w, hA, he, _ => hN st a w he hA
  | c :: cs, st, a, w, hA, he, ho => by
    simp only [List.all_cons, Bool.and_eq_true] at ho
    refine wpIn_seq (at_w hG hcodes hext hk hA he ho.1 fun x st' a' w' hK A1 => ?_)
    cases x with
    | normal => exact at_list hG hcodes hext hk hN hO A1 hK ho.2
    | ret => exact hO _ _ _ _ (by simp) hK A1
    | exit i => exact hO _ _ _ _ (by simp) hK A1
theorem ret_out {Q : V → Prop} {st : St} (h : retIs Q st) : ∃ h2 v, takeAll st.defs st.h = some h2 ∧ resultsO G0 h2 st.env fn = some v ∧ Q v := by
  unfold retIs at h
  split at h
  · split at h
    · exact ⟨_, _, by assumption, by assumption, h⟩
    · cases h
  · cases h
theorem hI_ro (n : Nat) (xs : List Int) : AllRo (hI n xs) := fun b o h => by
  simp only [hI, T.get_put, T.get_leaf] at h
  split at h
  · cases h; rfl
  · split at h
    · cases h; rfl
    · cases h
/-- what the loop keeps -/
def Inv (xs : List Int) (k : Nat) (o : V) (h : H) : Prop := (k = 0 ∧ o = .nils ∧ h = hI xs.length xs) ∨ (0 < k ∧ o = ou 1001 k ∧ ∃ e, h = hL e xs.length xs (strs xs k))
theorem call (hJ : JoinOk) {xs : List Int} {c : Cap} (hn : xs.length ≤ 30) {ρ : Ren} {cargs : Array Value} {W : World} (ha : Rels ρ [sl xs.length c] cargs.toList) (hS : Sim ρ (hI xs.length xs) W) (k : Nat) :
    CallsIn Fence.wide k Tryz.prog iText cargs W (fun en w' => ∃ c, en = .returned c ∧ Below W.heap.size W w' ∧ Rel rE (resV xs) c) := by
  have hG : GOk Tryz.prog G0 := (mk_ok _).1
  have hC : Codes G0 := (mk_ok _).2
  have hX : ExtOK Tryz.prog G0 := ext_none
  have hK : KxOK G0 sp.kx := kx_none _
  have out : ∀ {st : St} {a' : Act} {w' : World} {Q : V → Prop}, At ρ (hI xs.length xs) W st a' w' → retIs Q st → (∀ v, Q v → v = resV xs) → LeavesInM Fence.wide k Tryz.prog fn a'.tmps (fun en w' => ∃ c, en = .returned c ∧ Below W.heap.size W w' ∧ Rel rE (resV xs) c) a'.defers .returning w' := by
    intro st a' w' Q hA hr hq
    obtain ⟨h2, v, e1, e2, e3⟩ := ret_out hr
    obtain rfl := hq v e3
    obtain ⟨ρ', s1, s2, s3, s4⟩ := hA
    exact body_out (n := k) hG e1 e2 s2 s1 s3 s4 fun c w2 c1 c2 c3 => ⟨c, rfl, c3.below (hI_ro _ _), pureV_rel rfl c1⟩
  refine callsIn_of_wp_marks isFn body trivial ?_
  rw [q17]
  have h0 := at_enter hS ha (n := 34) (show 1 ≤ 34 by decide)
  have A0 : At ρ (hI xs.length xs) W (S [(0, sl xs.length c)] (hI xs.length xs)) _ W := at_less h0 (hasT_get ⟨rfl, trivial⟩) (Nat.le_refl _) (fun _ _ h => h) rfl rfl
  have hp : evL G0 sp 40 iText [r0, y1, r3, r4, r5] (K1 (inv xs.length c .nils (Int.ofNat 0) (Int.ofNat 0)) (hI xs.length xs) (fun v => v = resV xs) (xs.length ≠ 0)) (S [(0, sl xs.length c)] (hI xs.length xs)) := by
    rw [JT.w0]
    refine ⟨fun q => ?_, fun q => ⟨?_, ?_⟩⟩
    · rw [res_none (by have := ieq_t.1 q; simp only [iofn] at this; omega)]; rfl
    · have := ieq_f.1 q; simp only [iofn] at this; omega
    · repeat' (first | exact rfl | exact trivial | apply And.intro)
  rw [q0]
  refine wpIn_seq (at_w hG hC hX hK (N := 40) (fn := iText) A0 hp (by kernel_rfl) fun x st1 a1 w1 k1 A1 => ?_)
  cases x with
  | exit _ => cases k1
  | ret => exact out A1 k1 fun v hv => hv
  | normal =>
  show Code.wpIn Fence.wide k Tryz.prog x1 _ a1 w1
  rw [q1]
  refine wpIn_seq (at_w hG hC hX hK (N := 40) (fn := iText) A1 k1 (by kernel_rfl) fun x st2 a2 w2 k2 A2 => ?_)
  cases x with
  | exit _ => cases k2
  | ret => exact out A2 k2 fun v hv => hv
  | normal =>
  show Code.wpIn Fence.wide k Tryz.prog x2 _ a2 w2
  rw [q2]
  refine wpIn_seq (at_w hG hC hX hK (N := 40) (fn := iText) A2 k2 (by kernel_rfl) fun x st3 a3 w3 k3 A3 => ?_)
  cases x with
  | exit _ => cases k3
  | ret => exact out A3 k3 fun v hv => hv
  | normal =>
  show Code.wpIn Fence.wide k Tryz.prog x3 _ a3 w3
  rw [q3]
  refine wpIn_seq (at_w hG hC hX hK (N := 40) (fn := iText) A3 k3 (by kernel_rfl) fun x st4 a4 w4 k4 A4 => ?_)
  cases x with
  | exit _ => cases k4
  | ret => exact out A4 k4 fun v hv => hv
  | normal =>
  show Code.wpIn Fence.wide k Tryz.prog x4 _ a4 w4
  rw [q4]
  refine wpIn_seq ?_
  rw [q5]
  refine wpIn_seq (at_w hG hC hX hK (N := 40) (fn := iText) A4 k4 (by kernel_rfl) fun x st5 a5 w5 k5 A5 => ?_)
  cases x with
  | exit _ => cases k5
  | ret => exact out A5 k5 fun v hv => hv
  | normal =>
  obtain ⟨n0, k51, k52⟩ := k5
  have A5 := toS A5 k51 (eqH_eq k52)
  show Code.wpIn Fence.wide k Tryz.prog bl _ a5 w5
  rw [q6]
  refine wpIn_block ?_
  rw [q7]
  refine wpIn_loop_down (fun m a' w' => ∃ i o h, m = xs.length - i ∧ i ≤ xs.length ∧ okTo xs i ∧ Inv xs i o h ∧ At ρ (hI xs.length xs) W (S (inv xs.length c o (lastF xs i) (Int.ofNat i)) h) a' w') (fun m a' w' hJ' => ?_) (m := xs.length) ⟨0, .nils, _, by omega, by omega, fun j hj => by omega, .inl ⟨rfl, rfl, rfl⟩, A5⟩
  obtain ⟨i, o, h, j1, j2, j3, j4, A6⟩ := hJ'
  rw [q8]
  have h6 : evL G0 sp 40 iText [r6, cd] (K2 (inv xs.length c o (lastF xs i) (Int.ofNat i)) [(4, o)] h (i < xs.length) (i = xs.length)) (S (inv xs.length c o (lastF xs i) (Int.ofNat i)) h) := by
    refine Eq.mpr (JT.w6 ..) ⟨fun q => ⟨?_, ?_⟩, fun q => ⟨?_, ?_⟩⟩
    · have := ilt_t.1 q; simp only [iofn] at this; omega
    · repeat' (first | exact rfl | exact trivial | apply And.intro)
    · have := ilt_f.1 q; simp only [iofn] at this; omega
    · repeat' (first | exact rfl | exact trivial | apply And.intro)
  -- behind the loop
  have fin : ∀ {Q : Exit → Act → World → Prop} {st : St} {a' : Act} {w' : World}, i = xs.length → hasS [(4, o)] st → st.h = h → At ρ (hI xs.length xs) W st a' w' → (∀ st a w, At ρ (hI xs.length xs) W st a w → retIs (fun v => v = resV xs) st → Q .ret a w) → x5.wpIn Fence.wide k Tryz.prog Q a' w' := by
    intro Q st a' w' hi hs hh hA hq
    have A7 := toS hA hs hh
    subst hi
    rcases j4 with ⟨e0, _, _⟩ | ⟨e0, eo, e, eh⟩
    · omega
    subst eo eh
    rw [q18]
    refine wpIn_seq ?_
    rw [q19]
    refine region_parts ?_
    rw [q20]
    show wpOpsIn Fence.wide k Tryz.prog (cOps r13) _ (List.range' 0 (1 + (2 + 1))) a' w'
    have hsz : (cOps r13).size = 4 := q20
    refine at_partW hG hC hX hK (N := 40) (fn := iText) (n := 1) (K := KH [(4, ou 1001 xs.length), (32, ou 1001 xs.length)] _) A7 (by omega) (by refine Eq.mpr (JT.wJ0 ..) ?_; repeat' (first | exact rfl | exact trivial | apply And.intro)) fun env1 h1 a1 w1 hk1 A8 => ?_
    obtain ⟨g1, g2, g3⟩ := hk1
    subst g3
    have A9 : At ρ (hI xs.length xs) W (S [(4, ou 1001 xs.length), (32, ou 1001 xs.length)] (hL e xs.length xs (strs xs xs.length))) a1 w1 := at_less A8 (hasT_get g1) (Nat.le_of_eq g2.symm) (fun _ _ h => h) rfl rfl
    obtain ⟨cJ, bJ⟩ := bodyJ
    refine at_call hG (i := 1) (m := 2) A9 pJ pJg (actJ2 _) isJ nameJ bJ (Good := fun v => v = V.str (textTo xs xs.length)) (fun ρ' cargs hS' ha' m' => hJ _ _ _ _ (Nat.le_refl _) hn j3 ρ' cargs _ hS' ha' m') (fun v => ⟨_, rfl⟩) fun v env2 a2 w2 hv hput A10 => ?_
    subst hv
    rw [pJd] at hput
    cases hput
    have A11 : At ρ (hI xs.length xs) W (S [(33, .str (textTo xs xs.length))] (hL e xs.length xs (strs xs xs.length))) a2 w2 := at_less A10 (hasT_get ⟨rfl, trivial⟩) (Nat.le_refl _) (fun _ _ h => h) rfl rfl
    show wpOpsIn Fence.wide k Tryz.prog (cOps r13) _ (List.range' 2 (2 + 0)) a2 w2
    refine at_partW hG hC hX hK (N := 40) (fn := iText) (n := 2) (K := KH [(2, .str (textTo xs xs.length)), (3, .int .i64 (Int.ofNat 0))] _) A11 (by omega) (by refine Eq.mpr (JT.wJ2 ..) ?_; repeat' (first | exact rfl | exact trivial | apply And.intro)) fun env3 h3 a3 w3 hk3 A12 => ?_
    obtain ⟨g1, g2, g3⟩ := hk3
    subst g3
    have A13 : At ρ (hI xs.length xs) W (S [(2, .str (textTo xs xs.length)), (3, .int .i64 (Int.ofNat 0))] (hL e xs.length xs (strs xs xs.length))) a3 w3 := at_less A12 (hasT_get g1) (Nat.le_of_eq g2.symm) (fun _ _ h => h) rfl rfl
    show Code.wpIn Fence.wide k Tryz.prog .ret _ a3 w3
    refine at_w hG hC hX hK (N := 40) (fn := iText) (K := fun x st => match x with | .ret => retIs (fun v => v = resV xs) st | _ => False) A13 (by refine Eq.mpr (JT.wJ3 ..) ?_; rw [res_good n0 (valid_of j3)]) rfl fun x st' a8 w8 hK8 A14 => ?_
    cases x with
    | normal => cases hK8
    | exit _ => cases hK8
    | ret => exact hq _ _ _ A14 hK8
  -- a round
  refine wpIn_seq (at_w hG hC hX hK (N := 40) (fn := iText) A6 h6 (by kernel_rfl) fun x st6 a6 w6 k6 A7 => ?_)
  have outs : ∀ {j : Nat} {st : St} {a' : Act} {w' : World}, K2 (inv xs.length c o (lastF xs i) (Int.ofNat i)) [(4, o)] h (i < xs.length) (i = xs.length) (.exit j) st → j = 0 ∧ i = xs.length ∧ hasS [(4, o)] st ∧ st.h = h := by
    intro j st a' w' hk
    obtain ⟨e1, e2, e3, e4⟩ := hk
    rw [T.beq_true] at e2
    exact ⟨e2, e1, e3, e4⟩
  cases x with
  | ret => cases k6
  | exit j =>
    obtain ⟨e1, e2, e3, e4⟩ := outs (a' := a6) (w' := w6) k6
    subst e1
    simp only [XE, Exit.then, Exit.inBlock, if_true]
    exact fin e2 e3 e4 A7 fun st a w A r => out A r fun v hv => hv
  | normal =>
  show Code.wpIn Fence.wide k Tryz.prog b1 _ a6 w6
  rw [q9]
  refine wpIn_seq (at_w hG hC hX hK (N := 40) (fn := iText) A7 k6 (by kernel_rfl) fun x st7 a7 w7 k7 A8 => ?_)
  cases x with
  | ret => cases k7
  | exit j =>
    obtain ⟨e1, e2, e3, e4⟩ := outs (a' := a7) (w' := w7) k7
    subst e1
    simp only [XE, Exit.then, Exit.inBlock, if_true]
    exact fin e2 e3 e4 A8 fun st a w A r => out A r fun v hv => hv
  | normal =>
  obtain ⟨hlt, k71, k72⟩ := k7
  have A8 := toS A8 k71 k72
  show Code.wpIn Fence.wide k Tryz.prog b2 _ a7 w7
  rw [q10]
  refine wpIn_seq ?_
  rw [q11]
  refine wpIn_block ?_
  rw [q12]
  have tst : evL G0 sp 40 iText [r7, y8] (K3 xs.length c o (Int.ofNat i) h (bad xs) (good xs i)) (S (inv xs.length c o (lastF xs i) (Int.ofNat i)) h) := by
    rcases j4 with ⟨_, _, e3⟩ | ⟨_, _, e, e3⟩
    · subst e3; exact test0 hlt j3
    · subst e3; exact tests' hlt j3
  refine wpIn_seq (at_w hG hC hX hK (N := 40) (fn := iText) A8 tst (by kernel_rfl) fun x st8 a8 w8 k8 A9 => ?_)
  cases x with
  | exit _ => cases k8
  | ret => exact out A9 k8 fun v hv => by rw [hv.1, res_bad hv.2]
  | normal =>
  show Code.wpIn Fence.wide k Tryz.prog b5 _ a8 w8
  rw [q13]
  refine wpIn_seq (at_w hG hC hX hK (N := 40) (fn := iText) A9 k8 (by kernel_rfl) fun x st9 a9 w9 k9 A10 => ?_)
  cases x with
  | exit _ => cases k9
  | ret => exact out A10 k9 fun v hv => by rw [hv.1, res_bad hv.2]
  | normal =>
  have k9 : K3 xs.length c o (Int.ofNat i) h (bad xs) (good xs i) .normal st9 := k9
  simp only [K3] at k9
  split at k9
  · rename_i kd y hy
    obtain ⟨gd, hs9, hh9⟩ := k9
    have A11 := toS A10 hs9 (eqH_eq hh9)
    show Code.wpIn Fence.wide k Tryz.prog b6 _ a9 w9
    rw [q14]
    refine wpIn_seq ?_
    -- one text more
    have both : ∀ {Q : Exit → Act → World → Prop}, (∀ e a' w', At ρ (hI xs.length xs) W (S (inv7 xs.length c (ou 1001 (i + 1)) y (Int.ofNat i)) (hL e xs.length xs (strs xs (i + 1)))) a' w' → Q .normal a' w') → r10.wpIn Fence.wide k Tryz.prog Q a9 w9 := fun hq => by
      rcases j4 with ⟨e1, e2, e3⟩ | ⟨e1, e2, e, e3⟩
      · subst e1 e2 e3; exact first hG hC hX hK gd A11 hq
      · subst e2 e3; exact next hG hC hX hK hlt hn gd A11 hq
    refine both fun e a' w' A12 => ?_
    show Code.wpIn Fence.wide k Tryz.prog r11 _ a' w'
    refine at_w hG hC hX hK (N := 40) (fn := iText) (K := KD (inv xs.length c (ou 1001 (i + 1)) y (Int.ofNat i)) _) A12 (by refine Eq.mpr (JT.w11 ..) ?_; repeat' (first | exact rfl | exact trivial | apply And.intro)) ok5 fun x st10 a10 w10 k10 A13 => ?_
    cases x with
    | ret => cases k10
    | exit _ => cases k10
    | normal =>
    have A14 := toS A13 k10.1 k10.2
    show Code.wpIn Fence.wide k Tryz.prog r12 _ a10 w10
    refine at_w hG hC hX hK (N := 40) (fn := iText) (K := KD (inv xs.length c (ou 1001 (i + 1)) y (wr .i64 (Int.add (Int.ofNat i) (Int.ofNat 1)))) _) A14 (by refine Eq.mpr (JT.w12 ..) ?_; repeat' (first | exact rfl | exact trivial | apply And.intro)) ok6 fun x st11 a11 w11 k11 A15 => ?_
    cases x with
    | ret => cases k11
    | exit _ => cases k11
    | normal =>
    have A16 := toS A15 k11.1 k11.2
    have hw : wr .i64 (Int.add (Int.ofNat i) (Int.ofNat 1)) = Int.ofNat (i + 1) := by rw [iofn, iadd, wr64 (by simp only [iofn]; omega) (by simp only [iofn]; omega)]; rfl
    have el : lastF xs (i + 1) = y := by simp only [lastF, List.getD, gd.1, Option.getD_some]
    rw [hw, ← el] at A16
    refine ⟨xs.length - (i + 1), by omega, i + 1, _, _, rfl, by omega, fun q hq => ?_, .inr ⟨by omega, rfl, e, rfl⟩, A16⟩
    by_cases qi : q = i
    · subst qi; exact gd.2
    · exact j3 q (by omega)
  · cases k9
end JT
end Go.Proofs.YtgadijnefbmgkaaGreatDoor

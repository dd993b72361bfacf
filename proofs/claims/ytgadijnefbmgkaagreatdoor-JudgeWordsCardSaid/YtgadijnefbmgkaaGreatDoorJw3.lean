/- JudgeWords: whatever it is called with, it returns true. -/
import Derived.Test.YtgadijnefbmgkaaGreatDoorJw2
import Derived.Test.YtgadijnefbmgkaaGreatDoorWk
import Derived.Test.YtgadijnefbmgkaaGreatDoorJt11
namespace Go.Proofs.YtgadijnefbmgkaaGreatDoor
set_option maxRecDepth 100000
open Go.Ev Go.RowKit
namespace WT
noncomputable def fnT : Func := match Tryz.prog.funcs[iText]? with
  | some f => f
  | .none => default
theorem isT : Tryz.prog.funcs[iText]? = some fnT := by kernel_rfl
theorem nameT : fnT.name ≠ "runtime.NumGoroutine" := fun h => absurd (show (fnT.name == "runtime.NumGoroutine") = false by kernel_rfl) (by rw [h]; decide)
theorem bodyT : ∃ c, fnT.body = some c := Option.isSome_iff_exists.1 (show fnT.body.isSome = true by kernel_rfl)
theorem ret_out {st : St} (h : retIs (fun v => v = .bool true) st) : ∃ h2 v, takeAll st.defs st.h = some h2 ∧ resultsO G0 h2 st.env fn = some v ∧ v = .bool true := by
  unfold retIs at h
  split at h
  · split at h
    · exact ⟨_, _, by assumption, by assumption, h⟩
    · cases h
  · cases h
/-- Text of a row in memory -/
theorem text_row {xs : List Int} {n : Nat} (hl : xs.length = n) (h0 : 0 < n) (hn : n ≤ 30) {e e' : Option TypeId} {ρ : Ren} {W : World} (hS : Sim ρ (hR e e' (ints xs)) W) {cargs : Array Value} (ha : Rels ρ [ou 1001 n] cargs.toList) (k : Nat) :
    CallsIn Fence.wide k Tryz.prog iText cargs W (fun en w' => ∃ v, v = V.tuple [.str (resT xs), .int .i64 (resE xs)] ∧ Below W.heap.size W w' ∧ ∃ c, en = .returned c ∧ ∀ ρ, Rel ρ v c) := by
  have g1 : (hR e e' (ints xs)).tr.get 1001 = some (.cells e' (ints xs).length (ints xs) .leaf) := by simp only [hR, T.get_put, if_pos]
  have g2 : (hR e e' (ints xs)).tr.get gWords = some JT.roW := by
    have := gW_lt
    simp only [hR, T.get_put]
    rw [if_neg (by omega), get_bW (by omega)]
    rfl
  obtain ⟨L, c, l1, l2, l3⟩ := hS.live 1001 _ g1
  let ρ' : Ren := fun b => if b < 1000 then ρ b else if b = 1000 then some L else none
  have r1 : ∀ b, b < 1000 → ρ' b = ρ b := fun b hb => by simp [ρ', hb]
  have r2 : ρ' 1000 = some L := by simp [ρ']
  have hS' : Sim ρ' (JT.hI xs.length xs) W := by
    have get : ∀ b x, (JT.hI xs.length xs).tr.get b = some x → (b = 1000 ∧ x = JT.roB xs.length xs) ∨ (b = gWords ∧ x = JT.roW) := fun b x hb => by
      simp only [JT.hI, T.get_put, T.get_leaf] at hb
      split at hb
      · cases hb; exact .inl ⟨by assumption, rfl⟩
      · split at hb
        · cases hb; exact .inr ⟨by assumption, rfl⟩
        · cases hb
    have rg : ρ' gWords = ρ gWords := r1 _ gW_lt
    refine ⟨fun g hg => by rw [r1 g hg]; exact hS.glob g hg, fun b M hb => ?_, fun b x hb => ?_, fun b b' x x' M M' hb hb' hM hM' q => ?_⟩
    · show b < 1001
      simp only [ρ'] at hb
      split at hb
      · omega
      · split at hb
        · omega
        · cases hb
    · rcases get b x hb with ⟨rfl, rfl⟩ | ⟨rfl, rfl⟩
      · refine ⟨L, c, r2, l2, ?_⟩
        obtain ⟨cs, el, lo, hi, q1, q2, q3, q4, q5, q6⟩ := l3
        rw [ints_len] at q3 q6
        exact ⟨cs, el, _, q1, q2, q3, fun e' h => (nomatch h), pure_rel (fun _ _ h => ints_pure h) q6⟩
      · obtain ⟨M, d, m1, m2, m3⟩ := hS.live gWords _ g2
        obtain ⟨cs, el, fr, q1, q2, q3, q5, q6⟩ := m3
        exact ⟨M, d, by rw [rg]; exact m1, m2, cs, el, fr, q1, q2, q3, q5, pure_rel (fun _ _ h => words_pure h) q6⟩
    · have hne : gWords ≠ 1001 := by have := gW_lt; omega
      rcases get b x hb with ⟨rfl, rfl⟩ | ⟨rfl, rfl⟩ <;> rcases get b' x' hb' with ⟨rfl, rfl⟩ | ⟨rfl, rfl⟩
      · rfl
      · rw [r2] at hM; cases hM
        rw [rg] at hM'
        exact absurd (hS.inj 1001 gWords _ _ _ _ g1 g2 l1 hM' q).symm hne
      · rw [r2] at hM'; cases hM'
        rw [rg] at hM
        exact absurd (hS.inj gWords 1001 _ _ _ _ g2 g1 hM l1 q) hne
      · rfl
  have ha' : Rels ρ' [JT.sl xs.length (.atl n 1)] cargs.toList := by
    obtain ⟨x, cs', e1, h1, e2⟩ := ha.uncons
    rw [e1, e2.of_nil]
    refine Rels.cons ?_ Rels.nil
    cases h1 with
    | sliceA q1 q2 q3 =>
      rw [l1] at q1
      cases q1
      rw [hl]
      exact .sliceA r2 q2 q3
    | sliceZ a => omega
  exact (JT.call joinOk (by omega) ha' hS' k).mono fun en w' ⟨c, h1, h2, h3⟩ => ⟨_, rfl, h2, c, h1, fun ρ2 => pureV_rel (v := resV xs) rfl h3⟩
theorem text_nil {ρ : Ren} {W : World} {cargs : Array Value} (ha : Rels ρ [.nils] cargs.toList) (k : Nat) :
    CallsIn Fence.wide k Tryz.prog iText cargs W (fun en w' => ∃ v, v = V.tuple [.str nothing, .int .i64 (Int.ofNat 0)] ∧ Below W.heap.size W w' ∧ ∃ c, en = .returned c ∧ ∀ ρ, Rel ρ v c) := by
  have ha' : Rels rE [.nils] cargs.toList := by
    obtain ⟨x, cs', e1, h1, e2⟩ := ha.uncons
    rw [e1, e2.of_nil]
    refine Rels.cons ?_ Rels.nil
    cases h1; exact .nils
  refine (call_w (mk_ok _).1 (mk_ok _).2 ext_none (kx_none _) textN ha' (sim_E W) k).mono fun en w' ⟨v, h', c, ρ', q1, q2, q3, q4, q5⟩ => ?_
  subst q1
  exact ⟨_, rfl, q4.below hE_ro, c, q2, fun ρ2 => pureV_rel (v := noneV) rfl q5⟩
theorem res_valid {xs : List Int} (h0 : 0 < xs.length) (hv : valid xs) : resT xs = txt xs ∧ resE xs = Int.ofNat 0 := by
  have h : V.tuple [.str (resT xs), .int .i64 (resE xs)] = V.tuple [.str (textTo xs xs.length), .int .i64 (Int.ofNat 0)] := res_good (by omega) hv
  simp only [V.tuple.injEq, List.cons.injEq, V.str.injEq, V.int.injEq, true_and, and_true] at h
  exact h
theorem res_not {xs : List Int} (hv : ¬ valid xs) : resT xs = [] ∧ resE xs = Int.ofNat 2 := by
  have h : V.tuple [.str (resT xs), .int .i64 (resE xs)] = V.tuple [.str [], .int .i64 (Int.ofNat 2)] := res_bad hv
  simp only [V.tuple.injEq, List.cons.injEq, V.str.injEq, V.int.injEq, true_and, and_true] at h
  exact h
section
variable {ρ : Ren} {W : World} {s y : Int} {cargs : Array Value}
/-- the end -/
theorem last (hG : GOk Tryz.prog GL) (hC : Codes GL) (hX : ExtOK Tryz.prog GL) (hK : ∀ r, KxOK GL (sp r).kx) {xs : List Int} {w : List UInt8} {e e' : Option TypeId} {Q : Exit → Act → World → Prop} {kk : Nat} {a : Act} {w1 : World} (hv : valid xs)
    (hA : At ρ (hVars gs 1000) W (S [(1, .int .i64 y), (7, .str w), (9, .str w), (10, .int .i64 (Int.ofNat 0)), (11, .int .i64 (lastF xs xs.length)), (12, .str (resT (xs ++ [y]))), (13, .int .i64 (resE (xs ++ [y])))] (hR e e' (ints (xs ++ [y])))) a w1)
    (hQ : ∀ st a w, At ρ (hVars gs 1000) W st a w → retIs (fun v => v = .bool true) st → Q .ret a w) : x10.wpIn Fence.wide kk Tryz.prog Q a w1 := by
  have fin : ∀ {st : St} {a' : Act} {w' : World}, hasS [(4, .bool true)] st → At ρ (hVars gs 1000) W st a' w' → Code.wpIn Fence.wide kk Tryz.prog .ret Q a' w' := fun {st a' w'} hs A => by
    have A2 : At ρ (hVars gs 1000) W (S [(4, .bool true)] st.h) a' w' := at_less A (hasT_get hs.1) (Nat.le_of_eq hs.2.1.symm) (fun _ _ h => h) rfl (noDefs_eq hs.2.2).symm
    refine at_w hG hC hX (hK true) (N := 40) (fn := iWords) (K := fun x st => match x with | .ret => retIs (fun v => v = .bool true) st | _ => False) A2 (Eq.mpr (WT.wRet ..) rfl) rfl fun x st8 a8 w8 k8 A16 => ?_
    cases x with
    | normal => cases k8
    | exit _ => cases k8
    | ret => exact hQ _ _ _ A16 k8
  have sub : ∀ b x, (hV e 1002).tr.get b = some x → (hR e e' (ints (xs ++ [y]))).tr.get b = some x := fun b x h => by
    have := (base_ok (e := e) (Nat.le_refl 1001) b x h).1
    simp only [hR, T.get_put]
    rw [if_neg (by omega)]
    exact h
  rw [q19]
  by_cases q : lastF xs xs.length < y ∧ y ≤ 11
  · obtain ⟨r1, r2⟩ := res_valid (xs := xs ++ [y]) (by simp) (valid_snoc hv q.1 q.2)
    rw [r2] at hA
    have A1 : At ρ (hVars gs 1000) W (S [(1, .int .i64 y), (7, .str w), (9, .str w), (10, .int .i64 (Int.ofNat 0)), (11, .int .i64 (lastF xs xs.length)), (12, .str (resT (xs ++ [y]))), (13, .int .i64 (Int.ofNat 0))] (hV e 1002)) a w1 := at_less hA (fun _ _ h => h) (Nat.le_refl _) sub rfl rfl
    refine wpIn_seq (at_w hG hC hX (hK true) (N := 40) (fn := iWords) A1 (Eq.mpr (WT.w19g ..) ⟨fun _ => ⟨fun _ => ?_, fun q2 => ?_⟩, fun q2 => ?_⟩) ok19 fun x st a2 w2 k2 A2 => ?_)
    · repeat' (first | exact rfl | exact trivial | apply And.intro)
    · have := ilt_t.1 (not_f.1 q2); simp only [iofn] at this; omega
    · have := ilt_f.1 q2; omega
    cases x with
    | ret => cases k2
    | exit _ => cases k2
    | normal =>
    have A3 := toS A2 k2.1 k2.2
    show Code.wpIn Fence.wide kk Tryz.prog x11 _ a2 w2
    rw [q20]
    have A4 : At ρ (hVars gs 1000) W (S [(7, .str w), (9, .str w), (10, .int .i64 (Int.ofNat 0)), (12, .str (resT (xs ++ [y]))), (13, .int .i64 (Int.ofNat 0)), (14, .bool true)] (hV e 1002)) a2 w2 := at_less A3 (hasT_get ⟨rfl, rfl, rfl, rfl, rfl, rfl, trivial⟩) (Nat.le_refl _) (fun _ _ h => h) rfl rfl
    refine wpIn_seq (at_w hG hC hX (hK true) (N := 40) (fn := iWords) A4 (Eq.mpr (WT.w20g ..) ?_) ok20 fun x st a3 w3 k3 A5 => ?_)
    · repeat' (first | exact rfl | exact trivial | exact beq_self_eq_true _ | apply And.intro)
    cases x with
    | ret => cases k3
    | exit _ => cases k3
    | normal => exact fin k3.1 A5
  · obtain ⟨r1, r2⟩ := res_not (xs := xs ++ [y]) fun h => q (valid_last h)
    rw [r1, r2] at hA
    have A1 : At ρ (hVars gs 1000) W (S [(1, .int .i64 y), (7, .str w), (9, .str w), (10, .int .i64 (Int.ofNat 0)), (11, .int .i64 (lastF xs xs.length)), (12, .str []), (13, .int .i64 (Int.ofNat 2))] (hV e 1002)) a w1 := at_less hA (fun _ _ h => h) (Nat.le_refl _) sub rfl rfl
    refine wpIn_seq (at_w hG hC hX (hK true) (N := 40) (fn := iWords) A1 (Eq.mpr (WT.w19b ..) ⟨fun q1 => ⟨fun q2 => ?_, fun q2 => ?_⟩, fun q2 => ?_⟩) ok19 fun x st a2 w2 k2 A2 => ?_)
    · have h1 := ilt_t.1 q1
      have h2 := ilt_f.1 (not_t.1 q2)
      simp only [iofn] at h2
      exact absurd ⟨h1, by omega⟩ q
    · repeat' (first | exact rfl | exact trivial | apply And.intro)
    · repeat' (first | exact rfl | exact trivial | apply And.intro)
    cases x with
    | ret => cases k2
    | exit _ => cases k2
    | normal =>
    have A3 := toS A2 k2.1 k2.2
    show Code.wpIn Fence.wide kk Tryz.prog x11 _ a2 w2
    rw [q20]
    have A4 : At ρ (hVars gs 1000) W (S [(7, .str w), (9, .str w), (10, .int .i64 (Int.ofNat 0)), (12, .str []), (13, .int .i64 (Int.ofNat 2)), (14, .bool false)] (hV e 1002)) a2 w2 := at_less A3 (hasT_get ⟨rfl, rfl, rfl, rfl, rfl, rfl, trivial⟩) (Nat.le_refl _) (fun _ _ h => h) rfl rfl
    refine wpIn_seq (at_w hG hC hX (hK true) (N := 40) (fn := iWords) A4 (Eq.mpr (WT.w20b ..) ?_) ok20 fun x st a3 w3 k3 A5 => ?_)
    · repeat' (first | exact rfl | exact trivial | exact beq_self_eq_true _ | apply And.intro)
    cases x with
    | ret => cases k3
    | exit _ => cases k3
    | normal => exact fin k3.1 A5
end
end WT
end Go.Proofs.YtgadijnefbmgkaaGreatDoor

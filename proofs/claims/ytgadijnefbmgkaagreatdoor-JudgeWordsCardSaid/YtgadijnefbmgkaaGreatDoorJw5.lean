/- JudgeWords: whatever it is called with, it returns true. -/
import Derived.Test.YtgadijnefbmgkaaGreatDoorJw4
namespace Go.Proofs.YtgadijnefbmgkaaGreatDoor
set_option maxRecDepth 100000
open Go.Ev Go.RowKit
namespace WT
section
variable {ρ : Ren} {W : World} {y : Int}
variable (hG : GOk Tryz.prog GL) (hC : Codes GL) (hX : ExtOK Tryz.prog GL) (hK : ∀ r, KxOK GL (sp r).kx)
include hG hC hX hK
/-- behind the loop -/
theorem behind {xs : List Int} {o : V} {h : H} {e : Option TypeId} {Q : Exit → Act → World → Prop} {kk : Nat} {a : Act} {w1 : World} (hv : valid xs) (hR' : Row e xs o h)
    (hA : At ρ (hVars gs 1000) W (S [(6, o), (1, .int .i64 y), (7, .str (txt xs))] h) a w1)
    (hQ : ∀ st a w, At ρ (hVars gs 1000) W st a w → retIs (fun v => v = .bool true) st → Q .ret a w) : x5.wpIn Fence.wide kk Tryz.prog Q a w1 := by
  rw [q5]
  rcases hR' with ⟨e1, e2, e3⟩ | ⟨e1, e2, e', e3⟩
  · subst e1 e2 e3
    have A0 : At ρ (hVars gs 1000) W (S [(6, .nils), (1, .int .i64 y), (7, .str [])] (hW e)) a w1 := hA
    refine wpIn_seq (at_w hG hC hX (hK false) (N := 40) (fn := iWords) (K := KD [(6, .nils), (1, .int .i64 y), (7, .str nothing)] (hW e)) A0 (by refine Eq.mpr (WT.w12A ..) ?_; repeat' (first | exact rfl | exact trivial | apply And.intro)) ok12 fun x st a2 w2 k2 A2 => ?_)
    cases x with
    | ret => cases k2
    | exit _ => cases k2
    | normal =>
    have A3 := toS A2 k2.1 k2.2
    show Code.wpIn Fence.wide kk Tryz.prog x6 _ a2 w2
    rw [q6]
    refine wpIn_seq (call14 hG hC hX hK A3 (fun ρ cargs W _ ha k => text_nil ha k) fun a3 w3 A4 => ?_)
    show Code.wpIn Fence.wide kk Tryz.prog x7 _ a3 w3
    rw [cut15]
    refine JT.at_list hG hC hX (hK false) (N := 40) (fn := iWords) (K := KD [(6, .nils), (1, .int .i64 y), (7, .str nothing), (9, .str nothing), (10, .int .i64 (Int.ofNat 0)), (11, .int .i64 (Int.ofNat 0))] (hW e)) (rest := x9) (fun st a4 w4 k4 A5 => ?_) (fun x st a4 w4 hx k4 _ => ?_) A4 (by refine Eq.mpr (WT.w15A ..) ?_; repeat' (first | exact rfl | exact trivial | apply And.intro)) ok15
    · have A6 := toS A5 k4.1 k4.2
      rw [q9]
      refine wpIn_seq (r18_nil hG hC hX hK A6 fun e2 a5 w5 A7 => ?_)
      exact last hG hC hX hK (xs := []) (fun k x h => by simp at h) A7 hQ
    · cases x with
      | normal => exact absurd rfl hx
      | ret => cases k4
      | exit _ => cases k4
  · subst e2 e3
    obtain ⟨r1, r2⟩ := res_valid e1 hv
    have li : (ints xs).length = xs.length := ints_len xs
    refine wpIn_seq (at_w hG hC hX (hK true) (N := 40) (fn := iWords) (K := KD [(6, ou 1001 xs.length), (1, .int .i64 y), (7, .str (txt xs))] (hR e e' (ints xs))) hA ?_ ok12 fun x st a2 w2 k2 A2 => ?_)
    · refine Eq.mpr (WT.w12B ..) ⟨fun q => ?_, fun q => ?_⟩
      · have := ieq_t.1 q; simp only [iofn] at this; omega
      · repeat' (first | exact rfl | exact trivial | apply And.intro)
    cases x with
    | ret => cases k2
    | exit _ => cases k2
    | normal =>
    have A3 := toS A2 k2.1 k2.2
    show Code.wpIn Fence.wide kk Tryz.prog x6 _ a2 w2
    rw [q6]
    have l11 := len11 hv
    refine wpIn_seq (call14 hG hC hX hK (t := resT xs) (f := resE xs) A3 (fun ρ cargs W hS ha k => text_row rfl e1 (by omega) hS ha k) fun a3 w3 A4 => ?_)
    rw [r1, r2] at A4
    show Code.wpIn Fence.wide kk Tryz.prog x7 _ a3 w3
    rw [cut15]
    obtain ⟨m, hm⟩ : ∃ m, xs.length = m + 1 := ⟨xs.length - 1, by omega⟩
    have hw : wr .i64 (Int.sub (Int.ofNat xs.length) (Int.ofNat 1)) = Int.ofNat m := by
      rw [isub, iofn, iofn, wr64 (by omega) (by omega), hm]
      simp only [Int.ofNat_eq_natCast]; omega
    have hc : cell (ints xs).length (ints xs) T.leaf (Nat.add 0 (m.mul 1)) = some (.int .i64 (lastF xs xs.length)) := by
      rw [li]; exact cell_ints.2 (last_get hm)
    refine JT.at_list hG hC hX (hK true) (N := 40) (fn := iWords) (K := KE [(6, ou 1001 xs.length), (1, .int .i64 y), (7, .str (txt xs)), (9, .str (txt xs)), (10, .int .i64 (Int.ofNat 0)), (11, .int .i64 (lastF xs xs.length))] (hR e e' (ints xs))) (rest := x9) (fun st a4 w4 k4 A5 => ?_) (fun x st a4 w4 hx k4 _ => ?_) A4 ?_ ok15
    · have A6 := toS A5 k4.1 (JT.eqH_eq k4.2)
      rw [q9]
      refine wpIn_seq (r18_row hG hC hX hK e1 hv A6 fun e2 a5 w5 A7 => ?_)
      exact last hG hC hX hK hv A7 hQ
    · cases x with
      | normal => exact absurd rfl hx
      | ret => cases k4
      | exit _ => cases k4
    · refine Eq.mpr (WT.w15B ..) ?_
      rw [hw]
      refine ⟨fun _ => ⟨rfl, ilt_t.2 (by simp only [iofn]; omega), ⟨_, hc⟩, all_int hc ?_⟩, fun q => ?_⟩
      · repeat' (first | exact rfl | exact trivial | apply And.intro)
      · have := ilt_f.1 q; simp only [iofn] at this; omega
end
theorem wr_u64s {i : Nat} (h : i ≤ 11) : wr .u64 (Int.ofNat i) = Int.ofNat i := by
  have : ∀ i : Nat, i < 12 → wr .u64 (Int.ofNat i) = Int.ofNat i := by decide
  exact this i (by omega)
/-- the law -/
theorem call {s y : Int} {W : World} (hV : VarsOk gs W) (k : Nat) : CallsIn Fence.wide k Tryz.prog iWords #[.int .u16 s, .int .i64 y] W (fun en w' => en = .returned (.bool true) ∧ Below W.heap.size W w') := by
  have hG : GOk Tryz.prog GL := (mk_ok _).1
  have hC : Codes GL := (mk_ok _).2
  have hK : ∀ r, KxOK GL (sp r).kx := fun _ => kx_none _
  have hX := GL_x
  have hG0 : GOk Tryz.prog G0 := (mk_ok _).1
  have hS := sim_vars hV (Nat.le_refl 1000)
  generalize rVars (roomOf W) = ρ at hS
  have ha : Rels ρ [.int .u16 s, .int .i64 y] (#[.int .u16 s, .int .i64 y] : Array Value).toList := Rels.cons (.int _ _) (Rels.cons (.int _ _) Rels.nil)
  have out : ∀ {st : St} {a' : Act} {w' : World}, At ρ (hVars gs 1000) W st a' w' → retIs (fun v => v = .bool true) st → LeavesInM Fence.wide k Tryz.prog fn a'.tmps (fun en w' => en = .returned (.bool true) ∧ Below W.heap.size W w') a'.defers .returning w' := by
    intro st a' w' A hr
    obtain ⟨h2, v, e1, e2, e3⟩ := ret_out hr
    subst e3
    obtain ⟨ρ', s1, s2, s3, s4⟩ := A
    exact body_out (n := k) hG0 e1 e2 s2 s1 s3 s4 fun c w2 c1 c2 c3 => ⟨by cases c1; rfl, c3.below (hVars_ro _ _)⟩
  refine callsIn_of_wp_marks isFn body trivial ?_
  rw [tmps]
  have hen := at_enter hS ha (n := 101) (show 2 ≤ 101 by decide)
  have A0 : At ρ (hVars gs 1000) W (S [(0, .int .u16 s), (1, .int .i64 y)] (hVars gs 1000)) _ W := at_less hen (hasT_get ⟨rfl, rfl, trivial⟩) (Nat.le_refl _) (fun _ _ h => h) rfl rfl
  rw [cut]
  refine JT.at_list hG hC hX (hK false) (N := 40) (fn := iWords) (K := K0 [(6, .nils), (0, .int .u16 s), (1, .int .i64 y), (5, .ptr 1000 0), (7, .str [])]) (rest := x4) (fun st a1 w1 k1 A1 => ?_) (fun x st a1 w1 hx k1 _ => ?_) A0 (by rw [w0]; repeat' (first | exact rfl | exact trivial | apply And.intro)) ok0
  rotate_left
  · cases x with
    | normal => exact absurd rfl hx
    | ret => cases k1
    | exit _ => cases k1
  obtain ⟨g1, g2, g3, g4, g5⟩ := k1
  obtain ⟨e, ob, p1, p2, p3⟩ := isC_o g5
  have A2 := at_shape A1 (h := hW e) g2.symm fun b x hx => by
    rcases bW_get hx with ⟨rfl, rfl⟩ | ⟨hne, hx⟩
    · exact ⟨ob, p1, p2, p3⟩
    · rcases gs_get hx with ⟨rfl, _⟩ | ⟨rfl, _⟩
      · exact ⟨x, g3.trans hx, id, fun _ _ _ h => h⟩
      · exact ⟨x, g4.trans hx, id, fun _ _ _ h => h⟩
  have A3 : At ρ (hVars gs 1000) W (S [(6, .nils), (0, .int .u16 s), (1, .int .i64 y), (5, .ptr 1000 0), (7, .str [])] (hW e)) a1 w1 := at_less A2 (hasT_get g1.1) (Nat.le_of_eq g1.2.1.symm) (fun _ _ h => h) rfl (noDefs_eq g1.2.2).symm
  rw [q4]
  refine wpIn_seq ?_
  rw [qz]
  refine wpIn_seq (at_w hG hC hX (hK false) (N := 40) (fn := iWords) (K := KD (inv s y .nils [] (Int.ofNat 1)) (hW e)) A3 (by refine Eq.mpr (WT.w4 ..) ?_; repeat' (first | exact rfl | exact trivial | apply And.intro)) ok4 fun x st2 a2 w2 k2 A4 => ?_)
  cases x with
  | ret => cases k2
  | exit _ => cases k2
  | normal =>
  have A5 := toS A4 k2.1 k2.2
  show Code.wpIn Fence.wide k Tryz.prog bl _ a2 w2
  rw [qb]
  refine wpIn_block ?_
  rw [ql]
  refine wpIn_loop_down (fun m a' w' => ∃ i xs o h, m = 12 - i ∧ 1 ≤ i ∧ i ≤ 12 ∧ valid xs ∧ lastF xs xs.length < (i : Int) ∧ Row e xs o h ∧ At ρ (hVars gs 1000) W (S (inv s y o (txt xs) (Int.ofNat i)) h) a' w') (fun m a' w' hJ => ?_) (m := 11) ⟨1, [], .nils, hW e, rfl, by omega, by omega, fun k x h => by simp at h, by simp [lastF], .inl ⟨rfl, rfl, rfl⟩, A5⟩
  obtain ⟨i, xs, o, h, j1, j2, j3, j4, j5, j6, A6⟩ := hJ
  rw [qd]
  refine wpIn_seq (at_w hG hC hX (hK false) (N := 40) (fn := iWords) (K := K5 (inv s y o (txt xs) (Int.ofNat i)) h (i ≤ 11) (i = 12)) A6 ?_ ok5 fun x st6 a6 w6 k6 A7 => ?_)
  · refine Eq.mpr (WT.w5 ..) ⟨fun q => ⟨?_, ?_⟩, fun q => ⟨?_, ?_⟩⟩
    · have := ilt_f.1 (not_t.1 q); simp only [iofn] at this; omega
    · repeat' (first | exact rfl | exact trivial | apply And.intro)
    · have := ilt_t.1 (not_f.1 q); simp only [iofn] at this; omega
    · repeat' (first | exact rfl | exact trivial | apply And.intro)
  cases x with
  | ret => cases k6
  | exit n =>
    obtain ⟨e1, e2, e3, e4⟩ := k6
    rw [T.beq_true] at e2
    subst e2
    simp only [XE, Exit.then, Exit.inBlock, if_true]
    have A8 := toS A7 e3 e4
    have A9 : At ρ (hVars gs 1000) W (S [(6, o), (1, .int .i64 y), (7, .str (txt xs))] h) a6 w6 := at_less A8 (hasT_get ⟨rfl, rfl, rfl, trivial⟩) (Nat.le_refl _) (fun _ _ h => h) rfl rfl
    exact behind hG hC hX hK j4 j6 A9 fun st a w A r => out A r
  | normal =>
    obtain ⟨e1, e3, e4⟩ := k6
    have A8 := toS A7 e3 e4
    have next : ∀ {xs' o' h' a7 w7}, valid xs' → lastF xs' xs'.length < ((i + 1 : Nat) : Int) → Row e xs' o' h' → At ρ (hVars gs 1000) W (S (inv s y o' (txt xs') (Int.ofNat i)) h') a7 w7 → r6.wpIn Fence.wide k Tryz.prog (Exit.then (fun a' w' => ∃ m' , m' < m ∧ ∃ i xs o h, m' = 12 - i ∧ 1 ≤ i ∧ i ≤ 12 ∧ valid xs ∧ lastF xs xs.length < (i : Int) ∧ Row e xs o h ∧ At ρ (hVars gs 1000) W (S (inv s y o (txt xs) (Int.ofNat i)) h) a' w') (fun _ _ _ => True)) a7 w7 → True := fun _ _ _ _ _ => trivial
    show Code.wpIn Fence.wide k Tryz.prog b1 _ a6 w6
    rw [q1]
    refine wpIn_seq ?_
    rw [q3]
    refine wpIn_block ?_
    rw [q7]
    refine wpIn_seq (at_w hG hC hX (hK false) (N := 40) (fn := iWords) (K := K7 (inv s y o (txt xs) (Int.ofNat i)) h) A8 ?_ ok7 fun x st7 a7 w7 k7 A9 => ?_)
    · refine Eq.mpr (WT.w7 ..) ?_
      rw [wr_u64s e1]
      refine ⟨rfl, ilt_t.2 (by simp only [iofn]; omega), ?_⟩
      repeat' (first | exact rfl | exact trivial | apply And.intro | intro)
    cases x with
    | ret => cases k7
    | exit _ => cases k7
    | normal =>
    unfold K7 at k7
    simp only at k7
    split at k7
    · rename_i b hb
      obtain ⟨k8, k9⟩ := k7
      have A10 := toS A9 k8 k9
      show Code.wpIn Fence.wide k Tryz.prog c7 _ a7 w7
      rw [q7c]
      -- behind the round's block
      have tail : ∀ {xs' o' h' a8 w8}, valid xs' → lastF xs' xs'.length < ((i + 1 : Nat) : Int) → Row e xs' o' h' → At ρ (hVars gs 1000) W (S (inv s y o' (txt xs') (Int.ofNat i)) h') a8 w8 → ∀ {Q : Exit → Act → World → Prop}, (∀ a' w', (∃ i xs o h, 12 - (i : Nat) < m ∧ 1 ≤ i ∧ i ≤ 12 ∧ valid xs ∧ lastF xs xs.length < (i : Int) ∧ Row e xs o h ∧ At ρ (hVars gs 1000) W (S (inv s y o (txt xs) (Int.ofNat i)) h) a' w') → Q .normal a' w') → r6.wpIn Fence.wide k Tryz.prog Q a8 w8 := by
        intro xs' o' h' a8 w8 v1 v2 v3 A11 Q hq
        refine at_w hG hC hX (hK false) (N := 40) (fn := iWords) (K := KD (inv s y o' (txt xs') (wr .i64 (Int.add (Int.ofNat i) (Int.ofNat 1)))) h') A11 (by refine Eq.mpr (WT.w6 ..) ?_; repeat' (first | exact rfl | exact trivial | apply And.intro)) ok6 fun x st9 a9 w9 k10 A12 => ?_
        cases x with
        | ret => cases k10
        | exit _ => cases k10
        | normal =>
        have A13 := toS A12 k10.1 k10.2
        have hw : wr .i64 (Int.add (Int.ofNat i) (Int.ofNat 1)) = Int.ofNat (i + 1) := by rw [iofn, iadd, wr64 (by simp only [iofn]; omega) (by simp only [iofn]; omega)]; rfl
        rw [hw] at A13
        exact hq _ _ ⟨i + 1, xs', o', h', by omega, by omega, by omega, v1, v2, v3, A13⟩
      have done : ∀ {a8 w8}, (∃ i xs o h, 12 - (i : Nat) < m ∧ 1 ≤ i ∧ i ≤ 12 ∧ valid xs ∧ lastF xs xs.length < (i : Int) ∧ Row e xs o h ∧ At ρ (hVars gs 1000) W (S (inv s y o (txt xs) (Int.ofNat i)) h) a8 w8) → ∃ m', m' < m ∧ ∃ i xs o h, m' = 12 - i ∧ 1 ≤ i ∧ i ≤ 12 ∧ valid xs ∧ lastF xs xs.length < (i : Int) ∧ Row e xs o h ∧ At ρ (hVars gs 1000) W (S (inv s y o (txt xs) (Int.ofNat i)) h) a8 w8 := fun ⟨i, xs, o, h, q, r⟩ => ⟨12 - i, q, i, xs, o, h, rfl, r⟩
      refine at_cond A9 (c := .tmp 25) (b := b) hb (fun hb1 => ?_) (fun hb2 => ?_)
      · refine step hG hC hX hK rfl ⟨j2, e1⟩ j4 j6 A10 fun o' h' a8 w8 hR2 A11 => ?_
        exact tail (valid_snoc j4 j5 (by omega)) (by rw [lastF_snoc]; omega) hR2 A11 fun a' w' hh => done hh
      · refine at_w hG hC hX (hK false) (N := 1) (fn := iWords) (K := fun x st => match x with | .normal => st = S (inv s y o (txt xs) (Int.ofNat i)) h | _ => False) A10 rfl rfl fun x st8 a8 w8 k10 A11 => ?_
        cases x with
        | ret => cases k10
        | exit _ => cases k10
        | normal =>
        cases k10
        exact tail j4 (by omega) j6 A11 fun a' w' hh => done hh
    · cases k7
end WT
end Go.Proofs.YtgadijnefbmgkaaGreatDoor

/- JudgeWords: memory; one round of its loop. -/
import Derived.Test.YtgadijnefbmgkaaGreatDoorJw1
namespace Go.Proofs.YtgadijnefbmgkaaGreatDoor
set_option maxRecDepth 100000
open Go.Ev Go.RowKit
namespace WT
theorem pure_okB {m : Nat} {v : V} (h : pureS v = true) : okB m v = true := by
  cases v <;> first
    | exact h
    | (simp [pureS] at h; done)
theorem gs_get {b : Nat} {x : O} (h : (varsT gs).get b = some x) : (b = iLetters ∧ x = .ro none 4 (bytesV letters) .leaf) ∨ (b = gWords ∧ x = JT.roW) := by
  obtain ⟨l, h1, h2⟩ := varsT_get h
  simp only [gs, List.mem_cons, Prod.mk.injEq, List.not_mem_nil, or_false] at h1
  rcases h1 with ⟨rfl, rfl⟩ | ⟨rfl, rfl⟩
  · exact .inl ⟨rfl, h2⟩
  · exact .inr ⟨rfl, h2⟩
theorem bW_get {e : Option TypeId} {b : Nat} {x : O} (h : (bW e).get b = some x) : (b = 1000 ∧ x = oW e) ∨ (b ≠ 1000 ∧ (varsT gs).get b = some x) := by
  simp only [bW, T.get_put] at h
  split at h
  · cases h; exact .inl ⟨by assumption, rfl⟩
  · exact .inr ⟨by assumption, h⟩
theorem iL_lt : iLetters < 1000 := by decide
theorem gW_lt : gWords < 1000 := by decide
theorem ok_words {m n : Nat} {e : Option TypeId} : okO m (.cells e n words .leaf) := fun _ _ h => pure_okB (words_pure h)
theorem ok_ints {m n : Nat} {e : Option TypeId} {xs : List Int} : okO m (.cells e n (ints xs) .leaf) := fun _ _ h => pure_okB (ints_pure h)
theorem base_ok {e : Option TypeId} {m : Nat} (hm : 1001 ≤ m) (b : Nat) (x : O) (h : (bW e).get b = some x) : b < m ∧ okO m x := by
  rcases bW_get h with ⟨rfl, rfl⟩ | ⟨_, h⟩
  · exact ⟨by omega, ok_words⟩
  · rcases gs_get h with ⟨rfl, rfl⟩ | ⟨rfl, rfl⟩
    · exact ⟨by have := iL_lt; omega, fun i v hv => pure_okB (by
        have := List.mem_of_getElem? (cell_pat hv).2
        simp only [bytesV, List.mem_map] at this
        obtain ⟨n, _, rfl⟩ := this
        rfl)⟩
    · exact ⟨by have := gW_lt; omega, fun i v hv => pure_okB (words_pure hv)⟩
theorem get_bW {e : Option TypeId} {b : Nat} (h : b ≠ 1000) : (bW e).get b = (varsT gs).get b := by
  simp only [bW, T.get_put]
  rw [if_neg h]
theorem toS {ρ0 : Ren} {h0 : H} {w0 : World} {st : St} {a : Act} {w : World} (hA : At ρ0 h0 w0 st a w) {l : List (Nat × V)} {h : H} (hs : hasS l st) (hh : st.h = h) : At ρ0 h0 w0 (S l h) a w := by
  subst hh
  exact at_less hA (hasT_get hs.1) (Nat.le_of_eq hs.2.1.symm) (fun _ _ q => q) rfl (noDefs_eq hs.2.2).symm
theorem toE {ρ0 : Ren} {h0 : H} {w0 : World} {env : Env} {h' : H} {a : Act} {w : World} (hA : At ρ0 h0 w0 ⟨env, h', []⟩ a w) {l : List (Nat × V)} {h : H} (h1 : hasT env l) (h2 : env.sz = 101) (hh : h' = h) : At ρ0 h0 w0 (S l h) a w := by
  subst hh
  exact at_less hA (hasT_get h1) (Nat.le_of_eq h2.symm) (fun _ _ q => q) rfl rfl
theorem isC_o {L : List V} {x : Option O} (h : isC L x) : ∃ e o, x = some o ∧ ((O.cells e L.length L .leaf).rw = true → o.rw = true) ∧ ∀ ρ M c, ORel ρ o M c → ORel ρ (.cells e L.length L .leaf) M c := by
  unfold isC at h
  split at h
  · rename_i e n pat tr
    obtain ⟨h1, h2⟩ := h
    rw [T.beq_true] at h1
    subst h1
    refine ⟨e, _, rfl, fun _ => rfl, fun ρ M c hc => orel_cells (fun i u hu => ?_) hc⟩
    have := (gather_spec h2).2 i u (cell_leaf hu)
    rwa [Nat.zero_add] at this
  · cases h
/-- the text of a list of numbers -/
noncomputable def txt (xs : List Int) : List UInt8 := textTo xs xs.length
theorem txt_snoc (xs : List Int) (x : Int) : txt (xs ++ [x]) = if xs.length = 0 then txt xs ++ wordF x else txt xs ++ sep ++ wordF x := by
  have h1 : (xs ++ [x])[xs.length]? = some x := by simp
  have h2 := textTo_succ h1
  have h3 : textTo (xs ++ [x]) xs.length = txt xs := by
    unfold txt textTo
    rw [List.take_left', List.take_length]
    rfl
  unfold txt
  rw [List.length_append, List.length_singleton, h2, h3]
  rfl
theorem lastF_snoc (xs : List Int) (x : Int) : lastF (xs ++ [x]) (xs ++ [x]).length = x := by
  rw [List.length_append, List.length_singleton]
  simp [lastF]
theorem last_get {xs : List Int} {k : Nat} (hk : xs.length = k + 1) : xs[k]? = some (lastF xs xs.length) := by
  rw [hk]
  have : xs[k]? = some xs[k] := List.getElem?_eq_getElem (by omega)
  simp only [lastF, List.getD, this, Option.getD_some]
theorem valid_snoc {xs : List Int} {x : Int} (hv : valid xs) (h1 : lastF xs xs.length < x) (h2 : x ≤ 11) : valid (xs ++ [x]) := by
  intro k z hz
  rcases Nat.lt_or_ge k xs.length with q | q
  · rw [List.getElem?_append_left q] at hz
    obtain ⟨a, b, c⟩ := hv k z hz
    refine ⟨a, b, fun m u hm hu => c m u hm ?_⟩
    rw [List.getElem?_append_left (by omega)] at hu
    exact hu
  · have hk := (List.getElem?_eq_some_iff.1 hz).1
    rw [List.length_append, List.length_singleton] at hk
    have e : k = xs.length := by omega
    subst e
    simp at hz
    subst hz
    rcases hn : xs.length with _ | m
    · rw [hn] at h1
      simp only [lastF] at h1
      exact ⟨by omega, h2, fun m u hm _ => by omega⟩
    · have hl := last_get hn
      have hp := hv m _ hl
      refine ⟨by omega, h2, fun m' u hm hu => ?_⟩
      obtain rfl : m = m' := by omega
      rw [List.getElem?_append_left (by omega), hl] at hu
      cases hu
      exact h1
theorem valid_last {xs : List Int} {x : Int} (h : valid (xs ++ [x])) : lastF xs xs.length < x ∧ x ≤ 11 := by
  obtain ⟨a, b, c⟩ := h xs.length x (by simp)
  refine ⟨?_, b⟩
  rcases hn : xs.length with _ | m
  · simp only [lastF]; omega
  · have hl := last_get hn
    rw [← hn]
    exact c m _ hn (by rw [List.getElem?_append_left (by omega)]; exact hl)
theorem txt_len {xs : List Int} (hv : valid xs) : (txt xs).length ≤ 8 * xs.length := textTo_len (fun j _ => hv j) (Nat.le_refl _)
theorem len_le {xs : List Int} (hv : valid xs) : ∀ k, k < xs.length → ∀ x, xs[k]? = some x → (k : Int) + 1 ≤ x
  | 0, _, x, hx => (hv 0 x hx).1
  | k + 1, hk, x, hx => by
    have hz : xs[k]? = some xs[k] := List.getElem?_eq_getElem (by omega)
    have h1 := len_le hv k (by omega) _ hz
    have h2 := (hv (k + 1) x hx).2.2 k _ rfl hz
    omega
theorem len11 {xs : List Int} (hv : valid xs) : xs.length ≤ 11 := by
  rcases hn : xs.length with _ | m
  · omega
  · have hl := last_get hn
    have h1 := len_le hv m (by omega) _ hl
    have h2 := (hv m _ hl).2.1
    omega
/-- the row of numbers, in memory -/
def Row (e : Option TypeId) (xs : List Int) (o : V) (h : H) : Prop := (xs = [] ∧ o = .nils ∧ h = hW e) ∨ (0 < xs.length ∧ o = ou 1001 xs.length ∧ ∃ e', h = hR e e' (ints xs))
section
variable (hG : GOk Tryz.prog GL) (hC : Codes GL) (hX : ExtOK Tryz.prog GL) (hK : ∀ r, KxOK GL (sp r).kx)
include hG hC hX hK
theorem step {ρ0 : Ren} {h0 : H} {w0 : World} (e0 : h0.next = 1000) {s y : Int} {xs : List Int} {o : V} {h : H} {e : Option TypeId} {i kk : Nat} {Q : Exit → Act → World → Prop} {a : Act} {w : World} (hi : 1 ≤ i ∧ i ≤ 11) (hv : valid xs)
    (hR' : Row e xs o h) (hA : At ρ0 h0 w0 (S (inv s y o (txt xs) (Int.ofNat i)) h) a w)
    (hQ : ∀ o' h' a' w', Row e (xs ++ [Int.ofNat i]) o' h' → At ρ0 h0 w0 (S (inv s y o' (txt (xs ++ [Int.ofNat i])) (Int.ofNat i)) h') a' w' → Q .normal a' w') : t7.wpIn Fence.wide kk Tryz.prog Q a w := by
  have lt12 : ilt (Int.ofNat i) (Int.ofNat 12) = true := ilt_t.2 (by simp only [iofn]; omega)
  have wx : cell 12 words T.leaf (Nat.add 0 (i.mul 1)) = some (.str (wordF (Int.ofNat i))) ∧ (wordF (Int.ofNat i)).length ≤ 6 := word_ex (x := Int.ofNat i) (by simp only [iofn]; omega) (by simp only [iofn]; omega)
  obtain ⟨wx, wl⟩ := wx
  have tl := txt_len hv
  have l11 := len11 hv
  rw [q8]
  rcases hR' with ⟨e1, e2, e3⟩ | ⟨e1, e2, e', e3⟩
  · subst e1 e2 e3
    have ht : txt ([] ++ [Int.ofNat i]) = txt [] ++ wordF (Int.ofNat i) := by rw [txt_snoc]; rfl
    refine JT.at_list hG hC hX (hK false) (N := 40) (fn := iWords) (K := K8 s y .nils (Int.ofNat i) (hW e) (fun w' => w' = txt ([] ++ [Int.ofNat i]))) (rest := r11) (fun st a1 w1 k1 A1 => ?_) (fun x st a1 w1 hx k1 _ => ?_) hA ?_ ok8
    · unfold K8 at k1
      simp only at k1
      split at k1
      · obtain ⟨k2, k3, k4⟩ := k1
        subst k2
        have A2 := toS A1 k3 (JT.eqH_eq k4)
        refine at_w hG hC hX (hK false) (N := 40) (fn := iWords) (K := KA (inv s y (ou 1002 1) (txt ([] ++ [Int.ofNat i])) (Int.ofNat i)) e [.int .i64 (Int.ofNat i)]) A2 (by refine Eq.mpr (WT.w11A ..) ?_; repeat' (first | exact rfl | exact trivial | apply And.intro)) ok11 fun x st2 a2 w2 k5 A3 => ?_
        cases x with
        | ret => cases k5
        | exit _ => cases k5
        | normal =>
        obtain ⟨g1, g2, g3, g4, g5, g6⟩ := k5
        obtain ⟨el, ob, p1, p2, p3⟩ := isC_o g6
        have A4 := at_shape A3 (h := ⟨T.put (bW e) 1002 (some (.cells el 1 [.int .i64 (Int.ofNat i)] .leaf)), 1003⟩) g2.symm fun b x hx => by
          simp only [T.get_put] at hx
          split at hx
          · rename_i q; cases hx; subst q; exact ⟨ob, p1, p2, p3⟩
          · rcases bW_get hx with ⟨rfl, rfl⟩ | ⟨hne, hx⟩
            · exact ⟨_, g5, id, fun _ _ _ h => h⟩
            · rcases gs_get hx with ⟨rfl, _⟩ | ⟨rfl, _⟩
              · exact ⟨x, by rw [g3]; exact hx, id, fun _ _ _ h => h⟩
              · exact ⟨x, by rw [g4]; exact hx, id, fun _ _ _ h => h⟩
        have A5 : At ρ0 h0 w0 (S (inv s y (ou 1002 1) (txt ([] ++ [Int.ofNat i])) (Int.ofNat i)) ⟨T.put (bW e) 1002 (some (.cells el 1 [.int .i64 (Int.ofNat i)] .leaf)), 1003⟩) a2 w2 := at_less A4 (hasT_get g1.1) (Nat.le_of_eq g1.2.1.symm) (fun _ _ h => h) rfl (noDefs_eq g1.2.2).symm
        have A6 := back (m := 1001) A5 (by omega) (by omega) (by omega) (base_ok (Nat.le_refl _)) (ok_ints (xs := [Int.ofNat i])) (fun p hp => by
          simp only [List.mem_cons, List.not_mem_nil, or_false] at hp
          rcases hp with rfl | rfl | rfl | rfl | rfl <;> rfl)
        exact hQ _ _ _ _ (.inr ⟨by simp, rfl, el, rfl⟩) A6
      · cases k1
    · cases x with
      | normal => exact absurd rfl hx
      | ret => cases k1
      | exit _ => cases k1
    · refine Eq.mpr (WT.w8A ..) ⟨rfl, lt12, ⟨_, wx⟩, all_str wx ⟨Nat.ble_eq_true_of_le (by show (txt []).length + (wordF (Int.ofNat i)).length ≤ _; simp only [List.length_nil] at tl; omega), ht.symm, ?_⟩⟩
      repeat' (first | exact rfl | exact trivial | apply And.intro)
  · subst e2 e3
    have ht : txt (xs ++ [Int.ofNat i]) = txt xs ++ [44, 32] ++ wordF (Int.ofNat i) := by rw [txt_snoc, if_neg (by omega)]; rfl
    have li : (ints xs).length = xs.length := ints_len xs
    refine JT.at_list hG hC hX (hK true) (N := 40) (fn := iWords) (K := K8 s y (ou 1001 xs.length) (Int.ofNat i) (hR e e' (ints xs)) (fun w' => w' = txt (xs ++ [Int.ofNat i]))) (rest := r11) (fun st a1 w1 k1 A1 => ?_) (fun x st a1 w1 hx k1 _ => ?_) hA ?_ ok8
    · unfold K8 at k1
      simp only at k1
      split at k1
      · obtain ⟨k2, k3, k4⟩ := k1
        subst k2
        have A2 := toS A1 k3 (JT.eqH_eq k4)
        rw [q11]
        refine region_parts ?_
        rw [q11n]
        show wpOpsIn Fence.wide kk Tryz.prog (cOps r11) Q (List.range' 0 (3 + (1 + (1 + 0)))) a1 w1
        have hs : (cOps r11).size = 5 := q11n
        refine at_partW hG hC hX (hK true) (N := 40) (fn := iWords) (n := 3) (K := KM ((36, ou 1001 xs.length) :: (38, .slice 1002 0 1 (.known 1)) :: inv s y (ou 1001 xs.length) (txt (xs ++ [Int.ofNat i])) (Int.ofNat i)) 1003 1002 (hR e e' (ints xs)) (Int.ofNat i)) A2 (by omega) (by refine Eq.mpr (WT.w11B ..) ?_; repeat' (first | exact rfl | exact trivial | apply And.intro)) fun env h a2 w2 hk A3 => ?_
        obtain ⟨g1, g2, g3, g4, g5, g6, g7, g8⟩ := hk
        obtain ⟨el, ob, p1, p2, p3⟩ := isC_o g8
        have A4 := at_shape A3 (h := ⟨T.put (T.put (bW e) 1001 (some (.cells e' (ints xs).length (ints xs) .leaf))) 1002 (some (.cells el 1 [.int .i64 (Int.ofNat i)] .leaf)), 1003⟩) g3.symm fun b x hx => by
          simp only [T.get_put] at hx
          split at hx
          · rename_i q; cases hx; subst q; exact ⟨ob, p1, p2, p3⟩
          · split at hx
            · rename_i q; cases hx; subst q; exact ⟨_, g7, id, fun _ _ _ h => h⟩
            · rcases bW_get hx with ⟨rfl, rfl⟩ | ⟨hne, hx⟩
              · exact ⟨_, g6, id, fun _ _ _ h => h⟩
              · rcases gs_get hx with ⟨rfl, _⟩ | ⟨rfl, _⟩
                · exact ⟨x, g4.trans hx, id, fun _ _ _ h => h⟩
                · exact ⟨x, g5.trans hx, id, fun _ _ _ h => h⟩
        have A5 : At ρ0 h0 w0 (S ((36, ou 1001 xs.length) :: (38, .slice 1002 0 1 (.known 1)) :: inv s y (ou 1001 xs.length) (txt (xs ++ [Int.ofNat i])) (Int.ofNat i)) ⟨T.put (T.put (bW e) 1001 (some (.cells e' (ints xs).length (ints xs) .leaf))) 1002 (some (.cells el 1 [.int .i64 (Int.ofNat i)] .leaf)), 1003⟩) a2 w2 := at_less A4 (hasT_get g1) (Nat.le_of_eq g2.symm) (fun _ _ h => h) rfl rfl
        refine at_appendL hG hC hX A5 (by omega) pA gA (hopA _) t1 t2 t3 t1 t4 (L := ints xs) (el := [.int .i64 (Int.ofNat i)]) (s := 1) t5 (by decide) (b := 1001) (k := xs.length) (e := e') (by omega) rfl rfl (by omega) (yv := .slice 1002 0 1 (.known 1)) rfl ?_ dA rfl fun e2 a3 w3 A6 => ?_
        · rw [t5]; rfl
        have hL : ints xs ++ [.int .i64 (Int.ofNat i)] = ints (xs ++ [Int.ofNat i]) := by simp [ints]
        rw [hL] at A6
        have A7 := at_shape A6 (h := ⟨T.put (bW e) 1003 (some (.cells e2 (ints (xs ++ [Int.ofNat i])).length (ints (xs ++ [Int.ofNat i])) .leaf)), 1004⟩) rfl fun b x hx => by
          simp only [T.get_put] at hx
          split at hx
          · rename_i q; cases hx; subst q
            exact ⟨_, by simp only [T.get_put]; rfl, id, fun _ _ _ h => h⟩
          · rename_i q
            have hlt := (base_ok (e := e) (Nat.le_refl 1001) b x hx).1
            refine ⟨x, ?_, id, fun _ _ _ h => h⟩
            simp only [T.get_put]
            rw [if_neg (by show ¬ b = 1003; omega), if_neg (by omega), if_neg (by omega), if_neg (by omega)]
            exact hx
        have A8 : At ρ0 h0 w0 (S [(39, ou 1003 (xs.length + 1)), (0, .int .u16 s), (1, .int .i64 y), (5, .ptr 1000 0), (7, .str (txt (xs ++ [Int.ofNat i]))), (8, .int .i64 (Int.ofNat i))] ⟨T.put (bW e) 1003 (some (.cells e2 (ints (xs ++ [Int.ofNat i])).length (ints (xs ++ [Int.ofNat i])) .leaf)), 1004⟩) a3 w3 := at_less A7 (hasT_get ⟨rfl, rfl, rfl, rfl, rfl, rfl, trivial⟩) (Nat.le_refl _) (fun _ _ h => h) rfl rfl
        have A9 := back (m := 1001) A8 (by omega) (by omega) (by omega) (base_ok (Nat.le_refl _)) ok_ints (fun p hp => by
          simp only [List.mem_cons, List.not_mem_nil, or_false] at hp
          rcases hp with rfl | rfl | rfl | rfl | rfl <;> rfl)
        refine at_partW hG hC hX (hK true) (N := 40) (fn := iWords) (n := 1) (K := KH (inv s y (ou 1001 (xs.length + 1)) (txt (xs ++ [Int.ofNat i])) (Int.ofNat i)) (hR e e2 (ints (xs ++ [Int.ofNat i])))) A9 (by omega) (by refine Eq.mpr (WT.w11C (_k := 0) ..) ?_; repeat' (first | exact rfl | exact trivial | apply And.intro)) fun env3 h3 a4 w4 hk3 A10 => ?_
        have A11 := toE A10 hk3.1 hk3.2.1 hk3.2.2
        have hl : xs.length + 1 = (xs ++ [Int.ofNat i]).length := by simp
        rw [hl] at A11
        exact hQ _ _ _ _ (.inr ⟨by simp, rfl, e2, rfl⟩) A11
      · cases k1
    · cases x with
      | normal => exact absurd rfl hx
      | ret => cases k1
      | exit _ => cases k1
    · refine Eq.mpr (WT.w8B ..) ⟨fun _ => ⟨Nat.ble_eq_true_of_le (by show (txt xs).length + 2 ≤ _; omega), rfl, lt12, ⟨_, wx⟩, all_str wx ⟨Nat.ble_eq_true_of_le (by show (txt xs ++ [44, 32]).length + (wordF (Int.ofNat i)).length ≤ _; rw [List.length_append]; simp only [List.length_cons, List.length_nil]; omega), ht.symm, ?_⟩⟩, fun q => ?_⟩
      · repeat' (first | exact rfl | exact trivial | apply And.intro)
      · have := ilt_f.1 q; simp only [iofn] at this; omega
end
end WT
end Go.Proofs.YtgadijnefbmgkaaGreatDoor

/- JudgeWords: behind its loop. -/
import Derived.Test.YtgadijnefbmgkaaGreatDoorJw3
namespace Go.Proofs.YtgadijnefbmgkaaGreatDoor
set_option maxRecDepth 100000
open Go.Ev Go.RowKit
namespace WT
theorem pure5 {y : Int} {w : List UInt8} {f x : Int} {p : Nat × V} (hp : p ∈ [(1, V.int .i64 y), (7, V.str w), (9, V.str w), (10, V.int .i64 f), (11, V.int .i64 x)]) (m : Nat) : okB m p.2 = true := by
  simp only [List.mem_cons, List.not_mem_nil, or_false] at hp
  rcases hp with rfl | rfl | rfl | rfl | rfl <;> rfl
theorem act14x (o : V) (y : Int) (w : List UInt8) : act GL (envL 101 [(44, o), (6, o), (1, .int .i64 y), (7, .str w)]).get (opAt r14 1).op = .call (some (.fn iText [o])) := by kernel_rfl
theorem act18x (o : V) (y f x : Int) (w : List UInt8) : act GL (envL 101 [(63, o), (1, .int .i64 y), (7, .str w), (9, .str w), (10, .int .i64 f), (11, .int .i64 x)]).get (opAt r18 6).op = .call (some (.fn iText [o])) := by kernel_rfl
section
variable {ρ : Ren} {W : World} {y : Int}
variable (hG : GOk Tryz.prog GL) (hC : Codes GL) (hX : ExtOK Tryz.prog GL) (hK : ∀ r, KxOK GL (sp r).kx)
include hG hC hX hK
/-- Text, and what it returned -/
theorem call14 {o : V} {w t : List UInt8} {f : Int} {h : H} {Q : Exit → Act → World → Prop} {kk : Nat} {a : Act} {w1 : World}
    (hA : At ρ (hVars gs 1000) W (S [(6, o), (1, .int .i64 y), (7, .str w)] h) a w1)
    (hc : ∀ ρ (cargs : Array Value) (W : World), Sim ρ h W → Rels ρ [o] cargs.toList → ∀ k, CallsIn Fence.wide k Tryz.prog iText cargs W (fun en w' => ∃ v, v = V.tuple [.str t, .int .i64 f] ∧ Below W.heap.size W w' ∧ ∃ c, en = .returned c ∧ ∀ ρ, Rel ρ v c))
    (hQ : ∀ a' w', At ρ (hVars gs 1000) W (S [(6, o), (1, .int .i64 y), (7, .str w), (9, .str t), (10, .int .i64 f)] h) a' w' → Q .normal a' w') : r14.wpIn Fence.wide kk Tryz.prog Q a w1 := by
  rw [q14]
  refine region_parts ?_
  rw [q14n]
  show wpOpsIn Fence.wide kk Tryz.prog (cOps r14) Q (List.range' 0 (1 + (5 + 1))) a w1
  have n14 : (cOps r14).size = 7 := q14n
  refine at_partW hG hC hX (hK true) (N := 40) (fn := iWords) (n := 1) (K := KH [(44, o), (6, o), (1, .int .i64 y), (7, .str w)] h) hA (by omega) (by refine Eq.mpr (WT.w14a ..) ?_; repeat' (first | exact rfl | exact trivial | apply And.intro)) fun env h' a2 w2 hk A2 => ?_
  obtain ⟨g1, g2, g3⟩ := hk
  subst g3
  have A3 : At ρ (hVars gs 1000) W (S [(44, o), (6, o), (1, .int .i64 y), (7, .str w)] h') a2 w2 := at_less A2 (hasT_get g1) (Nat.le_of_eq g2.symm) (fun _ _ h => h) rfl rfl
  obtain ⟨cT, bT⟩ := bodyT
  refine at_call hG (i := 1) (m := 5) A3 p14 g14 (args := [o]) (act14x _ _ _) isT nameT bT (Good := fun v => v = V.tuple [.str t, .int .i64 f]) (fun ρ' cargs hS' ha' m' => hc ρ' cargs _ hS' ha' m') (fun v => ⟨_, rfl⟩) fun v env2 a3 w3 hv hput A4 => ?_
  subst hv
  rw [d14] at hput
  cases hput
  have A5 : At ρ (hVars gs 1000) W (S [(45, .tuple [.str t, .int .i64 f]), (6, o), (1, .int .i64 y), (7, .str w)] h') a3 w3 := at_less A4 (hasT_get ⟨rfl, rfl, rfl, rfl, trivial⟩) (Nat.le_refl _) (fun _ _ h => h) rfl rfl
  show wpOpsIn Fence.wide kk Tryz.prog (cOps r14) Q (List.range' 2 (5 + 0)) a3 w3
  refine at_partW hG hC hX (hK true) (N := 40) (fn := iWords) (n := 5) (K := KH [(6, o), (1, .int .i64 y), (7, .str w), (9, .str t), (10, .int .i64 f)] h') A5 (by omega) (by refine Eq.mpr (WT.w14b ..) ?_; repeat' (first | exact rfl | exact trivial | apply And.intro)) fun env h2 a4 w4 hk A6 => ?_
  exact hQ _ _ (toE A6 hk.1 hk.2.1 hk.2.2)
/-- the second Text -/
theorem call18 {xs : List Int} {w : List UInt8} {e e' : Option TypeId} {Q : Exit → Act → World → Prop} {kk n : Nat} {a : Act} {w1 : World} (hv : valid xs) (hn : (xs ++ [y]).length = n)
    (hA : At ρ (hVars gs 1000) W (S [(63, ou 1001 n), (1, .int .i64 y), (7, .str w), (9, .str w), (10, .int .i64 (Int.ofNat 0)), (11, .int .i64 (lastF xs xs.length))] (hR e e' (ints (xs ++ [y])))) a w1)
    (hQ : ∀ a' w', At ρ (hVars gs 1000) W (S [(1, .int .i64 y), (7, .str w), (9, .str w), (10, .int .i64 (Int.ofNat 0)), (11, .int .i64 (lastF xs xs.length)), (12, .str (resT (xs ++ [y]))), (13, .int .i64 (resE (xs ++ [y])))] (hR e e' (ints (xs ++ [y])))) a' w' → Q .normal a' w') :
    wpOpsIn Fence.wide kk Tryz.prog (cOps r18) Q (List.range' 6 (5 + 1)) a w1 := by
  have l11 := len11 hv
  have hl : (xs ++ [y]).length = xs.length + 1 := by simp
  obtain ⟨cT, bT⟩ := bodyT
  have n18 : (cOps r18).size = 12 := q18n
  refine at_call hG (i := 6) (m := 5) hA p18 g18 (args := [ou 1001 n]) (act18x _ _ _ _ _) isT nameT bT (Good := fun v => v = V.tuple [.str (resT (xs ++ [y])), .int .i64 (resE (xs ++ [y]))]) (fun ρ' cargs hS' ha' m' => text_row hn (by omega) (by omega) hS' ha' m') (fun v => ⟨_, rfl⟩) fun v env2 a3 w3 hv hput A4 => ?_
  subst hv
  rw [d18] at hput
  cases hput
  have A5 : At ρ (hVars gs 1000) W (S [(64, .tuple [.str (resT (xs ++ [y])), .int .i64 (resE (xs ++ [y]))]), (1, .int .i64 y), (7, .str w), (9, .str w), (10, .int .i64 (Int.ofNat 0)), (11, .int .i64 (lastF xs xs.length))] (hR e e' (ints (xs ++ [y])))) a3 w3 := at_less A4 (hasT_get ⟨rfl, rfl, rfl, rfl, rfl, rfl, trivial⟩) (Nat.le_refl _) (fun _ _ h => h) rfl rfl
  show wpOpsIn Fence.wide kk Tryz.prog (cOps r18) Q (List.range' 7 (5 + 0)) a3 w3
  refine at_partW hG hC hX (hK true) (N := 40) (fn := iWords) (n := 5) (K := KH [(1, .int .i64 y), (7, .str w), (9, .str w), (10, .int .i64 (Int.ofNat 0)), (11, .int .i64 (lastF xs xs.length)), (12, .str (resT (xs ++ [y]))), (13, .int .i64 (resE (xs ++ [y])))] (hR e e' (ints (xs ++ [y])))) A5 (by omega) (by refine Eq.mpr (WT.w18D ..) ?_; repeat' (first | exact rfl | exact trivial | apply And.intro)) fun env h2 a4 w4 hk A6 => ?_
  exact hQ _ _ (toE A6 hk.1 hk.2.1 hk.2.2)
/-- no numbers: one more -/
theorem r18_nil {w : List UInt8} {e : Option TypeId} {Q : Exit → Act → World → Prop} {kk : Nat} {a : Act} {w1 : World}
    (hA : At ρ (hVars gs 1000) W (S [(6, .nils), (1, .int .i64 y), (7, .str w), (9, .str w), (10, .int .i64 (Int.ofNat 0)), (11, .int .i64 (Int.ofNat 0))] (hW e)) a w1)
    (hQ : ∀ e' a' w', At ρ (hVars gs 1000) W (S [(1, .int .i64 y), (7, .str w), (9, .str w), (10, .int .i64 (Int.ofNat 0)), (11, .int .i64 (lastF [] ([] : List Int).length)), (12, .str (resT ([] ++ [y]))), (13, .int .i64 (resE ([] ++ [y])))] (hR e e' (ints ([] ++ [y])))) a' w' → Q .normal a' w') : r18.wpIn Fence.wide kk Tryz.prog Q a w1 := by
  rw [q18]
  refine region_parts ?_
  rw [q18n]
  show wpOpsIn Fence.wide kk Tryz.prog (cOps r18) Q (List.range' 0 (6 + (5 + 1))) a w1
  have n18 : (cOps r18).size = 12 := q18n
  refine at_partW hG hC hX (hK false) (N := 40) (fn := iWords) (n := 6) (K := KN [(63, ou 1003 1), (1, .int .i64 y), (7, .str w), (9, .str w), (10, .int .i64 (Int.ofNat 0)), (11, .int .i64 (Int.ofNat 0))] 1004 1003 (hW e) y) hA (by omega) (by refine Eq.mpr (WT.w18A ..) ?_; repeat' (first | exact rfl | exact trivial | apply And.intro)) fun env h' a2 w2 hk A2 => ?_
  obtain ⟨g1, g2, g3, g4, g5, g6, g7⟩ := hk
  obtain ⟨el, ob, p1, p2, p3⟩ := isC_o g7
  have A3 := at_shape A2 (h := ⟨T.put (bW e) 1003 (some (.cells el 1 [.int .i64 y] .leaf)), 1004⟩) g3.symm fun b x hx => by
    simp only [T.get_put] at hx
    split at hx
    · rename_i q; cases hx; subst q; exact ⟨ob, p1, p2, p3⟩
    · rcases bW_get hx with ⟨rfl, rfl⟩ | ⟨hne, hx⟩
      · exact ⟨_, g6, id, fun _ _ _ h => h⟩
      · rcases gs_get hx with ⟨rfl, _⟩ | ⟨rfl, _⟩
        · exact ⟨x, g4.trans (by show (bW e).get _ = _; rw [get_bW (by have := iL_lt; omega)]; exact hx), id, fun _ _ _ h => h⟩
        · exact ⟨x, g5.trans (by show (bW e).get _ = _; rw [get_bW (by have := gW_lt; omega)]; exact hx), id, fun _ _ _ h => h⟩
  have A4 : At ρ (hVars gs 1000) W (S [(63, ou 1003 1), (1, .int .i64 y), (7, .str w), (9, .str w), (10, .int .i64 (Int.ofNat 0)), (11, .int .i64 (Int.ofNat 0))] ⟨T.put (bW e) 1003 (some (.cells el 1 [.int .i64 y] .leaf)), 1004⟩) a2 w2 := at_less A3 (hasT_get g1) (Nat.le_of_eq g2.symm) (fun _ _ h => h) rfl rfl
  have A5 := back (m := 1001) A4 (by omega) (by show 1000 ≤ 1001; omega) (Nat.le_refl _) (base_ok (Nat.le_refl _)) (ok_ints (xs := [y])) (fun p hp => pure5 hp _)
  exact call18 hG hC hX hK (xs := []) (fun k x h => by simp at h) (n := 1) rfl A5 fun a' w' A => hQ _ _ _ A
/-- some numbers: one more -/
theorem r18_row {xs : List Int} {w : List UInt8} {e e' : Option TypeId} {Q : Exit → Act → World → Prop} {kk : Nat} {a : Act} {w1 : World} (h0 : 0 < xs.length) (hv : valid xs)
    (hA : At ρ (hVars gs 1000) W (S [(6, ou 1001 xs.length), (1, .int .i64 y), (7, .str w), (9, .str w), (10, .int .i64 (Int.ofNat 0)), (11, .int .i64 (lastF xs xs.length))] (hR e e' (ints xs))) a w1)
    (hQ : ∀ e' a' w', At ρ (hVars gs 1000) W (S [(1, .int .i64 y), (7, .str w), (9, .str w), (10, .int .i64 (Int.ofNat 0)), (11, .int .i64 (lastF xs xs.length)), (12, .str (resT (xs ++ [y]))), (13, .int .i64 (resE (xs ++ [y])))] (hR e e' (ints (xs ++ [y])))) a' w' → Q .normal a' w') : r18.wpIn Fence.wide kk Tryz.prog Q a w1 := by
  have l11 := len11 hv
  have li : (ints xs).length = xs.length := ints_len xs
  rw [q18]
  refine region_parts ?_
  rw [q18n]
  show wpOpsIn Fence.wide kk Tryz.prog (cOps r18) Q (List.range' 0 (2 + (1 + (2 + (1 + (5 + 1)))))) a w1
  have n18 : (cOps r18).size = 12 := q18n
  refine at_partW hG hC hX (hK true) (N := 40) (fn := iWords) (n := 2) (K := KZ [(58, .slice 1002 0 0 (.known 0)), (59, ou 1001 xs.length), (1, .int .i64 y), (7, .str w), (9, .str w), (10, .int .i64 (Int.ofNat 0)), (11, .int .i64 (lastF xs xs.length))] (hR e e' (ints xs))) hA (by omega) (by refine Eq.mpr (WT.w18B ..) ?_; repeat' (first | exact rfl | exact trivial | apply And.intro)) fun env h' a2 w2 hk A2 => ?_
  obtain ⟨g1, g2, g3, g4, g5, g6, g7, g8⟩ := hk
  obtain ⟨ez, nz, pz, tz, hz⟩ : ∃ ez nz pz tz, h'.tr.get 1002 = some (.cells ez nz pz tz) := by
    unfold isZ at g8
    split at g8
    · exact ⟨_, _, _, _, by assumption⟩
    · cases g8
  have A3 := at_shape A2 (h := ⟨T.put (T.put (bW e) 1001 (some (.cells e' (ints xs).length (ints xs) .leaf))) 1002 (some (.cells ez nz pz tz)), 1003⟩) g3.symm fun b x hx => by
    simp only [T.get_put] at hx
    split at hx
    · rename_i q; cases hx; subst q; exact ⟨_, hz, id, fun _ _ _ h => h⟩
    · split at hx
      · rename_i q; cases hx; subst q; exact ⟨_, g7, id, fun _ _ _ h => h⟩
      · rcases bW_get hx with ⟨rfl, rfl⟩ | ⟨hne, hx⟩
        · exact ⟨_, g6, id, fun _ _ _ h => h⟩
        · rcases gs_get hx with ⟨rfl, _⟩ | ⟨rfl, _⟩
          · exact ⟨x, g4.trans hx, id, fun _ _ _ h => h⟩
          · exact ⟨x, g5.trans hx, id, fun _ _ _ h => h⟩
  have A4 : At ρ (hVars gs 1000) W (S [(58, .slice 1002 0 0 (.known 0)), (59, ou 1001 xs.length), (1, .int .i64 y), (7, .str w), (9, .str w), (10, .int .i64 (Int.ofNat 0)), (11, .int .i64 (lastF xs xs.length))] ⟨T.put (T.put (bW e) 1001 (some (.cells e' (ints xs).length (ints xs) .leaf))) 1002 (some (.cells ez nz pz tz)), 1003⟩) a2 w2 := at_less A3 (hasT_get g1) (Nat.le_of_eq g2.symm) (fun _ _ h => h) rfl rfl
  refine at_appendR hG hC hX A4 (by omega) pB gB (hopB _) t1 t2 t3 t1 t4 (L := ints xs) (s := 1) t5 (by decide) (b0 := 1002) (b := 1001) (k := xs.length) (e := e') (c := .atl xs.length 1) (x0 := []) (by omega) h0 rfl ?_ ?_ (by omega) rfl dB rfl fun a3 w3 A5 => ?_
  · simp only [rGather, T.get_put, if_pos]; rfl
  · simp only [T.get_put]; rfl
  have A6 := at_shape A5 (h := ⟨T.put (bW e) 1003 (some (.cells (some tInt) (ints xs).length (ints xs) .leaf)), 1004⟩) rfl fun b x hx => by
    simp only [T.get_put] at hx
    split at hx
    · rename_i q; cases hx; subst q
      exact ⟨_, by simp only [T.get_put]; rfl, id, fun _ _ _ h => h⟩
    · rename_i q
      have hlt := (base_ok (e := e) (Nat.le_refl 1001) b x hx).1
      refine ⟨x, ?_, id, fun _ _ _ h => h⟩
      simp only [T.get_put]
      rw [if_neg (by show ¬ b = 1003; omega), if_neg (by omega), if_neg (by omega)]
      exact hx
  have A7 : At ρ (hVars gs 1000) W (S [(60, ou 1003 xs.length), (1, .int .i64 y), (7, .str w), (9, .str w), (10, .int .i64 (Int.ofNat 0)), (11, .int .i64 (lastF xs xs.length))] ⟨T.put (bW e) 1003 (some (.cells (some tInt) (ints xs).length (ints xs) .leaf)), 1004⟩) a3 w3 := at_less A6 (hasT_get ⟨rfl, rfl, rfl, rfl, rfl, rfl, trivial⟩) (Nat.le_refl _) (fun _ _ h => h) rfl rfl
  have A8 := back (m := 1001) A7 (by omega) (by show 1000 ≤ 1001; omega) (Nat.le_refl _) (base_ok (Nat.le_refl _)) ok_ints (fun p hp => pure5 hp _)
  show wpOpsIn Fence.wide kk Tryz.prog (cOps r18) Q (List.range' 3 (2 + (1 + (5 + 1)))) a3 w3
  refine at_partW hG hC hX (hK true) (N := 40) (fn := iWords) (n := 2) (K := KM [(60, ou 1001 xs.length), (62, .slice 1002 0 1 (.known 1)), (1, .int .i64 y), (7, .str w), (9, .str w), (10, .int .i64 (Int.ofNat 0)), (11, .int .i64 (lastF xs xs.length))] 1003 1002 (hR e (some tInt) (ints xs)) y) A8 (by omega) (by refine Eq.mpr (WT.w18C ..) ?_; repeat' (first | exact rfl | exact trivial | apply And.intro)) fun env4 h4 a4 w4 hk4 A9 => ?_
  obtain ⟨k1, k2, k3, k4, k5, k6, k7, k8⟩ := hk4
  obtain ⟨el, ob, p1, p2, p3⟩ := isC_o k8
  have A10 := at_shape A9 (h := ⟨T.put (T.put (bW e) 1001 (some (.cells (some tInt) (ints xs).length (ints xs) .leaf))) 1002 (some (.cells el 1 [.int .i64 y] .leaf)), 1003⟩) k3.symm fun b x hx => by
    simp only [T.get_put] at hx
    split at hx
    · rename_i q; cases hx; subst q; exact ⟨ob, p1, p2, p3⟩
    · split at hx
      · rename_i q; cases hx; subst q; exact ⟨_, k7, id, fun _ _ _ h => h⟩
      · rcases bW_get hx with ⟨rfl, rfl⟩ | ⟨hne, hx⟩
        · exact ⟨_, k6, id, fun _ _ _ h => h⟩
        · rcases gs_get hx with ⟨rfl, _⟩ | ⟨rfl, _⟩
          · exact ⟨x, k4.trans hx, id, fun _ _ _ h => h⟩
          · exact ⟨x, k5.trans hx, id, fun _ _ _ h => h⟩
  have A11 : At ρ (hVars gs 1000) W (S [(60, ou 1001 xs.length), (62, .slice 1002 0 1 (.known 1)), (1, .int .i64 y), (7, .str w), (9, .str w), (10, .int .i64 (Int.ofNat 0)), (11, .int .i64 (lastF xs xs.length))] ⟨T.put (T.put (bW e) 1001 (some (.cells (some tInt) (ints xs).length (ints xs) .leaf))) 1002 (some (.cells el 1 [.int .i64 y] .leaf)), 1003⟩) a4 w4 := at_less A10 (hasT_get k1) (Nat.le_of_eq k2.symm) (fun _ _ h => h) rfl rfl
  show wpOpsIn Fence.wide kk Tryz.prog (cOps r18) Q (List.range' 5 (1 + (5 + 1))) a4 w4
  refine at_appendL hG hC hX A11 (by omega) pC gC (hopC _) t1 t2 t3 t1 t4 (L := ints xs) (el := [.int .i64 y]) (s := 1) t5 (by decide) (b := 1001) (k := xs.length) (e := some tInt) (by omega) rfl rfl (by omega) (yv := .slice 1002 0 1 (.known 1)) rfl ?_ dC rfl fun e2 a5 w5 A12 => ?_
  · rw [t5]; rfl
  have hL : ints xs ++ [.int .i64 y] = ints (xs ++ [y]) := by simp [ints]
  rw [hL] at A12
  have A13 := at_shape A12 (h := ⟨T.put (bW e) 1003 (some (.cells e2 (ints (xs ++ [y])).length (ints (xs ++ [y])) .leaf)), 1004⟩) rfl fun b x hx => by
    simp only [T.get_put] at hx
    split at hx
    · rename_i q; cases hx; subst q
      exact ⟨_, by simp only [T.get_put]; rfl, id, fun _ _ _ h => h⟩
    · rename_i q
      have hlt := (base_ok (e := e) (Nat.le_refl 1001) b x hx).1
      refine ⟨x, ?_, id, fun _ _ _ h => h⟩
      simp only [T.get_put]
      rw [if_neg (by show ¬ b = 1003; omega), if_neg (by omega), if_neg (by omega), if_neg (by omega)]
      exact hx
  have A14 : At ρ (hVars gs 1000) W (S [(63, ou 1003 (xs.length + 1)), (1, .int .i64 y), (7, .str w), (9, .str w), (10, .int .i64 (Int.ofNat 0)), (11, .int .i64 (lastF xs xs.length))] ⟨T.put (bW e) 1003 (some (.cells e2 (ints (xs ++ [y])).length (ints (xs ++ [y])) .leaf)), 1004⟩) a5 w5 := at_less A13 (hasT_get ⟨rfl, rfl, rfl, rfl, rfl, rfl, trivial⟩) (Nat.le_refl _) (fun _ _ h => h) rfl rfl
  have A15 := back (m := 1001) A14 (by omega) (by show 1000 ≤ 1001; omega) (Nat.le_refl _) (base_ok (Nat.le_refl _)) ok_ints (fun p hp => pure5 hp _)
  show wpOpsIn Fence.wide kk Tryz.prog (cOps r18) Q (List.range' 6 (5 + 1)) a5 w5
  exact call18 hG hC hX hK hv (by simp) A15 fun a' w' A => hQ _ _ _ A
end
end WT
end Go.Proofs.YtgadijnefbmgkaaGreatDoor

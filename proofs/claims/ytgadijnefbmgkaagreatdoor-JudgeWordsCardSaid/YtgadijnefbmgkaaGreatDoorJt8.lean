/- judge.Text: one text more in the row, whichever round. -/
import Derived.Test.YtgadijnefbmgkaaGreatDoorJt7
namespace Go.Proofs.YtgadijnefbmgkaaGreatDoor
set_option maxRecDepth 100000
open Go.Ev Go.RowKit
namespace JT
theorem good_in {xs : List Int} {k : Nat} {x : Int} (h : good xs k x) : 0 ≤ x ∧ x < 12 ∧ ilt x (Int.ofNat 0) = false ∧ ilt x (Int.ofNat 12) = true := by
  obtain ⟨h1, h2⟩ := h
  have := h2 _ h1
  exact ⟨by omega, by omega, ilt_f.2 (by simp only [iofn]; omega), ilt_t.2 (by simp only [iofn]; omega)⟩
section
variable (hG : GOk Tryz.prog G0) (hC : Codes G0) (hX : ExtOK Tryz.prog G0) (hK : KxOK G0 sp.kx)
include hG hC hX hK
theorem first {xs : List Int} {c : Cap} {x : Int} {W : World} {ρ : Ren} {kk : Nat} {Q : Exit → Act → World → Prop} {aa : Act} {w : World} (hx : good xs 0 x)
    (hA : At ρ (hI xs.length xs) W (S (inv7 xs.length c .nils x (Int.ofNat 0)) (hI xs.length xs)) aa w)
    (hQ : ∀ e a' w', At ρ (hI xs.length xs) W (S (inv7 xs.length c (ou 1001 1) x (Int.ofNat 0)) (hL e xs.length xs (strs xs 1))) a' w' → Q .normal a' w') : r10.wpIn Fence.wide kk Tryz.prog Q aa w := by
  obtain ⟨i0, i1, i2, i3⟩ := good_in hx
  have wx := (word_ex i0 i1).1
  refine at_w hG hC hX hK (N := 40) (fn := iText) (K := KA (inv7 xs.length c (ou 1002 1) x (Int.ofNat 0)) xs.length xs (fun w => w = wordF x)) hA ?_ ok4 fun y st' a1 w1 hK1 A1 => ?_
  · refine Eq.mpr (JT.wA ..) ⟨i2, i3, ⟨_, wx⟩, all_str wx ?_⟩
    repeat' (first | exact rfl | exact trivial | apply And.intro)
  cases y with
  | exit _ => cases hK1
  | ret => cases hK1
  | normal =>
  obtain ⟨g1, g2, g3, g4, g5⟩ := hK1
  obtain ⟨w, e, o, l0, l1, l2, l3⟩ := isS_o g5
  subst l0
  have es : strs xs 1 = [.str (wordF x)] := by rw [strs_succ hx.1]; rfl
  have A2 := at_shape A1 (h := hB 1002 e xs.length xs (strs xs 1)) g2.symm fun b z hz => by
    rw [es] at hz
    simp only [hB, T.get_put, T.get_leaf] at hz
    split at hz
    · rename_i q; cases hz; subst q; exact ⟨o, l1, l2, l3⟩
    · split at hz
      · rename_i q; cases hz; subst q; exact ⟨_, g4, id, fun _ _ _ h => h⟩
      · split at hz
        · rename_i q; cases hz; subst q; exact ⟨_, g3, id, fun _ _ _ h => h⟩
        · cases hz
  have A3 : At ρ (hI xs.length xs) W (S (inv7 xs.length c (ou 1002 1) x (Int.ofNat 0)) (hB 1002 e xs.length xs (strs xs 1))) a1 w1 := at_less A2 (hasT_get g1.1) (Nat.le_of_eq g1.2.1.symm) (fun _ _ h => h) rfl (noDefs_eq g1.2.2).symm
  exact hQ e a1 w1 (renamed rfl (by omega) A3)
noncomputable def hM (e ex : Option TypeId) (n : Nat) (xs : List Int) (L : List V) (w : List UInt8) : H := ⟨T.put (T.put (T.put (T.put .leaf gWords (some roW)) 1000 (some (roB n xs))) 1001 (some (.cells e L.length L .leaf))) 1002 (some (.cells ex 1 [.str w] .leaf)), 1003⟩
theorem next {xs : List Int} {c : Cap} {x : Int} {k : Nat} {e : Option TypeId} {W : World} {ρ : Ren} {kk : Nat} {Q : Exit → Act → World → Prop} {aa : Act} {w : World} (hk : k < xs.length) (hn : xs.length ≤ 30) (hx : good xs k x)
    (hA : At ρ (hI xs.length xs) W (S (inv7 xs.length c (ou 1001 k) x (Int.ofNat k)) (hL e xs.length xs (strs xs k))) aa w)
    (hQ : ∀ e a' w', At ρ (hI xs.length xs) W (S (inv7 xs.length c (ou 1001 (k + 1)) x (Int.ofNat k)) (hL e xs.length xs (strs xs (k + 1)))) a' w' → Q .normal a' w') : r10.wpIn Fence.wide kk Tryz.prog Q aa w := by
  obtain ⟨i0, i1, i2, i3⟩ := good_in hx
  have wx := (word_ex i0 i1).1
  have hl : (strs xs k).length = k := strs_len (by omega)
  rw [q15]
  refine region_parts ?_
  rw [q16]
  show wpOpsIn Fence.wide kk Tryz.prog (cOps r10) Q (List.range' 0 (5 + (1 + (1 + 0)))) aa w
  have hs : (cOps r10).size = 7 := q16
  refine at_partW hG hC hX hK (N := 40) (fn := iText) (n := 5) (K := KB (inv24 xs.length c (ou 1001 k) x (Int.ofNat k) (.slice 1002 0 1 (.known 1))) xs.length xs e (strs xs k) (fun w => w = wordF x)) hA (by omega) ?_ fun env h a1 w1 hKB A1 => ?_
  · refine Eq.mpr (JT.wB ..) ⟨i2, i3, ⟨_, wx⟩, all_str wx ?_⟩
    repeat' (first | exact rfl | exact trivial | apply And.intro)
  obtain ⟨g1, g2, g3, g4, g5, g6, g7⟩ := hKB
  obtain ⟨w, ex, o, l0, l1, l2, l3⟩ := isS_o g7
  subst l0
  have A2 := at_shape A1 (h := hM e ex xs.length xs (strs xs k) (wordF x)) g3.symm fun b z hz => by
    simp only [hM, T.get_put, T.get_leaf] at hz
    split at hz
    · rename_i q; cases hz; subst q; exact ⟨o, l1, l2, l3⟩
    · split at hz
      · rename_i q; cases hz; subst q; exact ⟨_, g6, id, fun _ _ _ h => h⟩
      · split at hz
        · rename_i q; cases hz; subst q; exact ⟨_, g5, id, fun _ _ _ h => h⟩
        · split at hz
          · rename_i q; cases hz; subst q; exact ⟨_, g4, id, fun _ _ _ h => h⟩
          · cases hz
  have A3 : At ρ (hI xs.length xs) W (S (inv24 xs.length c (ou 1001 k) x (Int.ofNat k) (.slice 1002 0 1 (.known 1))) (hM e ex xs.length xs (strs xs k) (wordF x))) a1 w1 := at_less A2 (hasT_get g1) (Nat.le_of_eq g2.symm) (fun _ _ h => h) rfl rfl
  refine at_appendL hG hC hX A3 (by omega) p5 p5g (hop _) t1 t2 t3 t1 t4 (L := strs xs k) (el := [.str (wordF x)]) (s := 1) t5 (by decide) (b := 1001) (k := k) (e := e) (by omega) rfl rfl (by omega) (yv := .slice 1002 0 1 (.known 1)) rfl ?_ p5d rfl fun e' a2 w2 A4 => ?_
  · rw [t5]; rfl
  rw [← strs_succ hx.1] at A4
  have A5 := at_shape A4 (h := hN e' xs.length xs (strs xs (k + 1))) rfl fun b z hz => by
    simp only [hN, T.get_put, T.get_leaf] at hz
    split at hz
    · rename_i q; cases hz; subst q
      exact ⟨_, by simp only [hM, T.get_put]; rfl, id, fun _ _ _ h => h⟩
    · split at hz
      · rename_i q; cases hz; subst q
        exact ⟨_, by simp only [hM, T.get_put]; rfl, id, fun _ _ _ h => h⟩
      · split at hz
        · rename_i q; cases hz; subst q
          exact ⟨_, by simp only [hM, T.get_put]; rfl, id, fun _ _ _ h => h⟩
        · cases hz
  have A6 : At ρ (hI xs.length xs) W (S (inv29 xs.length c (ou 1003 (k + 1)) x (Int.ofNat k)) (hN e' xs.length xs (strs xs (k + 1)))) a2 w2 := at_less A5 (hasT_get ⟨rfl, rfl, rfl, rfl, rfl, trivial⟩) (Nat.le_refl _) (fun _ _ h => h) rfl rfl
  refine at_partW hG hC hX hK (N := 40) (fn := iText) (n := 1) (K := KC (inv7 xs.length c (ou 1003 (k + 1)) x (Int.ofNat k)) (hN e' xs.length xs (strs xs (k + 1)))) A6 (by omega) ?_ fun env3 h3 a3 w3 hKC A7 => ?_
  · refine Eq.mpr (JT.wC ..) ?_
    repeat' (first | exact rfl | exact trivial | apply And.intro)
  obtain ⟨m1, m2, m3⟩ := hKC
  obtain rfl := eqH_eq m3
  have A8 : At ρ (hI xs.length xs) W (S (inv7 xs.length c (ou 1003 (k + 1)) x (Int.ofNat k)) (hB 1003 e' xs.length xs (strs xs (k + 1)))) a3 w3 := at_less A7 (hasT_get m1) (Nat.le_of_eq m2.symm) (fun _ _ h => h) rfl rfl
  exact hQ e' a3 w3 (renamed rfl (by omega) A8)
end
end JT
end Go.Proofs.YtgadijnefbmgkaaGreatDoor

/- BoundBlocks: what is behind the script: the walk. -/
import Derived.Test.YtcbggkejlhifpaaGreatDoorFp
namespace Go.Proofs.YtcbggkejlhifpaaGreatDoor
set_option maxRecDepth 100000
set_option maxHeartbeats 4000000
open Go.Ev Go.RowKit
namespace LB
theorem orel_ro {e : Option TypeId} {n : Nat} {pat : List V} {tr : T V} {ρ : Ren} {L : Nat × Nat × Nat} {c : Obj} (h : ORel ρ (.cells e n pat tr) L c) : ORel ρ (.ro none n pat tr) L c := by
  obtain ⟨cs, el, lo, hi, h1, h2, h3, h4, h5, h6⟩ := h
  exact ⟨cs, el, (lo, hi), h1, h2, h3, fun e' q => (nomatch q), h6⟩
theorem isFun {f : FuncId} (h : (match Tryz.prog.funcs[f]? with
    | some f => (f.name == "runtime.NumGoroutine") == false && f.body.isSome
    | .none => false) = true) : ∃ fn, Tryz.prog.funcs[f]? = some fn ∧ fn.name ≠ "runtime.NumGoroutine" ∧ ∃ c, fn.body = some c := by
  split at h
  · rename_i f hf
    simp only [Bool.and_eq_true, beq_iff_eq] at h
    refine ⟨f, hf, fun q => ?_, Option.isSome_iff_exists.1 h.2⟩
    rw [q] at h
    exact absurd h.1 (by decide)
  · cases h
theorem isFair : ∃ fn, Tryz.prog.funcs[iFair]? = some fn ∧ fn.name ≠ "runtime.NumGoroutine" ∧ ∃ c, fn.body = some c := isFun (by kernel_rfl)
theorem isClone : ∃ fn, Tryz.prog.funcs[iClone]? = some fn ∧ fn.name ≠ "runtime.NumGoroutine" ∧ ∃ c, fn.body = some c := isFun (by kernel_rfl)
theorem tyInt : ∃ t, G0.ty tInt = some t ∧ t.agg = false ∧ t.size = 1 := by
  have : (match G0.ty tInt with | some t => not t.agg && Nat.beq t.size 1 | none => false) = true := by kernel_rfl
  revert this
  cases G0.ty tInt with
  | none => intro h; cases h
  | some t =>
    intro h
    simp only [Bool.and_eq_true, T.beq_true, Bool.not_eq_true'] at h
    exact ⟨t, rfl, h.1, h.2⟩
theorem load_kind {B : List OpR} {k : Nat} {ob : OpR} (h : B[k]? = some ob) {t : T O} (hb : t.get 1003 = some (rowO (cellsR B))) : ldP t k = some (.int .i64 ob.kind) := by
  obtain ⟨ty, y1, y2, y3⟩ := tyInt
  have e : Nat.add (Nat.add 0 (Nat.mul k 6)) 0 = 6 * k + 0 := by show 0 + k * 6 + 0 = _; omega
  have hc : cell (cellsR B).length (cellsR B) .leaf (6 * k + 0) = some (.int .i64 ob.kind) := leaf_cell (by rw [cellsR_get h 0 (by omega)]; rfl)
  unfold ldP rLoad
  rw [y1, e]
  simp only [hb, y2, Ev.partAt]
  rw [hc]
theorem act12 (c r : V) (w : Int) (l : V) (t q : Nat) : act GL (envL 129 ([(53, c), (54, r), (55, ii w)] ++ st12 r w l t q)).get (opAt r12 3).op = .call (some (.fn iFair [c, r, ii w])) := by kernel_rfl
theorem act13 (A : Bool) (c r : V) (v w : Int) (l : V) (t q : Nat) : act GL (envL 129 ([(60, c), (61, r), (66, ii v)] ++ st13 A r w l t q)).get (opAt r13 7).op = .call (some (.fn iFair [c, r, ii v])) := by kernel_rfl
theorem act18 (N : Bool) (k : Int) (r : V) (w : Int) (l : V) (t q : Nat) : act GL (envL 129 ([(105, r)] ++ st18 N k r w l t q)).get (opAt r18 1).op = .call (some (.fn iClone [r])) := by kernel_rfl
theorem act20 (N : Bool) (c r : V) (w : Int) (l : V) (t q : Nat) : act GL (envL 129 ([(112, c), (113, r), (114, ii w), (19, .bool N)] ++ hd l t q)).get (opAt r20 3).op = .call (some (.fn iFair [c, r, ii w])) := by kernel_rfl
theorem hop19 (env : Env) : act G0 env.get (opAt r19 4).op = .ef (fun h => fStore (G0.ty tOp) h (env.get (.tmp 110)) (env.get (.tmp 109))) := by kernel_rfl
section
variable {a c d e f g h i j : Int} {mm : Nat} {l : V} {o : Option O} {ms : List MixR} {W : World} {ρ : Ren} {kk : Nat} {Q : Exit → Act → World → Prop} {t q : Nat}
/-- Fair, where memory holds more -/
theorem fairC (hmm : mm = 1 ∨ mm = 2) (hM : MachV a mm c d e f g h i j = 0) {cf : List V} {n : Nat} {cc : Cap} {B : List OpR} {cs : Nat → Option Nat} {w : Int} (hn : B.length = n) (hnn : n ≤ 2000) (w0 : 1 ≤ w) (w1' : w ≤ 2000)
    (hc : ∀ k o, B[k]? = some o → ClsP (cs k) mm i o) {ρ : Ren} {cargs : Array Value} {W : World} (hS : Sim ρ ⟨tR o cf (cellsR B), 1010⟩ W) (ha : Rels ρ [cfgV a mm c d e f g h i j, .slice 1003 0 n cc, ii w] cargs.toList) (k : Nat) :
    CallsIn Fence.wide k Tryz.prog iFair cargs W (fun en w' => ∃ v, v = V.tuple [.bool (FR.fairB mm cs n w), z0] ∧ Below W.heap.size W w' ∧ ∃ c, en = .returned c ∧ ∀ ρ, Rel ρ v c) := by
  have hS2 : Sim ρ (FR.hI (cellsR B)) W := by
    refine sim_kept hS (Nat.le_refl _) fun b o1 hb => ?_
    simp only [FR.hI, T.get_put] at hb
    split at hb
    · rename_i q
      cases hb; subst q
      exact ⟨rowO (cellsR B), by simp only [tR, T.get_put]; rfl, fun r => (nomatch r), fun _ _ _ h => orel_ro h⟩
    · rw [T.get_leaf] at hb; cases hb
  exact (FR.call hmm hM hn hnn w0 w1' hc ha hS2 k).mono fun en w' ⟨c, e1, e2, e3⟩ => ⟨_, rfl, e2, c, e1, e3⟩
/-- Clone, where memory holds more -/
theorem cloneC {cf : List V} {n : Nat} {L : List V} (hL : L.length = n * 6) (h0 : 0 < n) (h1 : n ≤ 1000) {ρ : Ren} {cargs : Array Value} {W : World} (hS : Sim ρ ⟨tR o cf L, 1010⟩ W) (ha : Rels ρ [.slice 1003 0 n (.atl n 6)] cargs.toList) (k : Nat) :
    CallsIn Fence.wide k Tryz.prog iClone cargs W (Ret (Post ρ ⟨tR o cf L, 1010⟩ W (.slice 1011 0 n (.atl n 6)) ⟨T.put (tR o cf L) 1011 (some (rowO L)), 1012⟩)) := by
  have hl : ∀ b x, (tR o cf L).get b = some x → b < 1004 := fun b x hb => by
    simp only [tR, T.get_put] at hb
    split at hb
    · omega
    · have := tB_lt hb; omega
  have F : Framed ⟨tR o cf L, 1010⟩ (CL.hA L) (CL.hE L) ⟨T.put (tR o cf L) 1011 (some (rowO L)), 1012⟩ := by
    refine ⟨rfl, fun b o1 hb => ?_, rfl, fun b o1 hb => ?_⟩
    · simp only [CL.hA, T.get_put] at hb
      split at hb
      · rename_i q
        cases hb; subst q
        simp only [tR, T.get_put]; rfl
      · rw [T.get_leaf] at hb; cases hb
    · simp only [T.get_put] at hb
      split at hb
      · rename_i q
        cases hb; subst q
        exact .inl (by simp only [CL.hE, T.get_put]; rfl)
      · rename_i q
        have := hl b o1 hb
        by_cases q3 : b = 1003
        · subst q3
          simp only [tR, T.get_put, if_true] at hb
          cases hb
          exact .inl (by simp only [CL.hE, T.get_put]; rfl)
        · refine .inr ⟨by show b < 1010; omega, ?_, hb⟩
          simp only [CL.hA, T.get_put]
          rw [if_neg q3]
          exact T.get_leaf _
  refine (CL.call hL h0 h1 (hS.sub (Nat.le_refl _) F.part) ha k).mono fun en w' ⟨c, e1, ρ', p1, p2, p3⟩ => ?_
  obtain ⟨u1, u2⟩ := frame_rule F hS p1 p2
  exact ⟨c, e1, ρ', u1, u2, p3⟩
theorem tail (hW : ExtOK Tryz.prog GL) (hmm : mm = 1 ∨ mm = 2) (hM : MachV a mm c d e f g h i j = 0) (hq : q ≤ 255) (ha : ArgIs l o ms) {Bs : List OpR} {n : Nat} (hn : n = BK.wid mm * nOf ms) (hlen : Bs.length = n) (hg : LB.Good mm (t % BK.wid mm) i Bs)
    {aa : Act} {w1 : World} (A0 : At ρ (hA o) W (S (st12 (.slice 1003 0 n (.atl n 6)) (BK.wid mm : Int) l t q) ⟨tR o (cfgL a mm c d e f g h i j) (cellsR Bs), 1010⟩) aa w1)
    (hQ : ∀ st a' w', At ρ (hA o) W st a' w' → retB st → Q .ret a' w') : x12.wpIn Fence.wide kk Tryz.prog Q aa w1 := by
  have hG : GOk Tryz.prog GL := (mk_ok _).1
  have hG0 : GOk Tryz.prog G0 := (mk_ok _).1
  have hC : Codes GL := (mk_ok _).2
  have hC0 : Codes G0 := (mk_ok _).2
  have hK : KxOK GL sp2.kx := kx_none _
  have hwid := wid_pos hmm
  have hr : t % BK.wid mm < BK.wid mm := Nat.mod_lt _ (by omega)
  have hN : nOf ms ≤ 23 := by unfold nOf; omega
  have hN3 : 3 ≤ nOf ms := by unfold nOf; omega
  have hn1 : BK.wid mm * 3 ≤ n := by rw [hn]; exact Nat.mul_le_mul_left _ hN3
  have hn2 : n ≤ 7 * 23 := by rw [hn]; exact Nat.mul_le_mul hwid.2 hN
  have n12 : (cOps r12).size = 9 := q12n
  have n13 : (cOps r13).size = 13 := q13n
  have n18 : (cOps r18).size = 3 := q18n
  have n19 : (cOps r19).size = 5 := q19n
  have n20 : (cOps r20).size = 9 := q20n
  have hcl : (cellsR Bs).length = n * 6 := by rw [cellsR_len, hlen]
  obtain ⟨ff, f1, f2, cf, f3⟩ := isFair
  obtain ⟨fc, k1, k2, cc, k3⟩ := isClone
  generalize hr0 : V.slice 1003 0 n (.atl n 6) = sl at A0
  -- the first question
  rw [q12]
  refine wpIn_seq ?_
  rw [q12r]
  refine region_parts ?_
  rw [q12n]
  show wpOpsIn Fence.wide kk Tryz.prog (cOps r12) _ (List.range' 0 (3 + (5 + 1))) aa w1
  refine at_partW hG hC hW hK (N := 60) (fn := iBlocks) (n := 3) A0 (by omega) (K := KE ([(53, cfgV a mm c d e f g h i j), (54, sl), (55, ii (BK.wid mm : Int))] ++ st12 sl (BK.wid mm : Int) l t q) ⟨tR o (cfgL a mm c d e f g h i j) (cellsR Bs), 1010⟩) (by refine Eq.mpr (LB.w12a ..) ?_; repeat' (first | exact rfl | exact trivial | apply And.intro)) fun env h' a2 w2 hk A1 => ?_
  obtain ⟨g1, g2, g3⟩ := hk
  have g3 := FR.eqH_eq g3
  subst g3
  have A2 : At ρ (hA o) W (S ([(53, cfgV a mm c d e f g h i j), (54, sl), (55, ii (BK.wid mm : Int))] ++ st12 sl (BK.wid mm : Int) l t q) ⟨tR o (cfgL a mm c d e f g h i j) (cellsR Bs), 1010⟩) a2 w2 := at_less A1 (hasT_get g1) (Nat.le_of_eq g2.symm) (fun _ _ h => h) rfl rfl
  show wpOpsIn Fence.wide kk Tryz.prog (cOps r12) _ (List.range' 3 (5 + 1)) a2 w2
  refine at_call hG (i := 3) (m := 5) A2 p12 g12 (act12 _ _ _ _ _ _) f1 f2 f3 (Good := fun v => v = V.tuple [.bool true, z0]) (fun ρ' cargs hS' ha' m' => ?_) (fun v => ⟨_, rfl⟩) fun v env2 a3 w3 hv hput A3 => ?_
  · rw [← FP.fairA hmm hr (n := n) (Nat.le_refl (BK.wid mm)) (by omega)]
    subst hr0
    exact fairC hmm hM hlen (by omega) (by omega) (by omega) hg hS' ha' m'
  subst hv
  rw [d12] at hput
  cases hput
  have A4 : At ρ (hA o) W (S ([(56, .tuple [.bool true, z0])] ++ st12 sl (BK.wid mm : Int) l t q) ⟨tR o (cfgL a mm c d e f g h i j) (cellsR Bs), 1010⟩) a3 w3 := at_less A3 (hasT_get ⟨rfl, rfl, rfl, rfl, rfl, rfl, rfl, trivial⟩) (Nat.le_refl _) (fun _ _ h => h) rfl rfl
  show wpOpsIn Fence.wide kk Tryz.prog (cOps r12) _ (List.range' 4 (5 + 0)) a3 w3
  refine at_partW hG hC hW hK (N := 60) (fn := iBlocks) (n := 5) A4 (by omega) (K := KH (st13 true sl (BK.wid mm : Int) l t q) ⟨tR o (cfgL a mm c d e f g h i j) (cellsR Bs), 1010⟩) (by refine Eq.mpr (LB.w12b ..) ?_; repeat' (first | exact rfl | exact trivial | apply And.intro)) fun env h' a4 w4 hk A5 => ?_
  obtain ⟨g1, g2, g3⟩ := hk
  subst g3
  have A6 : At ρ (hA o) W (S (st13 true sl (BK.wid mm : Int) l t q) ⟨tR o (cfgL a mm c d e f g h i j) (cellsR Bs), 1010⟩) a4 w4 := at_less A5 (hasT_get g1) (Nat.le_of_eq g2.symm) (fun _ _ h => h) rfl rfl
  show Code.wpIn Fence.wide kk Tryz.prog x13 _ a4 w4
  -- the second
  rw [q13]
  refine wpIn_seq ?_
  rw [q13r]
  refine region_parts ?_
  rw [q13n]
  show wpOpsIn Fence.wide kk Tryz.prog (cOps r13) _ (List.range' 0 (7 + (5 + 1))) a4 w4
  have ew : wr .i64 (Int.add (wr .i64 (Int.add (BK.wid mm : Int) (Int.ofNat 1))) (wr .i64 (Int.ofNat q))) = ((BK.wid mm + 1 + q : Nat) : Int) := by
    rw [iadd, iadd, wr64 (n := (BK.wid mm : Int) + Int.ofNat 1) (by simp only [iofn]; omega) (by simp only [iofn]; omega), wr64 (n := Int.ofNat q) (by simp only [iofn]; omega) (by simp only [iofn]; omega), wr64 (by simp only [iofn]; omega) (by simp only [iofn]; omega)]
    simp only [iofn]
    omega
  refine at_partW hG hC hW hK (N := 60) (fn := iBlocks) (n := 7) A6 (by omega) (K := KE ([(60, cfgV a mm c d e f g h i j), (61, sl), (66, ii ((BK.wid mm + 1 + q : Nat) : Int))] ++ st13 true sl (BK.wid mm : Int) l t q) ⟨tR o (cfgL a mm c d e f g h i j) (cellsR Bs), 1010⟩) (by rw [← ew]; refine Eq.mpr (LB.w13a ..) ?_; repeat' (first | exact rfl | exact trivial | apply And.intro)) fun env h' a5 w5 hk A7 => ?_
  obtain ⟨g1, g2, g3⟩ := hk
  have g3 := FR.eqH_eq g3
  subst g3
  have A8 : At ρ (hA o) W (S ([(60, cfgV a mm c d e f g h i j), (61, sl), (66, ii ((BK.wid mm + 1 + q : Nat) : Int))] ++ st13 true sl (BK.wid mm : Int) l t q) ⟨tR o (cfgL a mm c d e f g h i j) (cellsR Bs), 1010⟩) a5 w5 := at_less A7 (hasT_get g1) (Nat.le_of_eq g2.symm) (fun _ _ h => h) rfl rfl
  show wpOpsIn Fence.wide kk Tryz.prog (cOps r13) _ (List.range' 7 (5 + 1)) a5 w5
  refine at_call hG (i := 7) (m := 5) A8 p13 g13 (act13 _ _ _ _ _ _ _ _) f1 f2 f3 (Good := fun v => v = V.tuple [.bool true, z0]) (fun ρ' cargs hS' ha' m' => ?_) (fun v => ⟨_, rfl⟩) fun v env2 a6 w6 hv hput A9 => ?_
  · rw [← FP.fairA hmm hr (n := n) (w := BK.wid mm + 1 + q) (by omega) (by omega)]
    subst hr0
    exact fairC hmm hM hlen (by omega) (by omega) (by omega) hg hS' ha' m'
  subst hv
  rw [d13] at hput
  cases hput
  have A10 : At ρ (hA o) W (S ([(67, .tuple [.bool true, z0])] ++ st13 true sl (BK.wid mm : Int) l t q) ⟨tR o (cfgL a mm c d e f g h i j) (cellsR Bs), 1010⟩) a6 w6 := at_less A9 (hasT_get ⟨rfl, rfl, rfl, rfl, rfl, rfl, rfl, rfl, rfl, trivial⟩) (Nat.le_refl _) (fun _ _ h => h) rfl rfl
  show wpOpsIn Fence.wide kk Tryz.prog (cOps r13) _ (List.range' 8 (5 + 0)) a6 w6
  refine at_partW hG hC hW hK (N := 60) (fn := iBlocks) (n := 5) A10 (by omega) (K := KH (st14 true true sl (BK.wid mm : Int) l t q) ⟨tR o (cfgL a mm c d e f g h i j) (cellsR Bs), 1010⟩) (by refine Eq.mpr (LB.w13b ..) ?_; repeat' (first | exact rfl | exact trivial | apply And.intro)) fun env h' a7 w7 hk A11 => ?_
  obtain ⟨g1, g2, g3⟩ := hk
  subst g3
  have A12 : At ρ (hA o) W (S (st14 true true sl (BK.wid mm : Int) l t q) ⟨tR o (cfgL a mm c d e f g h i j) (cellsR Bs), 1010⟩) a7 w7 := at_less A11 (hasT_get g1) (Nat.le_of_eq g2.symm) (fun _ _ h => h) rfl rfl
  show Code.wpIn Fence.wide kk Tryz.prog x14 _ a7 w7
  -- which one is left out
  have hqm : q % BK.wid mm < BK.wid mm := Nat.mod_lt _ (by omega)
  have ek : wr .i64 (Int.add (Int.ofNat (BK.wid mm)) (Int.tmod (wr .i64 (Int.ofNat q)) (Int.ofNat (BK.wid mm)))) = Int.ofNat (BK.wid mm + q % BK.wid mm) := by
    rw [wr64 (n := Int.ofNat q) (by simp only [iofn]; omega) (by simp only [iofn]; omega), iadd]
    simp only [iofn]
    rw [Int.tmod_eq_emod_of_nonneg (by omega)]
    rw [wr64 (by omega) (by omega)]
    omega
  generalize hkd : BK.wid mm + q % BK.wid mm = k at ek
  have hk1 : k + BK.wid mm ≤ n := by omega
  have hkB : k < Bs.length := by omega
  rw [q14b]
  refine at_list hG hC hW hK (N := 60) (fn := iBlocks) (K := KV (st17 (Int.ofNat k) sl (Int.ofNat (BK.wid mm)) l t q) ⟨tR o (cfgL a mm c d e f g h i j) (cellsR Bs), 1010⟩) (rest := x17) (fun st a8 w8 k8 A13 => ?_) (fun x' st a8 w8 hx k8 A13 => ?_) A12 ?_ ok14b
  rotate_left
  · cases x' with
    | normal => exact absurd rfl hx
    | ret => cases k8
    | exit _ => cases k8
  · rw [← ek]
    refine Eq.mpr (LB.w14 ..) ⟨?_, ?_⟩
    · rw [ieq_f]; simp only [iofn]; omega
    · repeat' (first | exact rfl | exact trivial | apply And.intro)
  have A14 := toS A13 k8.1 k8.2
  rw [q17]
  obtain ⟨ob, hob⟩ : ∃ ob, Bs[k]? = some ob := ⟨Bs[k], List.getElem?_eq_getElem hkB⟩
  have hcls := hg k ob hob
  refine wpIn_seq (at_w hG hC hW hK (N := 60) (fn := iBlocks) (K := KQ (st17 (Int.ofNat k) sl (Int.ofNat (BK.wid mm)) l t q) (fun v => v = some (.bool (need ob.kind))) ⟨tR o (cfgL a mm c d e f g h i j) (cellsR Bs), 1010⟩) A14 ?_ ok17 fun x' st' a9 w9 hK9 A15 => ?_)
  · subst hr0
    refine Eq.mpr (LB.w17 ..) ?_
    have hld : ldP (tR o (cfgL a mm c d e f g h i j) (cellsR Bs)) k = some (.int .i64 ob.kind) := load_kind hob (by simp only [tR, T.get_put]; rfl)
    have l1 : ilt (Int.ofNat k) (Int.ofNat n) = true := by rw [ilt_t]; simp only [iofn]; omega
    refine ⟨rfl, l1, ⟨_, hld⟩, fun y0 hy => ?_⟩
    rw [hld] at hy
    cases hy
    refine ⟨fun h7 => ⟨rfl, l1, ⟨_, hld⟩, fun y1 hy1 => ?_⟩, fun h7 => ⟨?_, ?_⟩⟩
    · rw [hld] at hy1
      cases hy1
      refine ⟨?_, ?_⟩
      · unfold need
        rw [Bool.not_eq_true'] at h7
        rw [h7, Bool.not_not]
      · repeat' (first | exact rfl | exact trivial | apply And.intro)
    · unfold need
      rw [Bool.not_eq_false'] at h7
      rw [h7]
    · repeat' (first | exact rfl | exact trivial | apply And.intro)
  cases x' with
  | exit _ => cases hK9
  | ret => cases hK9
  | normal =>
  obtain ⟨m1, m2, m3⟩ := hK9
  have m3 := FR.eqH_eq m3
  have hneed := FP.need_of hcls
  generalize need ob.kind = N at m1 hneed
  generalize hD : (csB mm (t % BK.wid mm) k).isNone = D at hneed
  have A16 : At ρ (hA o) W (S (st18 N (Int.ofNat k) sl (Int.ofNat (BK.wid mm)) l t q) ⟨tR o (cfgL a mm c d e f g h i j) (cellsR Bs), 1010⟩) a9 w9 := toS A15 ⟨⟨m1, m2.1⟩, m2.2⟩ m3
  show Code.wpIn Fence.wide kk Tryz.prog x18 _ a9 w9
  -- the copy
  rw [q18]
  refine wpIn_seq ?_
  rw [q18r]
  refine region_parts ?_
  rw [q18n]
  show wpOpsIn Fence.wide kk Tryz.prog (cOps r18) _ (List.range' 0 (1 + (1 + 1))) a9 w9
  refine at_partW hG hC hW hK (N := 60) (fn := iBlocks) (n := 1) A16 (by omega) (K := KH ([(105, sl)] ++ st18 N (Int.ofNat k) sl (Int.ofNat (BK.wid mm)) l t q) ⟨tR o (cfgL a mm c d e f g h i j) (cellsR Bs), 1010⟩) (by refine Eq.mpr (LB.w18a ..) ?_; repeat' (first | exact rfl | exact trivial | apply And.intro)) fun env h' a10 w10 hk A17 => ?_
  obtain ⟨g1, g2, g3⟩ := hk
  subst g3
  have A18 : At ρ (hA o) W (S ([(105, sl)] ++ st18 N (Int.ofNat k) sl (Int.ofNat (BK.wid mm)) l t q) ⟨tR o (cfgL a mm c d e f g h i j) (cellsR Bs), 1010⟩) a10 w10 := at_less A17 (hasT_get g1) (Nat.le_of_eq g2.symm) (fun _ _ h => h) rfl rfl
  show wpOpsIn Fence.wide kk Tryz.prog (cOps r18) _ (List.range' 1 (1 + 1)) a10 w10
  refine at_callM hG (i := 1) (m := 1) A18 p18 g18 (act18 _ _ _ _ _ _ _) k1 k2 k3 (v := .slice 1011 0 n (.atl n 6)) (h' := ⟨T.put (tR o (cfgL a mm c d e f g h i j) (cellsR Bs)) 1011 (some (rowO (cellsR Bs))), 1012⟩) (fun ρ cargs hS' ha' k' => by subst hr0; exact cloneC hcl (by omega) (by omega) hS' ha' k') (env' := ⟨129, T.put (envL 129 ([(105, sl)] ++ st18 N (Int.ofNat k) sl (Int.ofNat (BK.wid mm)) l t q)).tr 106 (some (.slice 1011 0 n (.atl n 6)))⟩) (by rw [d18]; rfl) fun a11 w11 A19 => ?_
  have A20 : At ρ (hA o) W (S ([(106, .slice 1011 0 n (.atl n 6))] ++ st18 N (Int.ofNat k) sl (Int.ofNat (BK.wid mm)) l t q) ⟨T.put (tR o (cfgL a mm c d e f g h i j) (cellsR Bs)) 1011 (some (rowO (cellsR Bs))), 1012⟩) a11 w11 := at_less A19 (hasT_get ⟨rfl, rfl, rfl, rfl, rfl, rfl, rfl, rfl, rfl, trivial⟩) (Nat.le_refl _) (fun _ _ h => h) rfl rfl
  show wpOpsIn Fence.wide kk Tryz.prog (cOps r18) _ (List.range' 2 (1 + 0)) a11 w11
  refine at_partW hG hC hW hK (N := 60) (fn := iBlocks) (n := 1) A20 (by omega) (K := KH ([(20, .slice 1011 0 n (.atl n 6))] ++ st18 N (Int.ofNat k) sl (Int.ofNat (BK.wid mm)) l t q) ⟨T.put (tR o (cfgL a mm c d e f g h i j) (cellsR Bs)) 1011 (some (rowO (cellsR Bs))), 1012⟩) (by refine Eq.mpr (LB.w18b ..) ?_; repeat' (first | exact rfl | exact trivial | apply And.intro)) fun env h' a12 w12 hk A21 => ?_
  obtain ⟨g1, g2, g3⟩ := hk
  subst g3
  have A22 : At ρ (hA o) W (S ([(20, .slice 1011 0 n (.atl n 6))] ++ st18 N (Int.ofNat k) sl (Int.ofNat (BK.wid mm)) l t q) ⟨T.put (tR o (cfgL a mm c d e f g h i j) (cellsR Bs)) 1011 (some (rowO (cellsR Bs))), 1012⟩) a12 w12 := at_less A21 (hasT_get g1) (Nat.le_of_eq g2.symm) (fun _ _ h => h) rfl rfl
  show Code.wpIn Fence.wide kk Tryz.prog x19 _ a12 w12
  -- the store
  rw [q19]
  refine wpIn_seq ?_
  rw [q19r]
  refine region_parts ?_
  rw [q19n]
  show wpOpsIn Fence.wide kk Tryz.prog (cOps r19) _ (List.range' 0 (4 + (1 + 0))) a12 w12
  refine at_partW hG hC hW hK (N := 60) (fn := iBlocks) (n := 4) A22 (by omega) (K := KH ([(110, .ptr 1011 (Nat.add 0 (Nat.mul k 6))), (109, useV), (20, .slice 1011 0 n (.atl n 6))] ++ st18 N (Int.ofNat k) sl (Int.ofNat (BK.wid mm)) l t q) ⟨T.put (tR o (cfgL a mm c d e f g h i j) (cellsR Bs)) 1011 (some (rowO (cellsR Bs))), 1012⟩) (by
    have l1 : ilt (Int.ofNat k) (Int.ofNat n) = true := by rw [ilt_t]; simp only [iofn]; omega
    refine Eq.mpr (LB.w19a ..) ?_
    repeat' (first | exact rfl | exact l1 | exact trivial | apply And.intro)) fun env h' a13 w13 hk A23 => ?_
  obtain ⟨g1, g2, g3⟩ := hk
  subst g3
  have A24 : At ρ (hA o) W (S ([(110, .ptr 1011 (Nat.add 0 (Nat.mul k 6))), (109, useV), (20, .slice 1011 0 n (.atl n 6))] ++ st18 N (Int.ofNat k) sl (Int.ofNat (BK.wid mm)) l t q) ⟨T.put (tR o (cfgL a mm c d e f g h i j) (cellsR Bs)) 1011 (some (rowO (cellsR Bs))), 1012⟩) a13 w13 := at_less A23 (hasT_get g1) (Nat.le_of_eq g2.symm) (fun _ _ h => h) rfl rfl
  rw [show Nat.add 0 (Nat.mul k 6) = k * 6 from Nat.zero_add _] at A24
  show wpOpsIn Fence.wide kk Tryz.prog (cOps r19) _ (List.range' 4 (1 + 0)) a13 w13
  refine at_storeR hG0 hC0 ext_none A24 (by omega) p19 g19 (hop19 _) t3 t6 (L := cellsR Bs) (M := opV FP.useR) rfl (b := 1011) (p := k * 6) (e := some tOp) rfl rfl (fun j v hj => by
    match j, hj with
    | 0, hj => cases hj; rfl
    | 1, hj => cases hj; rfl
    | 2, hj => cases hj; rfl
    | 3, hj => cases hj; rfl
    | 4, hj => cases hj; rfl
    | 5, hj => cases hj; rfl
    | j + 6, hj => cases hj) (by simp only [T.get_put]; rfl) (by omega) (by omega) d19 fun a14 w14 A25 => ?_
  rw [FP.over_set hkB] at A25
  have tl : ∀ b x, (tB o (cfgL a mm c d e f g h i j)).get b = some x → b < 1003 := fun b x h => tB_lt h
  have A26 : At ρ (hA o) W (S ((20, .slice 1011 0 n (.atl n 6)) :: ([(19, .bool N), (10, ii (Int.ofNat (BK.wid mm)))] ++ hd l t q)) ⟨T.put (tB o (cfgL a mm c d e f g h i j)) 1011 (some (rowO (cellsR (Bs.set k FP.useR)))), 1012⟩) a14 w14 := at_less A25 (hasT_get ⟨rfl, rfl, rfl, rfl, rfl, rfl, rfl, trivial⟩) (Nat.le_refl _) (fun b x hb => by
    simp only [T.get_put] at hb ⊢
    split at hb
    · rename_i q'
      rw [if_pos q']; exact hb
    · rename_i q'
      have := tl b x hb
      rw [if_neg q', if_neg q']
      simp only [tR, T.get_put]
      rw [if_neg (by omega)]
      exact hb) rfl rfl
  have A27 := back (m := 1003) (b' := 1011) (t := 20) (k := n) (s := 6) A26 (by omega) (by show 1001 ≤ 1003; omega) (by show 1000 ≤ 1001; omega) (fun b x hb => ⟨tB_lt hb, okO_tB ha hb⟩) (okO_row _) (fun p hp => by
    have hp : p ∈ ((19, V.bool N) :: (10, ii (Int.ofNat (BK.wid mm))) :: hd l t q) := hp
    simp only [List.mem_cons] at hp
    rcases hp with rfl | rfl | hp
    · rfl
    · rfl
    · exact hd_ok ha (Nat.le_refl _) p hp)
  have A28 : At ρ (hA o) W (S ([(20, .slice 1003 0 n (.atl n 6)), (19, .bool N), (10, ii (BK.wid mm : Int))] ++ hd l t q) ⟨tR o (cfgL a mm c d e f g h i j) (cellsR (Bs.set k FP.useR)), 1010⟩) a14 w14 := at_kept A27 (by show 1004 ≤ 1010; omega) (fun b o1 hb => ⟨o1, hb, id, fun _ _ _ h => h⟩)
  have hlen2 : (Bs.set k FP.useR).length = n := by rw [List.length_set, hlen]
  rw [hr0] at A28
  show Code.wpIn Fence.wide kk Tryz.prog x20 _ a14 w14
  -- the third question
  rw [q20]
  refine wpIn_seq ?_
  rw [q20r]
  refine region_parts ?_
  rw [q20n]
  show wpOpsIn Fence.wide kk Tryz.prog (cOps r20) _ (List.range' 0 (3 + (5 + 1))) a14 w14
  refine at_partW hG hC hW hK (N := 60) (fn := iBlocks) (n := 3) A28 (by omega) (K := KE ([(112, cfgV a mm c d e f g h i j), (113, sl), (114, ii (BK.wid mm : Int)), (19, .bool N)] ++ hd l t q) ⟨tR o (cfgL a mm c d e f g h i j) (cellsR (Bs.set k FP.useR)), 1010⟩) (by refine Eq.mpr (LB.w20a ..) ?_; repeat' (first | exact rfl | exact trivial | apply And.intro)) fun env h' a15 w15 hk A29 => ?_
  obtain ⟨g1, g2, g3⟩ := hk
  have g3 := FR.eqH_eq g3
  subst g3
  have A30 : At ρ (hA o) W (S ([(112, cfgV a mm c d e f g h i j), (113, sl), (114, ii (BK.wid mm : Int)), (19, .bool N)] ++ hd l t q) ⟨tR o (cfgL a mm c d e f g h i j) (cellsR (Bs.set k FP.useR)), 1010⟩) a15 w15 := at_less A29 (hasT_get g1) (Nat.le_of_eq g2.symm) (fun _ _ h => h) rfl rfl
  show wpOpsIn Fence.wide kk Tryz.prog (cOps r20) _ (List.range' 3 (5 + 1)) a15 w15
  refine at_call hG (i := 3) (m := 5) A30 p20 g20 (act20 _ _ _ _ _ _ _) f1 f2 f3 (Good := fun v => v = V.tuple [.bool D, z0]) (fun ρ' cargs hS' ha' m' => ?_) (fun v => ⟨_, rfl⟩) fun v env2 a16 w16 hv hput A31 => ?_
  · rw [← hD, ← FP.fairO hmm hr hk1 (by omega)]
    subst hr0
    exact fairC hmm hM hlen2 (by omega) (by omega) (by omega) (FP.good_set hmm hg k) hS' ha' m'
  subst hv
  rw [d20] at hput
  cases hput
  have A32 : At ρ (hA o) W (S ([(115, .tuple [.bool D, z0]), (19, .bool N)] ++ hd l t q) ⟨tR o (cfgL a mm c d e f g h i j) (cellsR (Bs.set k FP.useR)), 1010⟩) a16 w16 := at_less A31 (hasT_get ⟨rfl, rfl, rfl, rfl, rfl, rfl, trivial⟩) (Nat.le_refl _) (fun _ _ h => h) rfl rfl
  show wpOpsIn Fence.wide kk Tryz.prog (cOps r20) _ (List.range' 4 (5 + 0)) a16 w16
  refine at_partW hG hC hW hK (N := 60) (fn := iBlocks) (n := 5) A32 (by omega) (K := KH ([(21, .bool D), (22, z0), (19, .bool N)] ++ hd l t q) ⟨tR o (cfgL a mm c d e f g h i j) (cellsR (Bs.set k FP.useR)), 1010⟩) (by refine Eq.mpr (LB.w20b ..) ?_; repeat' (first | exact rfl | exact trivial | apply And.intro)) fun env h' a17 w17' hk A33 => ?_
  obtain ⟨g1, g2, g3⟩ := hk
  subst g3
  have A34 : At ρ (hA o) W (S ([(21, .bool D), (22, z0), (19, .bool N)] ++ hd l t q) ⟨tR o (cfgL a mm c d e f g h i j) (cellsR (Bs.set k FP.useR)), 1010⟩) a17 w17' := at_less A33 (hasT_get g1) (Nat.le_of_eq g2.symm) (fun _ _ h => h) rfl rfl
  show Code.wpIn Fence.wide kk Tryz.prog x21 _ a17 w17'
  refine at_w hG hC hW hK (N := 60) (fn := iBlocks) (K := fun x st => match x with | .ret => retB st | _ => False) A34 ?_ ok21 fun x' st' a18 w18 hK18 A35 => ?_
  · refine Eq.mpr (LB.w21 ..) ⟨?_, rfl⟩
    rw [hneed]
    cases D <;> rfl
  cases x' with
  | exit _ => cases hK18
  | normal => cases hK18
  | ret => exact hQ _ _ _ A35 hK18
end
end LB
end Go.Proofs.YtcbggkejlhifpaaGreatDoor
/-! BoundBlocks: whatever it is called with, it returns true. -/
namespace Go.Proofs.YtcbggkejlhifpaaGreatDoor
set_option maxRecDepth 100000
set_option maxHeartbeats 4000000
open Go.Ev Go.RowKit
namespace LB
theorem retB_out {st : St} (h : retB st) : ∃ h2 v, takeAll st.defs st.h = some h2 ∧ resultsO G0 h2 st.env fn = some v ∧ v = .bool true := by
  unfold retB at h
  split at h
  · split at h
    · exact ⟨_, _, by assumption, by assumption, h⟩
    · cases h
  · cases h
theorem hA_ro {o : Option O} (ho : ∀ x, o = some x → x.rw = false) : AllRo (hA o) := fun b x h => by
  have h : (tA o).get b = some x := h
  simp only [tA, T.get_put] at h
  split at h
  · exact ho x h
  · exact hVars_ro gs 1001 b x h
theorem arg_ro {l : V} {o : Option O} {ms : List MixR} (ha : ArgIs l o ms) : ∀ x, o = some x → x.rw = false := fun x h => by
  rcases ha with ⟨_, rfl, _⟩ | ⟨cc, _, rfl⟩ | ⟨cc, _, rfl, _⟩
  · cases h
  · cases h; rfl
  · cases h
/-- the law -/
theorem law (hW : ExtOK Tryz.prog GL) {a b c d e f g i : Int} (hu : u8r a ∧ u8r b ∧ u8r c ∧ u8r d ∧ u8r e ∧ u8r f ∧ u8r g ∧ u8r i) {l : V} {o : Option O} {ms : List MixR} (hl : ArgIs l o ms) (hin : ∀ m, m ∈ ms → mixIn m) {t q : Nat} (ht : t ≤ 255) (hq : q ≤ 255) {ρ : Ren} {cargs : Array Value} {W : World}
    (ha : Rels ρ [n8 a b c d e f g i, l, u t, u q] cargs.toList) (hS : Sim ρ (hA o) W) (k : Nat) :
    CallsIn Fence.wide k Tryz.prog iBlocks cargs W (fun en w' => en = .returned (.bool true) ∧ Below W.heap.size W w') := by
  have hG : GOk Tryz.prog GL := (mk_ok _).1
  have hC : Codes GL := (mk_ok _).2
  have hG0 : GOk Tryz.prog G0 := (mk_ok _).1
  have hK : KxOK GL sp.kx := kx_none _
  have hcf := conf_in hu
  have hM := MachV_t _ _ _ _ _ _ _ _ _ _ hcf
  obtain ⟨mm, hmm, e2⟩ : ∃ mm : Nat, (mm = 1 ∨ mm = 2) ∧ up b 2 = (mm : Int) := by
    obtain ⟨y, y1, y2, y3⟩ := up_eq (x := b) (n := 2) hu.2.1.1 (by decide) (by decide)
    exact ⟨(1 + y).toNat, by omega, by omega⟩
  obtain ⟨_, _, _, _, _, _, _, _, _, _, _, _, _, _, c1, c2, c3, _, _⟩ := hcf
  have wA := LB.wA a b c d e f g i l o t q
  rw [e2] at wA hM
  generalize up a 12 = A at wA hM
  generalize up c 4 = C at wA hM
  generalize up d 4 = D at wA hM
  generalize up e 4 = E at wA hM
  generalize up f 6 = F at wA hM
  generalize up (wr .u8 (Int.tdiv f (Int.ofNat 6))) 3 = G at wA hM
  generalize up g 5 = H' at wA hM c1 c2
  generalize capF g i = I at wA hM c2 c3
  generalize firstF i = J at wA hM
  have hwid := wid_pos hmm
  have hN : nOf ms ≤ 23 := by unfold nOf; omega
  refine callsIn_of_wp_marks isFn body trivial ?_
  rw [tmps]
  have hen := at_enter hS ha (n := 129) (show 4 ≤ 129 by decide)
  have A0 : At ρ (hA o) W (S [(0, n8 a b c d e f g i), (1, l), (2, u t), (3, u q)] (hA o)) _ W := at_less hen (hasT_get ⟨rfl, rfl, rfl, rfl, trivial⟩) (Nat.le_refl _) (fun _ _ h => h) rfl rfl
  rw [cut]
  refine at_list hG hC hW hK (N := 60) (fn := iBlocks) (K := KA (hd l t q) o (cfgL A mm C D E F G H' I J)) (rest := x2) (fun st a1 w1 k1 A1 => ?_) (fun x st a1 w1 hx k1 A1 => ?_) A0 ?_ ok0
  · obtain ⟨k1, k2, k3, k4, k5⟩ := k1
    have A2 : At ρ (hA o) W (S (hd l t q) ⟨tB o (cfgL A mm C D E F G H' I J), 1010⟩) a1 w1 := at_less (at_kept A1 (h2 := ⟨tB o (cfgL A mm C D E F G H' I J), 1010⟩) (by show st.h.next ≤ 1010; omega) fun b0 o0 hb => by
      rcases tB_get hb with ⟨rfl, rfl⟩ | hb
      · exact ⟨_, k3, id, fun _ _ _ h => h⟩
      · rcases tA_get hb with ⟨rfl, e⟩ | ⟨_, hb⟩
        · exact ⟨_, k4.trans e, id, fun _ _ _ h => h⟩
        · exact vars_keep k5 hb) (hasT_get k1.1) (Nat.le_of_eq k1.2.1.symm) (fun _ _ h => h) rfl (noDefs_eq k1.2.2).symm
    rw [cut2]
    have ew : wr .i64 (Int.add (mm : Int) (Int.ofNat 5)) = (BK.wid mm : Int) := by
      rcases hmm with rfl | rfl <;> decide
    refine at_list hG hC hW hK (N := 60) (fn := iBlocks) (K := KN ([(11, .nils), (10, .int .i64 (BK.wid mm : Int))] ++ hd l t q) ⟨tB o (cfgL A mm C D E F G H' I J), 1010⟩) (rest := x4) (fun st a2 w2 k2 A3 => ?_) (fun x st a2 w2 hx k2 A3 => ?_) A2 ?_ ok2
    · have A4 : At ρ (hA o) W (S ([(11, .nils), (10, .int .i64 (BK.wid mm : Int))] ++ hd l t q) ⟨tB o (cfgL A mm C D E F G H' I J), 1010⟩) a2 w2 := toS A3 k2.1 (FR.eqH_eq k2.2)
      refine build hW hmm ht (by omega) c3 hl hin A4 fun Bs a3 w3 b1 b2 A5 => ?_
      refine tail hW hmm hM hq hl (Bs := Bs) (n := BK.wid mm * nOf ms) rfl b1 b2 A5 fun st a' w' A6 hr => ?_
      obtain ⟨h2, v, e1, e3, e4⟩ := retB_out hr
      subst e4
      obtain ⟨ρ', s1, s2, s3, s4⟩ := A6
      exact body_out (n := k) hG0 e1 e3 s2 s1 s3 s4 fun c w2 c1 c2 c3 => ⟨by cases c1; rfl, c3.below (hA_ro (arg_ro hl))⟩
    · cases x with
      | normal => exact absurd rfl hx
      | ret => cases k2
      | exit _ => cases k2
    · rw [← ew]
      refine Eq.mpr (LB.w2 ..) ?_
      repeat' (first | exact rfl | exact trivial | apply And.intro)
  · cases x with
    | normal => exact absurd rfl hx
    | ret => cases k1
    | exit _ => cases k1
  · refine Eq.mpr wA ?_
    repeat' (first | exact rfl | exact trivial | apply And.intro)
end LB
end Go.Proofs.YtcbggkejlhifpaaGreatDoor

/- BoundBlocks: the script of blocks is built. -/
import Derived.Test.YtcbggkejlhifpaaGreatDoorLb3
namespace Go.Proofs.YtcbggkejlhifpaaGreatDoor
set_option maxRecDepth 100000
set_option maxHeartbeats 4000000
open Go.Ev Go.RowKit
namespace LB
section
variable {a c d e f g h i j : Int} {mm : Nat} {l : V} {o : Option O} {ms : List MixR} {W : World} {ρ : Ren} {kk : Nat} {Q : Exit → Act → World → Prop} {t q : Nat} {w : Int}
theorem wid_pos (hmm : mm = 1 ∨ mm = 2) : 6 ≤ BK.wid mm ∧ BK.wid mm ≤ 7 := by
  rcases hmm with rfl | rfl <;> decide
theorem bId_in (r : Nat) : 1054 ≤ BK.bId mm r ∧ BK.bId mm r ≤ 1057 := by
  unfold BK.bId
  split
  · unfold BK.bId1; split <;> omega
  · unfold BK.bId2; split <;> omega
/-- a block is made, where memory holds more -/
theorem mkBlk (hmm : mm = 1 ∨ mm = 2) (ht : t ≤ 255) {mr : MixR} (hm : mixIn mr) {T0 : T O} (hT : ∀ b x, T0.get b = some x → b < 1020) {ρ : Ren} {cargs : Array Value} {W : World} (hS : Sim ρ ⟨T0, 1020⟩ W) (ha : Rels ρ [cfgV a mm c d e f g h i j, mixV mr.k mr.m mr.a mr.b mr.c, u t] cargs.toList) (k : Nat) :
    CallsIn Fence.wide k Tryz.prog iBlock cargs W (Ret (Post ρ ⟨T0, 1020⟩ W (.slice (BK.bId mm (t % BK.wid mm)) 0 (BK.wid mm) (.atl (BK.wid mm) 6)) ⟨T.put T0 (BK.bId mm (t % BK.wid mm)) (some (rowO (cellsR (rot (t % BK.wid mm) (BK.blk mm i (mixF mr.k mr.m mr.a mr.b mr.c mm) mr.c))))), 1100⟩)) := by
  obtain ⟨m1, m2, m3, m4, m5⟩ := hm
  have F : Framed ⟨T0, 1020⟩ BK.hB ⟨T.put .leaf (BK.bId mm (t % BK.wid mm)) (some (rowO (cellsR (rot (t % BK.wid mm) (BK.blk mm i (mixF mr.k mr.m mr.a mr.b mr.c mm) mr.c))))), 1100⟩ ⟨T.put T0 (BK.bId mm (t % BK.wid mm)) (some (rowO (cellsR (rot (t % BK.wid mm) (BK.blk mm i (mixF mr.k mr.m mr.a mr.b mr.c mm) mr.c))))), 1100⟩ := by
    refine ⟨rfl, fun b o hb => by simp [BK.hB, T.get_leaf] at hb, rfl, fun b o hb => ?_⟩
    simp only [T.get_put] at hb
    split at hb
    · rename_i q
      refine .inl ?_
      simp only [T.get_put]
      rw [if_pos q]; exact hb
    · exact .inr ⟨hT b o hb, T.get_leaf _, hb⟩
  refine (BK.call hmm m1 m2 m3 m4 m5 ht (hS.sub (Nat.le_refl _) F.part) ha k).mono fun en w' ⟨c, e1, ρ', p1, p2, p3⟩ => ?_
  obtain ⟨u1, u2⟩ := frame_rule F hS p1 p2
  exact ⟨c, e1, ρ', u1, u2, p3⟩
theorem elems_row {H0 : H} {b n : Nat} {cp : Cap} {L : List V} (hb : H0.tr.get b = some (rowO L)) (hL : L.length = n * 6) : elems H0 6 (.slice b 0 n cp) = some (n, L) := by
  have : rGather H0 b 0 (Nat.mul n 6) = some L := by
    simp only [rGather, hb]
    rw [show Nat.mul n 6 = L.length from hL.symm]
    exact gather_leaf L
  simp only [elems, this]
/-- the append of a block -/
theorem app {QQ : Exit → Act → World → Prop} {h0 : H} {l : List (Nat × V)} {T0 : T O} {cf : List V} {Bs : List OpR} {row : List V} {bid wid k : Nat} {aa : Act} {ww : World} (hb1 : 1054 ≤ bid) (hb2 : bid ≤ 1057) (hw : 0 < wid) (hw2 : wid ≤ 7) (hk : k ≤ 100) (hrl : row.length = wid * 6) (hBs : Bs.length = wid * k) {mr : MixR} (hT : ∀ b x, (tB o cf).get b = some x → T0.get b = some x) (hT2 : ∀ k', k = k' + 1 → T0.get 1003 = some (rowO (cellsR Bs))) (hz : k = 0 → Bs = [])
    (A14 : At ρ h0 W ⟨envL 129 ([(45, rV wid k), (49, .slice bid 0 wid (.atl wid 6))] ++ l), ⟨T.put (tX T0 (mixL mr)) bid (some (rowO row)), 1100⟩, []⟩ aa ww)
    (h49 : (envL 129 ([(45, rV wid k), (49, .slice bid 0 wid (.atl wid 6))] ++ l)).get (.tmp 49) = some (.slice bid 0 wid (.atl wid 6))) (h45 : (envL 129 ([(45, rV wid k), (49, .slice bid 0 wid (.atl wid 6))] ++ l)).get (.tmp 45) = some (rV wid k)) (h50 : ∀ v, hasT ⟨129, T.put (envL 129 ([(45, rV wid k), (49, .slice bid 0 wid (.atl wid 6))] ++ l)).tr 50 (some v)⟩ ((50, v) :: l))
    (hq : ∀ a10 w10, At ρ h0 W ⟨envL 129 ((50, .slice 1100 0 (wid * (k + 1)) (.atl (wid * (k + 1)) 6)) :: l), ⟨T.put (tB o cf) 1100 (some (rowO (cellsR Bs ++ row))), 1101⟩, []⟩ a10 w10 → wpOpsIn Fence.wide kk Tryz.prog (cOps r10) QQ (List.range' 6 1) a10 w10) :
    wpOpsIn Fence.wide kk Tryz.prog (cOps r10) QQ (List.range' 5 (1 + 1)) aa ww := by
  have hG0 : GOk Tryz.prog G0 := (mk_ok _).1
  have hC0 : Codes G0 := (mk_ok _).2
  have n10 : (cOps r10).size = 7 := q10n
  have hwk : wid * k ≤ 7 * 100 := Nat.mul_le_mul hw2 hk
  have tl : ∀ b x, (tB o cf).get b = some x → b < 1003 := fun b x h => tB_lt h
  have gr : (T.put (tX T0 (mixL mr)) bid (some (rowO row))).get bid = some (rowO row) := by simp only [T.get_put]; rfl
  have keep : ∀ (t' : T O), (∀ b x, (tB o cf).get b = some x → t'.get b = some x) → (t'.get 1100 = some (rowO (cellsR Bs ++ row))) → ∀ b o1, (T.put (tB o cf) 1100 (some (rowO (cellsR Bs ++ row)))).get b = some o1 → ∃ o', t'.get b = some o' ∧ (o1.rw = true → o'.rw = true) ∧ ∀ ρ L c, ORel ρ o' L c → ORel ρ o1 L c := fun t' g1 g2 b o1 hb => by
    simp only [T.get_put] at hb
    split at hb
    · rename_i q
      cases hb; subst q
      exact ⟨_, g2, id, fun _ _ _ h => h⟩
    · exact ⟨o1, g1 b o1 hb, id, fun _ _ _ h => h⟩
  have low : ∀ b x, (tB o cf).get b = some x → (T.put (tX T0 (mixL mr)) bid (some (rowO row))).get b = some x := fun b x hb => by
    have := tl b x hb
    simp only [tX, T.get_put]
    rw [if_neg (by omega), if_neg (by omega)]
    exact hT b x hb
  cases k with
  | zero =>
    have hB0 := hz rfl
    subst hB0
    have e0 : wid * (0 + 1) = wid := by omega
    rw [e0] at hq
    refine at_appendN hG0 hC0 ext_none A14 (by omega) p10a g10a (hop _) t1 t2 t3 t1 t5 (el := row) (s := 6) t6 (by decide) (n := wid) hw h45 (by omega) (yv := .slice bid 0 wid (.atl wid 6)) h49 ?_ d10a rfl fun a' w' A => hq a' w' ?_
    · rw [t6]; exact elems_row gr hrl
    · refine at_less (at_kept A (h2 := ⟨T.put (tB o cf) 1100 (some (rowO (cellsR [] ++ row))), 1101⟩) (Nat.le_refl _) (keep _ (fun b x hb => ?_) ?_)) (hasT_get (h50 _)) (Nat.le_refl _) (fun _ _ h => h) rfl rfl
      · have := tl b x hb
        simp only [T.get_put]
        rw [if_neg (by omega)]
        have := low b x hb
        simp only [T.get_put] at this
        exact this
      · simp only [T.get_put]; rfl
  | succ k =>
    have e1 : wid * (k + 1) + wid = wid * (k + 1 + 1) := by rw [Nat.mul_succ wid (k + 1)]
    have g3 : (T.put (tX T0 (mixL mr)) bid (some (rowO row))).get 1003 = some (rowO (cellsR Bs)) := by
      simp only [tX, T.get_put]
      rw [if_neg (by omega), if_neg (by omega)]
      exact hT2 k rfl
    refine at_appendM hG0 hC0 ext_none A14 (by omega) p10a g10a (hop _) t1 t2 t3 t1 t5 (L := cellsR Bs) (el := row) (s := 6) t6 (by decide) (b := 1003) (k := wid * (k + 1)) (n := wid) (e := some tOp) hw (by rw [cellsR_len, hBs]) h45 g3 (by omega) (yv := .slice bid 0 wid (.atl wid 6)) h49 ?_ d10a rfl fun a' w' A => hq a' w' ?_
    · rw [t6]; exact elems_row gr hrl
    · rw [e1] at A
      refine at_less (at_kept A (h2 := ⟨T.put (tB o cf) 1100 (some (rowO (cellsR Bs ++ row))), 1101⟩) (Nat.le_refl _) (keep _ (fun b x hb => ?_) ?_)) (hasT_get (h50 _)) (Nat.le_refl _) (fun _ _ h => h) rfl rfl
      · have := tl b x hb
        simp only [T.get_put]
        rw [if_neg (by omega), if_neg (by omega)]
        have := low b x hb
        simp only [T.get_put] at this
        exact this
      · simp only [T.get_put]
        rfl
theorem build (hW : ExtOK Tryz.prog GL) (hmm : mm = 1 ∨ mm = 2) (ht : t ≤ 255) (hc1 : 1 ≤ i) (hc2 : i ≤ 1048576) (ha : ArgIs l o ms) (hin : ∀ m, m ∈ ms → mixIn m) {aa : Act} {w1 : World}
    (A0 : At ρ (hA o) W (S ([(11, .nils), (10, .int .i64 w)] ++ hd l t q) ⟨tB o (cfgL a mm c d e f g h i j), 1010⟩) aa w1)
    (hQ : ∀ Bs a' w', Bs.length = BK.wid mm * nOf ms → Good mm (t % BK.wid mm) i Bs → At ρ (hA o) W (S ([(11, .slice 1003 0 (BK.wid mm * nOf ms) (.atl (BK.wid mm * nOf ms) 6)), (10, .int .i64 w)] ++ hd l t q) ⟨tR o (cfgL a mm c d e f g h i j) (cellsR Bs), 1010⟩) a' w' → x12.wpIn Fence.wide kk Tryz.prog Q a' w') : x4.wpIn Fence.wide kk Tryz.prog Q aa w1 := by
  have hG : GOk Tryz.prog GL := (mk_ok _).1
  have hG0 : GOk Tryz.prog G0 := (mk_ok _).1
  have hC : Codes GL := (mk_ok _).2
  have hC0 : Codes G0 := (mk_ok _).2
  have hK : KxOK GL sp.kx := kx_none _
  have hwid := wid_pos hmm
  have hr : t % BK.wid mm < BK.wid mm := Nat.mod_lt _ (by omega)
  have hN : nOf ms ≤ 23 := by unfold nOf; omega
  have hN3 : 3 ≤ nOf ms := by unfold nOf; omega
  rw [q4]
  refine wpIn_seq ?_
  rw [q5]
  refine wpIn_seq (at_w hG hC hW hK (N := 60) (fn := iBlocks) A0 (e4 ha _) ok4 fun x' st' a4 w4 hK4 A4 => ?_)
  cases x' with
  | exit _ => cases hK4
  | ret => cases hK4
  | normal =>
  have A5 := toS A4 hK4.1 hK4.2
  show Code.wpIn Fence.wide kk Tryz.prog bl _ a4 w4
  rw [q6]
  refine wpIn_block ?_
  rw [q7]
  refine wpIn_loop_down (fun m a' w' => ∃ k Bs, m = nOf ms - k ∧ k ≤ nOf ms ∧ Bs.length = BK.wid mm * k ∧ Good mm (t % BK.wid mm) i Bs ∧ At ρ (hA o) W (S (inv l t q w (rV (BK.wid mm) k) (Int.ofNat (nOf ms)) (Int.ofNat k)) ⟨tI o (cfgL a mm c d e f g h i j) Bs k, 1010⟩) a' w') (fun m a' w' hJ => ?_) (m := nOf ms) ⟨0, [], by omega, by omega, rfl, fun j o h => by simp at h, A5⟩
  obtain ⟨k, Bs, j1, j2, j3, j4, A6⟩ := hJ
  rw [q8]
  refine at_list hG hC hW hK (N := 60) (fn := iBlocks) (K := KX (inv l t q w (rV (BK.wid mm) k) (Int.ofNat (nOf ms)) (Int.ofNat k)) ⟨tI o (cfgL a mm c d e f g h i j) Bs k, 1010⟩ (k < nOf ms)) (rest := y7) (fun st a6 w6 k6 A7 => ?_) (fun x' st a6 w6 hx k6 A7 => ?_) A6 ?_ ok5
  rotate_left
  · cases x' with
    | normal => exact absurd rfl hx
    | ret => cases k6
    | exit q' =>
      obtain ⟨l0, l1, l2, l3⟩ := k6
      rw [T.beq_true] at l1
      subst l1
      have hin' : k = nOf ms := by have := Nat.not_lt.1 l0; omega
      have A8 := toS A7 l2 l3
      simp only [XE, Exit.then, Exit.inBlock, if_true]
      show Code.wpIn Fence.wide kk Tryz.prog x12 _ a6 w6
      obtain ⟨k', hk'⟩ : ∃ k', k = k' + 1 := ⟨k - 1, by omega⟩
      refine hQ Bs _ _ (by rw [← hin']; exact j3) j4 ?_
      rw [← hin', hk']
      rw [hk'] at A8
      exact at_less A8 (hasT_get ⟨rfl, rfl, rfl, rfl, rfl, rfl, trivial⟩) (Nat.le_refl _) (fun _ _ h => h) rfl rfl
  · refine Eq.mpr (LB.w5 ..) ?_
    refine ⟨fun qq => ⟨by have := ilt_t.1 qq; simp only [iofn] at this; omega, ?_⟩, fun qq => ⟨fun _ => by have := ilt_f.1 qq; simp only [iofn] at this; omega, ?_⟩⟩
    repeat' (first | exact rfl | exact trivial | apply And.intro)
  obtain ⟨hlt, k7, k8⟩ := k6
  have A8 := toS A7 k7 k8
  rw [q9]
  refine wpIn_seq ?_
  rw [q10]
  refine wpIn_block ?_
  rw [q11]
  refine at_list hG hC hW hK (N := 60) (fn := iBlocks) (rest := r10) (fun st a7 w7 k9 A9 => ?_) (fun x' st a7 w7 hx k9 A9 => ?_) A8 (e6 ha hin (cf := cfgL a mm c d e f g h i j) (Bs := Bs) (rV (BK.wid mm) k) k) ok6
  rotate_left
  · cases x' with
    | normal => exact absurd rfl hx
    | ret => cases k9
    | exit _ => cases k9
  obtain ⟨⟨mr, m1, m2⟩, s1, s2, s3, s4, s5, s6⟩ := k9
  have A10 : At ρ (hA o) W (S ((13, .ptr 1010 0) :: inv l t q w (rV (BK.wid mm) k) (Int.ofNat (nOf ms)) (Int.ofNat k)) ⟨tX (tI o (cfgL a mm c d e f g h i j) Bs k) (mixL mr), 1020⟩) a7 w7 := at_less (at_kept A9 (h2 := ⟨tX (tI o (cfgL a mm c d e f g h i j) Bs k) (mixL mr), 1020⟩) (by show st.h.next ≤ 1020; omega) (keep6 m2 s3 s4 s5 s6)) (hasT_get s1.1) (Nat.le_of_eq s1.2.1.symm) (fun _ _ h => h) rfl (noDefs_eq s1.2.2).symm
  have tlt : ∀ b x, (tX (tI o (cfgL a mm c d e f g h i j) Bs k) (mixL mr)).get b = some x → b < 1020 := fun b x hb => by
    simp only [tX, T.get_put] at hb
    split at hb
    · omega
    · have := tI_lt hb; omega
  rw [q10r]
  refine region_parts ?_
  rw [q10n]
  show wpOpsIn Fence.wide kk Tryz.prog (cOps r10) _ (List.range' 0 (4 + (2 + 1))) a7 w7
  have n10 : (cOps r10).size = 7 := q10n
  have h10 : regW GL sp cT iBlocks (cOps r10) (opsPart (cOps r10) 0 4) (envL 129 ((13, .ptr 1010 0) :: inv l t q w (rV (BK.wid mm) k) (Int.ofNat (nOf ms)) (Int.ofNat k))) ⟨tX (tI o (cfgL a mm c d e f g h i j) Bs k) (mixL mr), 1020⟩ (KE ([(45, rV (BK.wid mm) k), (46, cfgV a mm c d e f g h i j), (47, mixV mr.k mr.m mr.a mr.b mr.c), (48, u t)] ++ inv l t q w (rV (BK.wid mm) k) (Int.ofNat (nOf ms)) (Int.ofNat k)) ⟨tX (tI o (cfgL a mm c d e f g h i j) Bs k) (mixL mr), 1020⟩) := by
    cases k with
    | zero =>
      refine Eq.mpr (LB.w10F ..) ?_
      repeat' (first | exact rfl | exact trivial | apply And.intro)
    | succ k =>
      refine Eq.mpr (LB.w10W ..) ?_
      repeat' (first | exact rfl | exact trivial | apply And.intro)
  refine at_partW hG hC hW hK (N := 60) (fn := iBlocks) (n := 4) A10 (by omega) h10 fun env h' a8 w8 hk A11 => ?_
  obtain ⟨g1, g2, g3⟩ := hk
  have g3 := FR.eqH_eq g3
  subst g3
  have A12 : At ρ (hA o) W (S ([(45, rV (BK.wid mm) k), (46, cfgV a mm c d e f g h i j), (47, mixV mr.k mr.m mr.a mr.b mr.c), (48, u t)] ++ inv l t q w (rV (BK.wid mm) k) (Int.ofNat (nOf ms)) (Int.ofNat k)) ⟨tX (tI o (cfgL a mm c d e f g h i j) Bs k) (mixL mr), 1020⟩) a8 w8 := at_less A11 (hasT_get g1) (Nat.le_of_eq g2.symm) (fun _ _ h => h) rfl rfl
  obtain ⟨fo, o1, o2, co, o3⟩ := isBlk
  show wpOpsIn Fence.wide kk Tryz.prog (cOps r10) _ (List.range' 4 (2 + 1)) a8 w8
  generalize hrow : cellsR (rot (t % BK.wid mm) (BK.blk mm i (mixF mr.k mr.m mr.a mr.b mr.c mm) mr.c)) = row
  have hrl : row.length = BK.wid mm * 6 := by rw [← hrow, cellsR_len, rot_len, blk_len hmm]
  have hbid := bId_in (mm := mm) (t % BK.wid mm)
  refine at_callM hG (i := 4) (m := 2) A12 p10 g10 (act10 _ _ _ _ _ _ _ _ _) o1 o2 o3 (v := .slice (BK.bId mm (t % BK.wid mm)) 0 (BK.wid mm) (.atl (BK.wid mm) 6)) (h' := ⟨T.put (tX (tI o (cfgL a mm c d e f g h i j) Bs k) (mixL mr)) (BK.bId mm (t % BK.wid mm)) (some (rowO row)), 1100⟩) (fun ρ cargs hS' ha' k' => by rw [← hrow]; exact mkBlk hmm ht m1 tlt hS' ha' k') (env' := ⟨129, T.put (envL 129 ([(45, rV (BK.wid mm) k), (46, cfgV a mm c d e f g h i j), (47, mixV mr.k mr.m mr.a mr.b mr.c), (48, u t)] ++ inv l t q w (rV (BK.wid mm) k) (Int.ofNat (nOf ms)) (Int.ofNat k))).tr 49 (some (.slice (BK.bId mm (t % BK.wid mm)) 0 (BK.wid mm) (.atl (BK.wid mm) 6)))⟩) (by rw [d10]; rfl) fun a9 w9 A13 => ?_
  have A14 : At ρ (hA o) W ⟨envL 129 ([(45, rV (BK.wid mm) k), (49, .slice (BK.bId mm (t % BK.wid mm)) 0 (BK.wid mm) (.atl (BK.wid mm) 6))] ++ inv l t q w (rV (BK.wid mm) k) (Int.ofNat (nOf ms)) (Int.ofNat k)), ⟨T.put (tX (tI o (cfgL a mm c d e f g h i j) Bs k) (mixL mr)) (BK.bId mm (t % BK.wid mm)) (some (rowO row)), 1100⟩, []⟩ a9 w9 := at_less A13 (hasT_get ⟨rfl, rfl, rfl, rfl, rfl, rfl, rfl, rfl, rfl, rfl, trivial⟩) (Nat.le_refl _) (fun _ _ h => h) rfl rfl
  show wpOpsIn Fence.wide kk Tryz.prog (cOps r10) _ (List.range' 5 (1 + 1)) a9 w9
  refine app (o := o) (cf := cfgL a mm c d e f g h i j) (Bs := Bs) (k := k) hbid.1 hbid.2 (by omega) hwid.2 (by omega) hrl j3 (fun b x hb => ?_) (fun k' e => ?_) (fun e => ?_) A14 rfl rfl (fun v => ⟨rfl, rfl, rfl, rfl, rfl, rfl, rfl, rfl, rfl, trivial⟩) fun a10 w10 A15 => ?_
  · cases k with
    | zero => exact hb
    | succ k =>
      have := tB_lt hb
      simp only [tI, tR, T.get_put]
      rw [if_neg (by omega)]
      exact hb
  · subst e
    simp only [tI, tR, T.get_put]; rfl
  · subst e
    exact List.eq_nil_of_length_eq_zero (by rw [j3]; rfl)
  refine at_partW hG hC hW hK (N := 60) (fn := iBlocks) (n := 1) (m := 0) A15 (by omega) (K := KH (inv l t q w (.slice 1100 0 (BK.wid mm * (k + 1)) (.atl (BK.wid mm * (k + 1)) 6)) (Int.ofNat (nOf ms)) (Int.ofNat k)) ⟨T.put (tB o (cfgL a mm c d e f g h i j)) 1100 (some (rowO (cellsR Bs ++ row))), 1101⟩) ?_ fun env h' a11 w11 hk A16 => ?_
  · refine Eq.mpr (LB.w10c ..) ?_
    repeat' (first | exact rfl | exact trivial | apply And.intro)
  obtain ⟨g1, g2, g3⟩ := hk
  subst g3
  have A17 : At ρ (hA o) W (S (inv l t q w (.slice 1100 0 (BK.wid mm * (k + 1)) (.atl (BK.wid mm * (k + 1)) 6)) (Int.ofNat (nOf ms)) (Int.ofNat k)) ⟨T.put (tB o (cfgL a mm c d e f g h i j)) 1100 (some (rowO (cellsR Bs ++ row))), 1101⟩) a11 w11 := at_less A16 (hasT_get g1) (Nat.le_of_eq g2.symm) (fun _ _ h => h) rfl rfl
  show Code.wpIn Fence.wide kk Tryz.prog r11 _ a11 w11
  refine at_w hG hC hW hK (N := 60) (fn := iBlocks) (K := KV (inv l t q w (.slice 1100 0 (BK.wid mm * (k + 1)) (.atl (BK.wid mm * (k + 1)) 6)) (Int.ofNat (nOf ms)) (wr .i64 (Int.add (Int.ofNat k) (Int.ofNat 1)))) ⟨T.put (tB o (cfgL a mm c d e f g h i j)) 1100 (some (rowO (cellsR Bs ++ row))), 1101⟩) A17 ?_ ok11 fun x' st' a12 w12 hK12 A18 => ?_
  · refine Eq.mpr (LB.w11 ..) ?_
    repeat' (first | exact rfl | exact trivial | apply And.intro)
  cases x' with
  | exit _ => cases hK12
  | ret => cases hK12
  | normal =>
  have A19 := toS A18 hK12.1 hK12.2
  have e2 : wr .i64 (Int.add (Int.ofNat k) (Int.ofNat 1)) = Int.ofNat (k + 1) := by
    rw [iadd, wr64 (by simp only [iofn]; omega) (by simp only [iofn]; omega)]; rfl
  rw [e2] at A19
  have A20 := back (m := 1003) (b' := 1100) (t := 11) (k := BK.wid mm * (k + 1)) (s := 6) (o := rowO (cellsR Bs ++ row)) A19 (by omega) (by show 1001 ≤ 1003; omega) (by show 1000 ≤ 1001; omega) (fun b x hb => ⟨tB_lt hb, okO_tB ha hb⟩) (by rw [← hrow, ← cellsR_app]; exact okO_row _) (fun p hp => by
    have hp : p ∈ ((10, V.int .i64 w) :: (31, V.int .i64 (Int.ofNat (nOf ms))) :: (32, V.int .i64 (Int.ofNat (k + 1))) :: hd l t q) := hp
    simp only [List.mem_cons] at hp
    rcases hp with rfl | rfl | rfl | hp
    · rfl
    · rfl
    · rfl
    · exact hd_ok ha (Nat.le_refl _) p hp)
  show ∃ m', _
  refine ⟨nOf ms - (k + 1), by omega, k + 1, Bs ++ rot (t % BK.wid mm) (BK.blk mm i (mixF mr.k mr.m mr.a mr.b mr.c mm) mr.c), rfl, by omega, ?_, good_app hmm hr hc1 hc2 m1 j3 j4, ?_⟩
  · rw [List.length_append, rot_len, blk_len hmm, j3, Nat.mul_succ]
  · have e3 : (⟨tI o (cfgL a mm c d e f g h i j) (Bs ++ rot (t % BK.wid mm) (BK.blk mm i (mixF mr.k mr.m mr.a mr.b mr.c mm) mr.c)) (k + 1), 1010⟩ : H) = ⟨T.put (tB o (cfgL a mm c d e f g h i j)) 1003 (some (rowO (cellsR Bs ++ row))), 1010⟩ := by
      simp only [tI, tR]
      rw [cellsR_app, hrow]
    rw [e3]
    exact at_kept A20 (by show 1004 ≤ 1010; omega) (fun b o1 hb => ⟨o1, hb, id, fun _ _ _ h => h⟩)
end
end LB
end Go.Proofs.YtcbggkejlhifpaaGreatDoor

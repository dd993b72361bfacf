/- PlayScripts: whatever it is called with, it returns true. -/
import Derived.Test.YtjbpagfjpdinjaaGreatDoorLw5
namespace Go.Proofs.YtjbpagfjpdinjaaGreatDoor
set_option maxRecDepth 100000
set_option maxHeartbeats 2000000
open Go.Ev Go.RowKit
namespace LT
section
variable {a b c d e f g h i j : Int} {s : Int} {W : World} {ρ : Ren} {kk : Nat} {Q : Exit → Act → World → Prop}
theorem second (hW : ExtOK Tryz.prog GL) (hM : MachV a b c d e f g h i j = 0) (hb1 : 1 ≤ b) (hb2 : b ≤ 4) (hs0 : 0 ≤ s) (hs1 : s < 18446744073709551616) {p q : Nat} (hp : p ≤ 255) (hq : q ≤ 255) {aa : Act} {w : World}
    (A0 : At ρ hA W (S ([(10, lV 1002 p), (11, z0)] ++ hd s p q) ⟨tS (wr .u32 s) b 1002 (tB (cfgL a b c d e f g h i j)) p, 1010⟩) aa w)
    (hQ : ∀ st a w, At ρ hA W st a w → retIs (fun v => v = .bool true) st → Q .ret a w) : x3.wpIn Fence.wide kk Tryz.prog Q aa w := by
  have hG : GOk Tryz.prog GL := (mk_ok _).1
  have hC : Codes GL := (mk_ok _).2
  have n3 : (cOps r3).size = 14 := q3n
  have hx : inX (wr .u32 (xr s)) := by rw [xr_eq hs0 hs1, wr_u32 hs0]; unfold inX; omega
  have tget : ∀ k o, (tS (wr .u32 s) b 1002 (tB (cfgL a b c d e f g h i j)) p).get k = some o → k < 1003 ∧ ∀ m, okO m o := fun k o q => by
    cases p with
    | zero => exact ⟨by have := tB_lt q; omega, fun m => okO_tB q⟩
    | succ p =>
      simp only [tS, T.get_put] at q
      split at q
      · rename_i r; cases q; exact ⟨by omega, fun m => okO_rowm _⟩
      · exact ⟨by have := tB_lt q; omega, fun m => okO_tB q⟩
  rw [q3]
  refine wpIn_seq ?_
  rw [q3r]
  refine region_parts ?_
  rw [q3n]
  show wpOpsIn Fence.wide kk Tryz.prog (cOps r3) _ (List.range' 0 (8 + (5 + 1))) aa w
  have hw3 : regW GL sp cT iScripts (cOps r3) (opsPart (cOps r3) 0 8) (envL 93 ([(10, lV 1002 p), (11, z0)] ++ hd s p q)) ⟨tS (wr .u32 s) b 1002 (tB (cfgL a b c d e f g h i j)) p, 1010⟩ (KR ([(27, cfgV a b c d e f g h i j), (34, .int .i64 (sm p q)), (10, lV 1002 p), (11, z0)] ++ hd s p q) ⟨tS (wr .u32 s) b 1002 (tB (cfgL a b c d e f g h i j)) p, 1010⟩ (fun s' => s' = xr s)) := by
    cases p with
    | zero =>
      refine Eq.mpr (LT.w3aF ..) ?_
      repeat' (first | exact rfl | exact trivial | apply And.intro)
    | succ p =>
      refine Eq.mpr (LT.w3aW ..) ?_
      repeat' (first | exact rfl | exact trivial | apply And.intro)
  refine at_partW hG hC hW kxU_ok (sp := sp) (N := 60) (fn := iScripts) (n := 8) A0 (by omega) hw3 fun env h' a1 w1 hk A1 => ?_
  obtain ⟨g1, g2, g3', g4⟩ := hk
  have g3' := RN.eqH_eq g3'
  subst g3'
  have g5 : env.tr.get 29 = some (.int .u64 (xr s)) := by
    split at g4
    · rename_i s' hs'
      rw [hs', g4]
    · cases g4
  have A2 : At ρ hA W (S ((29, .int .u64 (xr s)) :: ([(27, cfgV a b c d e f g h i j), (34, .int .i64 (sm p q)), (10, lV 1002 p), (11, z0)] ++ hd s p q)) ⟨tS (wr .u32 s) b 1002 (tB (cfgL a b c d e f g h i j)) p, 1010⟩) a1 w1 := at_less A1 (hasT_get ⟨g5, g1⟩) (Nat.le_of_eq g2.symm) (fun _ _ h => h) rfl rfl
  obtain ⟨fo, o1, o2, co, o3⟩ := isRan
  show wpOpsIn Fence.wide kk Tryz.prog (cOps r3) _ (List.range' 8 (5 + 1)) a1 w1
  refine at_callM hG (i := 8) (m := 5) A2 p3 g3 (act3' _ _ _ _ _ _ _) o1 o2 o3 (v := .tuple [RN.rV (p + q), z0]) (h' := ⟨tR (wr .u32 (xr s)) b (tS (wr .u32 s) b 1002 (tB (cfgL a b c d e f g h i j)) p) (p + q), 1047⟩) (fun ρ cargs hS' ha' k' => rand hM hb1 hb2 hx (n := p + q) (by omega) (fun k o q => by have := (tget k o q).1; omega) hS' (by rw [← sm_eq hp hq]; exact ha') k') (env' := ⟨93, T.put (envL 93 ((29, .int .u64 (xr s)) :: ([(27, cfgV a b c d e f g h i j), (34, .int .i64 (sm p q)), (10, lV 1002 p), (11, z0)] ++ hd s p q))).tr 35 (some (.tuple [RN.rV (p + q), z0]))⟩) (by rw [d3]; rfl) fun a2 w2 A3 => ?_
  have A4 : At ρ hA W (S ([(35, .tuple [RN.rV (p + q), z0]), (10, lV 1002 p), (11, z0)] ++ hd s p q) ⟨tR (wr .u32 (xr s)) b (tS (wr .u32 s) b 1002 (tB (cfgL a b c d e f g h i j)) p) (p + q), 1047⟩) a2 w2 := at_less A3 (hasT_get ⟨rfl, rfl, rfl, rfl, rfl, rfl, rfl, trivial⟩) (Nat.le_refl _) (fun _ _ h => h) rfl rfl
  show wpOpsIn Fence.wide kk Tryz.prog (cOps r3) _ (List.range' 9 (5 + 0)) a2 w2
  refine at_partW hG hC hW kxU_ok (sp := sp) (N := 60) (fn := iScripts) (n := 5) (m := 0) (K := KH (e4 p q (lV 1002 p) (RN.rV (p + q))) ⟨tR (wr .u32 (xr s)) b (tS (wr .u32 s) b 1002 (tB (cfgL a b c d e f g h i j)) p) (p + q), 1047⟩) A4 (by omega) (by refine Eq.mpr (LT.w3b ..) ?_; repeat' (first | exact rfl | exact trivial | apply And.intro)) fun env h' a3 w3 hk A5 => ?_
  obtain ⟨g1, g2, g3'⟩ := hk
  subst g3'
  have A6 : At ρ hA W (S ((12, RN.rV (p + q)) :: [(10, lV 1002 p), (11, z0), (13, z0), (2, u p), (3, u q), (9, bP)]) ⟨tR (wr .u32 (xr s)) b (tS (wr .u32 s) b 1002 (tB (cfgL a b c d e f g h i j)) p) (p + q), 1047⟩) a3 w3 := by
    obtain ⟨t1, t2, t3, t4, t5, t6, t7, _⟩ := g1
    exact at_less A5 (hasT_get ⟨t3, t1, t2, t4, t5, t6, t7, trivial⟩) (Nat.le_of_eq g2.symm) (fun _ _ h => h) rfl rfl
  have A7 := slot (m := 1003) A6 (by omega) rfl (by omega) tget (fun x hx m' hm => by
    simp only [List.mem_cons, List.not_mem_nil, or_false] at hx
    rcases hx with rfl | rfl | rfl | rfl | rfl | rfl
    · cases p with
      | zero => rfl
      | succ p => exact blt_t.2 (by omega)
    · rfl
    · rfl
    · rfl
    · rfl
    · exact blt_t.2 (by omega)) ⟨rfl, rfl, rfl, rfl, rfl, rfl, rfl, trivial⟩
  rw [xr_eq hs0 hs1] at A7
  show Code.wpIn Fence.wide kk Tryz.prog x4 _ a3 w3
  exact mid hW hb1 hb2 hp hq (at_less A7 (hasT_get ⟨rfl, rfl, rfl, rfl, rfl, rfl, rfl, trivial⟩) (Nat.le_refl _) (fun _ _ h => h) rfl rfl) hQ
theorem first (hW : ExtOK Tryz.prog GL) (hM : MachV a b c d e f g h i j = 0) (hb1 : 1 ≤ b) (hb2 : b ≤ 4) (hs0 : 0 ≤ s) (hs1 : s < 18446744073709551616) {p q : Nat} (hp : p ≤ 255) (hq : q ≤ 255) {aa : Act} {w : World}
    (A0 : At ρ hA W (S (hd s p q) ⟨tB (cfgL a b c d e f g h i j), 1010⟩) aa w)
    (hQ : ∀ st a w, At ρ hA W st a w → retIs (fun v => v = .bool true) st → Q .ret a w) : x2.wpIn Fence.wide kk Tryz.prog Q aa w := by
  have hG : GOk Tryz.prog GL := (mk_ok _).1
  have hC : Codes GL := (mk_ok _).2
  have n2 : (cOps r2).size = 10 := q2n
  have hx : inX (wr .u32 s) := by rw [wr_u32 hs0]; unfold inX; omega
  rw [q2]
  refine wpIn_seq ?_
  rw [q2r]
  refine region_parts ?_
  rw [q2n]
  show wpOpsIn Fence.wide kk Tryz.prog (cOps r2) _ (List.range' 0 (4 + (5 + 1))) aa w
  refine at_partW hG hC hW kxU_ok (sp := sp) (N := 60) (fn := iScripts) (n := 4) (K := KE ([(19, cfgV a b c d e f g h i j), (20, .int .u64 s), (22, .int .i64 (wr .i64 (Int.ofNat p)))] ++ hd s p q) ⟨tB (cfgL a b c d e f g h i j), 1010⟩) A0 (by omega) (by refine Eq.mpr (LT.w2a ..) ?_; repeat' (first | exact rfl | exact trivial | apply And.intro)) fun env h' a1 w1 hk A1 => ?_
  obtain ⟨g1, g2', g3'⟩ := hk
  have g3' := RN.eqH_eq g3'
  subst g3'
  rw [wr8 hp] at g1
  have A2 : At ρ hA W (S ([(19, cfgV a b c d e f g h i j), (20, .int .u64 s), (22, .int .i64 (Int.ofNat p))] ++ hd s p q) ⟨tB (cfgL a b c d e f g h i j), 1010⟩) a1 w1 := at_less A1 (hasT_get g1) (Nat.le_of_eq g2'.symm) (fun _ _ h => h) rfl rfl
  obtain ⟨fo, o1, o2, co, o3⟩ := isRan
  show wpOpsIn Fence.wide kk Tryz.prog (cOps r2) _ (List.range' 4 (5 + 1)) a1 w1
  refine at_callM hG (i := 4) (m := 5) A2 p2 g2 (act2' _ _ _ _ _) o1 o2 o3 (v := .tuple [RN.rV p, z0]) (h' := ⟨tR (wr .u32 s) b (tB (cfgL a b c d e f g h i j)) p, 1047⟩) (fun ρ cargs hS' ha' k' => rand hM hb1 hb2 hx (n := p) (by omega) (fun k o q => by have := tB_lt q; omega) hS' ha' k') (env' := ⟨93, T.put (envL 93 ([(19, cfgV a b c d e f g h i j), (20, .int .u64 s), (22, .int .i64 (Int.ofNat p))] ++ hd s p q)).tr 23 (some (.tuple [RN.rV p, z0]))⟩) (by rw [d2]; rfl) fun a2 w2 A3 => ?_
  have A4 : At ρ hA W (S ((23, .tuple [RN.rV p, z0]) :: hd s p q) ⟨tR (wr .u32 s) b (tB (cfgL a b c d e f g h i j)) p, 1047⟩) a2 w2 := at_less A3 (hasT_get ⟨rfl, rfl, rfl, rfl, rfl, trivial⟩) (Nat.le_refl _) (fun _ _ h => h) rfl rfl
  show wpOpsIn Fence.wide kk Tryz.prog (cOps r2) _ (List.range' 5 (5 + 0)) a2 w2
  refine at_partW hG hC hW kxU_ok (sp := sp) (N := 60) (fn := iScripts) (n := 5) (m := 0) (K := KH ([(10, RN.rV p), (11, z0)] ++ hd s p q) ⟨tR (wr .u32 s) b (tB (cfgL a b c d e f g h i j)) p, 1047⟩) A4 (by omega) (by refine Eq.mpr (LT.w2b ..) ?_; repeat' (first | exact rfl | exact trivial | apply And.intro)) fun env h' a3 w3 hk A5 => ?_
  obtain ⟨g1, g2', g3'⟩ := hk
  subst g3'
  have A6 : At ρ hA W (S ((10, RN.rV p) :: ((11, z0) :: hd s p q)) ⟨tR (wr .u32 s) b (tB (cfgL a b c d e f g h i j)) p, 1047⟩) a3 w3 := at_less A5 (hasT_get g1) (Nat.le_of_eq g2'.symm) (fun _ _ h => h) rfl rfl
  have A7 := slot (m := 1002) A6 (by omega) rfl (by omega) (fun k o q => ⟨tB_lt q, fun m => okO_tB q⟩) (fun x hx m' hm => by
    rcases List.mem_cons.1 hx with rfl | hx
    · rfl
    · exact hd_ok hm x hx) ⟨rfl, rfl, rfl, rfl, rfl, rfl, trivial⟩
  show Code.wpIn Fence.wide kk Tryz.prog x3 _ a3 w3
  exact second hW hM hb1 hb2 hs0 hs1 hp hq A7 hQ
end
/-- the law -/
theorem law (hW : ExtOK Tryz.prog GL) {a b c d e f g i s : Int} (hu : u8r a ∧ u8r b ∧ u8r c ∧ u8r d ∧ u8r e ∧ u8r f ∧ u8r g ∧ u8r i) (hs0 : 0 ≤ s) (hs1 : s < 18446744073709551616) {p q : Nat} (hp : p ≤ 255) (hq : q ≤ 255) {W : World} (_hV : VarsOk gs W) {ρ : Ren} {cargs : Array Value} (ha : Rels ρ [n8 a b c d e f g i, .int .u64 s, u p, u q] cargs.toList) (hS : Sim ρ hA W) (k : Nat) :
    CallsIn Fence.wide k Tryz.prog iScripts cargs W (fun en w' => en = .returned (.bool true) ∧ Below W.heap.size W w') := by
  have hG : GOk Tryz.prog GL := (mk_ok _).1
  have hC : Codes GL := (mk_ok _).2
  have hG0 : GOk Tryz.prog G0 := (mk_ok _).1
  have hcf := conf_in hu
  refine callsIn_of_wp_marks isFn body trivial ?_
  rw [tmps]
  have hen := at_enter hS ha (n := 93) (show 4 ≤ 93 by decide)
  have A0 : At ρ hA W (S [(0, n8 a b c d e f g i), (1, .int .u64 s), (2, u p), (3, u q)] hA) _ W := at_less hen (hasT_get ⟨rfl, rfl, rfl, rfl, trivial⟩) (Nat.le_refl _) (fun _ _ h => h) rfl rfl
  rw [cut]
  refine at_list hG hC hW kxU_ok (sp := sp) (N := 60) (fn := iScripts) (K := KA (hd s p q) (cfgL (up a 12) (up b 2) (up c 4) (up d 4) (up e 4) (up f 6) (up (wr .u8 (Int.tdiv f (Int.ofNat 6))) 3) (up g 5) (capF g i) (firstF i))) (rest := x2) (fun st a1 w1 k1 A1 => ?_) (fun x st a1 w1 hx k1 A1 => ?_) A0 ?_ ok0
  · obtain ⟨k1, k2, k3, k4⟩ := k1
    have A2 : At ρ hA W (S (hd s p q) ⟨tB (cfgL (up a 12) (up b 2) (up c 4) (up d 4) (up e 4) (up f 6) (up (wr .u8 (Int.tdiv f (Int.ofNat 6))) 3) (up g 5) (capF g i) (firstF i)), 1010⟩) a1 w1 := at_less (at_kept A1 (h2 := ⟨tB (cfgL (up a 12) (up b 2) (up c 4) (up d 4) (up e 4) (up f 6) (up (wr .u8 (Int.tdiv f (Int.ofNat 6))) 3) (up g 5) (capF g i) (firstF i)), 1010⟩) (by show st.h.next ≤ 1010; omega) fun b0 o0 hb => by
      rcases tB_get hb with ⟨rfl, rfl⟩ | ⟨_, hb⟩
      · exact ⟨_, k3, id, fun _ _ _ h => h⟩
      · exact vars_keep k4 hb) (hasT_get k1.1) (Nat.le_of_eq k1.2.1.symm) (fun _ _ h => h) rfl (noDefs_eq k1.2.2).symm
    refine first hW (MachV_t _ _ _ _ _ _ _ _ _ _ hcf) hcf.2.2.1 hcf.2.2.2.1 hs0 hs1 hp hq A2 fun st a' w' A hr => ?_
    obtain ⟨h2, v, e1, e2, e3⟩ := ret_out hr
    subst e3
    obtain ⟨ρ', s1, s2, s3, s4⟩ := A
    exact body_out (n := k) hG0 e1 e2 s2 s1 s3 s4 fun c w2 c1 c2 c3 => ⟨by cases c1; rfl, c3.below (hVars_ro gs 1000)⟩
  · cases x with
    | normal => exact absurd rfl hx
    | ret => cases k1
    | exit _ => cases k1
  · refine Eq.mpr (LT.wA ..) ?_
    repeat' (first | exact rfl | exact trivial | apply And.intro)
end LT
end Go.Proofs.YtjbpagfjpdinjaaGreatDoor

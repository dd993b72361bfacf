/- PlayTexts: whatever results it is called with, it returns true. -/
import Derived.Test.YtfmcmolhkmjemaaGreatDoorPl1
import Derived.Test.YtfmcmolhkmjemaaGreatDoorWk
namespace Go.Proofs.YtfmcmolhkmjemaaGreatDoor
set_option maxRecDepth 100000
open Go.Ev Go.RowKit
namespace LT
theorem ret_out {st : St} (h : retIs (fun v => v = .bool true) st) : ∃ h2 v, takeAll st.defs st.h = some h2 ∧ resultsO G0 h2 st.env fn = some v ∧ v = .bool true := by
  unfold retIs at h
  split at h
  · split at h
    · exact ⟨_, _, by assumption, by assumption, h⟩
    · cases h
  · cases h
theorem hA_ro {o : Option O} (ho : ∀ x, o = some x → x.rw = false) : AllRo (hA o) := fun b x h => by
  simp only [hA, T.get_put] at h
  split at h
  · exact ho x h
  · exact hVars_ro gs 1001 b x h
theorem toS {ρ0 : Ren} {h0 : H} {w0 : World} {st : St} {a : Act} {w : World} (hA : At ρ0 h0 w0 st a w) {l : List (Nat × V)} {h : H} (hs : hasS l st) (hh : eqH st.h h) : At ρ0 h0 w0 (S l h) a w := by
  obtain ⟨tr, nx⟩ := h
  obtain ⟨h1, h2⟩ := hh
  have h1 : st.h.tr = tr := h1
  have h2 : st.h.next = nx := h2
  exact at_less hA (hasT_get hs.1) (Nat.le_of_eq hs.2.1.symm) (fun b o q => by rw [h1]; exact q) h2.symm (noDefs_eq hs.2.2).symm
/-- what is known of a call of either -/
def Says (f : FuncId) (arg : V) (o : Option O) (s : List UInt8) (e : Int) : Prop := ∀ ρ (cargs : Array Value) (W : World), Sim ρ (hA o) W → Rels ρ [arg] cargs.toList → ∀ k, CallsIn Fence.wide k Tryz.prog f cargs W (fun en w' => ∃ v, v = V.tuple [.str s, .int .i64 e] ∧ Below W.heap.size W w' ∧ ∃ c, en = .returned c ∧ ∀ ρ, Rel ρ v c)
section
variable {arg : V} {o : Option O} {s : List UInt8} {e : Int} {W : World} {ρ : Ren} {cargs : Array Value}
/-- behind the length -/
theorem rest (h1 : Says iText arg o s e) (h2 : Says iRText arg o s e) {aa : Act} {w : World} {kk : Nat} {Q : Exit → Act → World → Prop} (hA1 : At ρ (hA o) W (S [(0, arg)] (hA o)) aa w)
    (hQ : ∀ st a w, At ρ (hA o) W st a w → retIs (fun v => v = .bool true) st → Q .ret a w) : x2.wpIn Fence.wide kk Tryz.prog Q aa w := by
  have hG : GOk Tryz.prog GL := (mk_ok _).1
  have hC : Codes GL := (mk_ok _).2
  have hK : KxOK GL sp.kx := kx_none _
  rw [q3]
  refine wpIn_seq ?_
  rw [q3r]
  refine region_parts ?_
  rw [q3n]
  show wpOpsIn Fence.wide kk Tryz.prog (cOps r3) _ (List.range' 0 (1 + (5 + 1))) aa w
  have n3 : (cOps r3).size = 7 := q3n
  refine at_partW hG hC GL_x hK (N := 40) (fn := iTexts) (n := 1) (K := KH [(0, arg), (22, arg)] (hA o)) hA1 (by omega) (by refine Eq.mpr (LT.w3a ..) ?_; repeat' (first | exact rfl | exact trivial | apply And.intro)) fun env h a1 w1 hk A2 => ?_
  obtain ⟨g1, g2, g3⟩ := hk
  subst g3
  have A3 : At ρ (hA o) W (S [(0, arg), (22, arg)] (hA o)) a1 w1 := at_less A2 (hasT_get g1) (Nat.le_of_eq g2.symm) (fun _ _ h => h) rfl rfl
  obtain ⟨cT, bT⟩ := bodyT
  refine at_call hG (i := 1) (m := 5) A3 p3 g3' (act3 _) isT nameT bT (Good := fun v => v = V.tuple [.str s, .int .i64 e]) (fun ρ' cargs hS' ha' m' => h1 ρ' cargs _ hS' ha' m') (fun v => ⟨_, rfl⟩) fun v env2 a2 w2 hv hput A4 => ?_
  subst hv
  rw [d3] at hput
  cases hput
  have A5 : At ρ (hA o) W (S [(0, arg), (23, .tuple [.str s, .int .i64 e])] (hA o)) a2 w2 := at_less A4 (hasT_get ⟨rfl, rfl, trivial⟩) (Nat.le_refl _) (fun _ _ h => h) rfl rfl
  show wpOpsIn Fence.wide kk Tryz.prog (cOps r3) _ (List.range' 2 (5 + 0)) a2 w2
  refine at_partW hG hC GL_x hK (N := 40) (fn := iTexts) (n := 5) (K := KH [(0, arg), (3, .str s), (4, .int .i64 e)] (hA o)) A5 (by omega) (by refine Eq.mpr (LT.w3b ..) ?_; repeat' (first | exact rfl | exact trivial | apply And.intro)) fun env h a3 w3 hk A6 => ?_
  obtain ⟨g1, g2, g3⟩ := hk
  subst g3
  have A7 : At ρ (hA o) W (S [(0, arg), (3, .str s), (4, .int .i64 e)] (hA o)) a3 w3 := at_less A6 (hasT_get g1) (Nat.le_of_eq g2.symm) (fun _ _ h => h) rfl rfl
  show Code.wpIn Fence.wide kk Tryz.prog x3 _ a3 w3
  rw [q4]
  refine wpIn_seq ?_
  rw [q4r]
  refine region_parts ?_
  rw [q4n]
  show wpOpsIn Fence.wide kk Tryz.prog (cOps r4) _ (List.range' 0 (1 + (5 + 1))) a3 w3
  have n4 : (cOps r4).size = 7 := q4n
  refine at_partW hG hC GL_x hK (N := 40) (fn := iTexts) (n := 1) (K := KH [(0, arg), (3, .str s), (4, .int .i64 e), (27, arg)] (hA o)) A7 (by omega) (by refine Eq.mpr (LT.w4a ..) ?_; repeat' (first | exact rfl | exact trivial | apply And.intro)) fun env h a4 w4 hk A8 => ?_
  obtain ⟨g1, g2, g3⟩ := hk
  subst g3
  have A9 : At ρ (hA o) W (S [(0, arg), (3, .str s), (4, .int .i64 e), (27, arg)] (hA o)) a4 w4 := at_less A8 (hasT_get g1) (Nat.le_of_eq g2.symm) (fun _ _ h => h) rfl rfl
  obtain ⟨cR, bR⟩ := bodyR
  refine at_call hG (i := 1) (m := 5) A9 p4 g4' (act4 _ _ _) isR nameR bR (Good := fun v => v = V.tuple [.str s, .int .i64 e]) (fun ρ' cargs hS' ha' m' => h2 ρ' cargs _ hS' ha' m') (fun v => ⟨_, rfl⟩) fun v env2 a5 w5' hv hput A10 => ?_
  subst hv
  rw [d4] at hput
  cases hput
  have A11 : At ρ (hA o) W (S [(3, .str s), (4, .int .i64 e), (28, .tuple [.str s, .int .i64 e])] (hA o)) a5 w5' := at_less A10 (hasT_get ⟨rfl, rfl, rfl, trivial⟩) (Nat.le_refl _) (fun _ _ h => h) rfl rfl
  show wpOpsIn Fence.wide kk Tryz.prog (cOps r4) _ (List.range' 2 (5 + 0)) a5 w5'
  refine at_partW hG hC GL_x hK (N := 40) (fn := iTexts) (n := 5) (K := KH [(3, .str s), (4, .int .i64 e), (5, .str s), (6, .int .i64 e)] (hA o)) A11 (by omega) (by refine Eq.mpr (LT.w4b ..) ?_; repeat' (first | exact rfl | exact trivial | apply And.intro)) fun env h a6 w6' hk A12 => ?_
  obtain ⟨g1, g2, g3⟩ := hk
  subst g3
  have A13 : At ρ (hA o) W (S [(3, .str s), (4, .int .i64 e), (5, .str s), (6, .int .i64 e)] (hA o)) a6 w6' := at_less A12 (hasT_get g1) (Nat.le_of_eq g2.symm) (fun _ _ h => h) rfl rfl
  show Code.wpIn Fence.wide kk Tryz.prog x4 _ a6 w6'
  rw [q5]
  refine wpIn_seq (at_w hG hC GL_x hK (N := 40) (fn := iTexts) (K := KD [(2, .bool true)] (hA o)) A13 (by rw [w5]; repeat' (first | exact rfl | exact trivial | exact ieq_refl _ | exact beq_self_eq_true _ | apply And.intro)) ok5 fun x st7 a7 w7 k7 A14 => ?_)
  cases x with
  | ret => cases k7
  | exit _ => cases k7
  | normal =>
  have A15 := toS A14 k7.1 k7.2
  show Code.wpIn Fence.wide kk Tryz.prog .ret _ a7 w7
  refine at_w hG hC GL_x hK (N := 40) (fn := iTexts) (K := fun x st => match x with | .ret => retIs (fun v => v = .bool true) st | _ => False) A15 (Eq.mpr (LT.w6 ..) rfl) rfl fun x st8 a8 w8 k8 A16 => ?_
  cases x with
  | normal => cases k8
  | exit _ => cases k8
  | ret => exact hQ _ _ _ A16 k8
/-- the law, if the row is not too long -/
theorem law {E : Prop} (ho : ∀ x, o = some x → x.rw = false) (h0 : evL GL sp 40 iTexts [r0, y1] (K1 [(0, arg)] (hA o) E) (S [(0, arg)] (hA o))) (h1 : E → Says iText arg o s e) (h2 : E → Says iRText arg o s e) (ha : Rels ρ [arg] cargs.toList) (hS : Sim ρ (hA o) W) (k : Nat) :
    CallsIn Fence.wide k Tryz.prog iTexts cargs W (fun en w' => en = .returned (.bool true) ∧ Below W.heap.size W w') := by
  have hG : GOk Tryz.prog GL := (mk_ok _).1
  have hC : Codes GL := (mk_ok _).2
  have hK : KxOK GL sp.kx := kx_none _
  have hG0 : GOk Tryz.prog G0 := (mk_ok _).1
  have out : ∀ {st : St} {a' : Act} {w' : World}, At ρ (hA o) W st a' w' → retIs (fun v => v = .bool true) st → LeavesInM Fence.wide k Tryz.prog fn a'.tmps (fun en w' => en = .returned (.bool true) ∧ Below W.heap.size W w') a'.defers .returning w' := by
    intro st a' w' A hr
    obtain ⟨h2, v, e1, e2, e3⟩ := ret_out hr
    subst e3
    obtain ⟨ρ', s1, s2, s3, s4⟩ := A
    exact body_out (n := k) hG0 e1 e2 s2 s1 s3 s4 fun c w2 c1 c2 c3 => ⟨by cases c1; rfl, c3.below (hA_ro ho)⟩
  refine callsIn_of_wp_marks isFn body trivial ?_
  rw [tmps]
  have hen := at_enter hS ha (n := 42) (show 1 ≤ 42 by decide)
  have A0 : At ρ (hA o) W (S [(0, arg)] (hA o)) _ W := at_less hen (hasT_get ⟨rfl, trivial⟩) (Nat.le_refl _) (fun _ _ h => h) rfl rfl
  rw [cut]
  refine at_list hG hC GL_x hK (N := 40) (fn := iTexts) (rest := x2) (fun st' a' w' hK1 A1 => ?_) (fun x st' a' w' hx hK1 A1 => ?_) A0 h0 ok1
  · obtain ⟨hE, k1, k2⟩ := hK1
    exact rest (h1 hE) (h2 hE) (toS A1 k1 k2) fun st a w A hr => out A hr
  · cases x with
    | normal => exact absurd rfl hx
    | exit _ => cases hK1
    | ret => exact out A1 hK1
end
open Classical in
noncomputable def resT (xs : List (Int × Int)) : List UInt8 := if 2000 < xs.length then [] else if okTo xs xs.length then linesTo xs xs.length else []
open Classical in
noncomputable def resE (xs : List (Int × Int)) : Int := if 2000 < xs.length then Int.ofNat 11 else if okTo xs xs.length then Int.ofNat 0 else Int.ofNat 2
theorem resV_eq (xs : List (Int × Int)) : resV xs = .tuple [.str (resT xs), .int .i64 (resE xs)] := by
  unfold resV resT resE
  split
  · rfl
  · split <;> rfl
abbrev roR (xs : List (Int × Int)) : O := .ro none (resC xs).length (resC xs) .leaf
theorem says_of {f : FuncId} {arg : V} {o : Option O} {xs : List (Int × Int)} {h : H} (hn : h.next = 1001) (hh : ∀ b x, h.tr.get b = some x → (hA o).tr.get b = some x)
    (hc : ∀ ρ (cargs : Array Value) (W : World), Rels ρ [arg] cargs.toList → Sim ρ h W → ∀ k, CallsIn Fence.wide k Tryz.prog f cargs W (fun en w' => ∃ c, en = .returned c ∧ Below W.heap.size W w' ∧ ∀ ρ, Rel ρ (resV xs) c)) : Says f arg o (resT xs) (resE xs) := fun ρ cargs W hS ha k =>
  (hc ρ cargs W ha (hS.sub (by rw [hn]; exact Nat.le_refl _) hh) k).mono fun en w' ⟨c, h1, h2, h3⟩ => ⟨_, rfl, h2, c, h1, fun ρ' => by rw [← resV_eq]; exact h3 ρ'⟩
theorem PT_in {xs : List (Int × Int)} {b : Nat} {x : O} (hb : (PT.hI (resC xs)).tr.get b = some x) : (hA (some (roR xs))).tr.get b = some x := by
  simp only [PT.hI, PT.base, T.get_put] at hb
  simp only [hA, T.get_put]
  split at hb
  · rename_i q
    rw [if_pos q]; exact hb
  · rename_i q
    rw [if_neg q]; exact gsP_in hb
/-- a row that holds results -/
theorem law_some (hI : ShelfItoa) {xs : List (Int × Int)} {c : Cap} (hx : inR xs) {W : World} {ρ : Ren} {cargs : Array Value} (ha : Rels ρ [.slice 1000 0 xs.length c] cargs.toList) (hS : Sim ρ (hA (some (roR xs))) W) (k : Nat) :
    CallsIn Fence.wide k Tryz.prog iTexts cargs W (fun en w' => en = .returned (.bool true) ∧ Below W.heap.size W w') := by
  refine law (E := True) (s := resT xs) (e := resE xs) (fun x h => by cases h; rfl) ?_ (fun _ => ?_) (fun _ => ?_) ha hS k
  · refine Eq.mpr (LT.w1 ..) ?_
    repeat' (first | exact rfl | exact trivial | apply And.intro | intro _)
  · exact says_of (h := PT.hI (resC xs)) rfl (fun b x hb => PT_in hb) fun ρ cargs W ha hS k => PT.call (PT.kI_ok hI) hx ha hS k
  · refine says_of (h := RT.hI (resC xs)) rfl (fun b x hb => ?_) fun ρ cargs W ha hS k => RT.call hx ha hS k
    obtain ⟨rfl, rfl⟩ := RT.hI_get hb
    simp only [hA, T.get_put, if_pos]
end LT
end Go.Proofs.YtfmcmolhkmjemaaGreatDoor

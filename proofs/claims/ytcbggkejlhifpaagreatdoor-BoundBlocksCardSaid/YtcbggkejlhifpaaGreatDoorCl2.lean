/- slices.Clone of a row of operations; a store of an element into a row. -/
import Derived.Test.YtcbggkejlhifpaaGreatDoorCl1
namespace Go.Ev
open Go.RowKit
theorem overA_list {s off : Nat} {pat : List V} {tp : T V} (hc : ∀ j, j < s → ∃ v, cell s pat tp j = some v) : ∀ {k i : Nat} {tr : T V}, i + k ≤ s → ∃ tr'', overA s pat tp off i k tr = some tr''
  | 0, i, tr, _ => ⟨tr, by simp [overA]⟩
  | k + 1, i, tr, h => by
    obtain ⟨v, hv⟩ := hc i (by omega)
    simp only [overA, hv]
    exact overA_list hc (by show i + 1 + k ≤ _; omega)
/-- a row with an element laid over -/
def over (L M : List V) (p : Nat) : List V := L.take p ++ M ++ L.drop (p + M.length)
theorem over_get {L M : List V} {p : Nat} (hp : p + M.length ≤ L.length) (i : Nat) : (over L M p)[i]? = if p ≤ i ∧ i < p + M.length then M[i - p]? else L[i]? := by
  unfold over
  have hl : (L.take p).length = p := by rw [List.length_take]; omega
  by_cases h1 : i < p
  · rw [List.append_assoc, List.getElem?_append_left (by omega), if_neg (by omega), List.getElem?_take_of_lt h1]
  · rw [List.append_assoc, List.getElem?_append_right (by omega), hl]
    by_cases h2 : i < p + M.length
    · rw [List.getElem?_append_left (by omega), if_pos (by omega)]
    · rw [List.getElem?_append_right (by omega), if_neg (by omega), List.getElem?_drop]
      congr 1
      omega
theorem over_len {L M : List V} {p : Nat} (hp : p + M.length ≤ L.length) : (over L M p).length = L.length := by
  simp only [over, List.length_append, List.length_take, List.length_drop]
  omega
section
variable {P : Program} {G : Γ} (hG : GOk P G) (hcodes : Codes G) (hext : ExtOK P G)
include hG hcodes hext
/-- a store of an element at a place that is not known -/
theorem at_storeR {ρ0 : Ren} {h0 : H} {w0 : World} {env : Env} {h : H} {defs : List Nat} {a : Act} {w : World} {kk i m : Nat} {ops : Array Oper} {o : Oper} {Q : Exit → Act → World → Prop}
    (hA : At ρ0 h0 w0 ⟨env, h, defs⟩ a w) (hle : i + 1 ≤ ops.size) (ho : opsPart ops i 1 = [o]) (hgd : o.guard = none) {t : TypeId} {x y : Operand} (hop : act G env.get o.op = .ef (fun h => fStore (G.ty t) h (env.get x) (env.get y)))
    {ty : TY} {s : Nat} (h1 : G.ty t = some ty) (h2 : ty.size = s) {L M : List V} (hM : M.length = s) {b p : Nat} {e : Option TypeId} (hx : env.get x = some (.ptr b p)) {pat : List V} {tp : T V} (hy : env.get y = some (.agg s pat tp)) (hcell : ∀ (j : Nat) v, M[j]? = some v → cell s pat tp j = some v) (hb : h.tr.get b = some (.cells e L.length L .leaf)) (hp : p + s ≤ L.length) (hlt : s < L.length) (hd : o.dst = none)
    (hQ : ∀ a' w', At ρ0 h0 w0 ⟨env, ⟨h.tr.put b (some (.cells e (over L M p).length (over L M p) .leaf)), h.next⟩, defs⟩ a' w' → wpOpsIn Fence.wide kk P ops Q (List.range' (i + 1) m) a' w') :
    wpOpsIn Fence.wide kk P ops Q (List.range' i (1 + m)) a w := by
  subst hM
  obtain ⟨tr, htr⟩ := overA_list (s := M.length) (pat := pat) (tp := tp) (fun j hj => ⟨M[j], hcell j _ (List.getElem?_eq_getElem hj)⟩) (off := p) (k := M.length) (i := 0) (tr := .leaf) (by omega)
  obtain ⟨o1, o2⟩ := overA_get htr
  have n1 : Nat.beq M.length ty.size = true := (T.beq_true).2 h2.symm
  have n2 : (Nat.beq p 0 && Nat.beq M.length L.length) = false := by
    cases q : Nat.beq M.length L.length with
    | false => simp
    | true => have := (T.beq_true).1 q; omega
  have n3 : Nat.ble (Nat.add p M.length) L.length = true := Nat.ble_eq_true_of_le hp
  have hfs : fStore (G.ty t) h (env.get x) (env.get y) = some (.tuple [], h.set b (some (.cells e L.length L tr))) := by
    rw [h1, hx, hy]
    simp only [fStore, hb, n1, n2, n3, htr]
  have hr : regS G (callT G (evC G 0)) ops (opsPart ops i 1) env h = some (env, h.set b (some (.cells e L.length L tr))) := by
    rw [ho]
    simp only [regS, wantedO, hgd, step1, hop, hfs, hd, Env.put]
  refine at_part hG hcodes hext (N := 0) (n := 1) hA hle hr fun a' w' hA' => hQ a' w' ?_
  refine at_shape hA' rfl fun z obj hz => ?_
  simp only [T.get_put] at hz
  by_cases q : z = b
  · rw [if_pos q] at hz
    cases hz
    refine ⟨.cells e L.length L tr, ?_, fun _ => rfl, fun ρ N c hc => ?_⟩
    · show (h.set b _).tr.get z = _
      simp only [H.set, T.get_put]
      rw [if_pos q]
    · have hl := over_len (L := L) (M := M) hp
      rw [hl]
      refine orel_cells (fun j v hv => ?_) hc
      have hv : cell (over L M p).length (over L M p) .leaf j = some v := by rw [hl]; exact hv
      have hv := cell_leaf hv
      rw [over_get hp] at hv
      have hj : j < L.length := by
        rcases Nat.lt_or_ge j L.length with h | h
        · exact h
        · split at hv
          · omega
          · rw [List.getElem?_eq_none h] at hv; cases hv
      have hjb : Nat.blt j L.length = true := blt_t.2 hj
      simp only [cell, hjb]
      split at hv
      · rename_i qq
        obtain ⟨v', c1, c2⟩ := o1 (j - p) (by omega) (by omega)
        rw [hcell _ _ hv] at c1
        cases c1
        rw [show p + (j - p) = j by omega] at c2
        rw [c2]
      · rename_i qq
        have c2 := o2 j (by omega)
        rw [c2, T.get_leaf]
        have := leaf_cell hv
        simp only [cell, hjb, T.get_leaf] at this
        exact this
  · rw [if_neg q] at hz
    refine ⟨obj, ?_, id, fun _ _ _ hc => hc⟩
    show (h.set b _).tr.get z = _
    simp only [H.set, T.get_put]
    rw [if_neg q]
    exact hz
end
end Go.Ev
namespace Go.Proofs.YtcbggkejlhifpaaGreatDoor
set_option maxRecDepth 100000
set_option maxHeartbeats 2000000
open Go.Ev Go.RowKit
namespace CL
theorem call {L : List V} {n : Nat} (hL : L.length = n * 6) (h0 : 0 < n) (h1 : n ≤ 1000) {ρ : Ren} {cargs : Array Value} {W : World} (hS : Sim ρ (hA L) W) (ha : Rels ρ [.slice 1003 0 n (.atl n 6)] cargs.toList) (k : Nat) :
    CallsIn Fence.wide k Tryz.prog iClone cargs W (Ret (Post ρ (hA L) W (.slice 1011 0 n (.atl n 6)) (hE L))) := by
  have hG : GOk Tryz.prog G0 := (mk_ok _).1
  have hC : Codes G0 := (mk_ok _).2
  have hX : ExtOK Tryz.prog G0 := ext_none
  have hK : KxOK G0 sp.kx := kx_none _
  refine callsIn_of_wp_marks isFn body trivial ?_
  rw [tmps]
  have hen := at_enter hS ha (n := 8) (show 1 ≤ 8 by decide)
  have A0 : At ρ (hA L) W (S [(0, .slice 1003 0 n (.atl n 6))] (hA L)) _ W := at_less hen (hasT_get ⟨rfl, trivial⟩) (Nat.le_refl _) (fun _ _ h => h) rfl rfl
  rw [cut]
  refine at_list hG hC hX hK (N := 20) (fn := iClone) (K := KV [(0, .slice 1003 0 n (.atl n 6))] (hA L)) (rest := x2) (fun st a1 w1 k1 A1 => ?_) (fun x st a1 w1 hx k1 A1 => ?_) A0 ?_ ok0
  rotate_left
  · cases x with
    | normal => exact absurd rfl hx
    | ret => cases k1
    | exit _ => cases k1
  · refine Eq.mpr (CL.wA ..) ?_
    repeat' (first | exact rfl | exact trivial | apply And.intro)
  obtain ⟨⟨k1, k2, k3⟩, k4⟩ := k1
  have A2 : At ρ (hA L) W (S [(0, .slice 1003 0 n (.atl n 6))] (hA L)) a1 w1 := at_less A1 (hasT_get k1) (Nat.le_of_eq k2.symm) (fun _ _ h => by rw [k4]; exact h) (by rw [k4]) (noDefs_eq k3).symm
  rw [q3]
  refine wpIn_seq ?_
  rw [q3r]
  refine region_parts ?_
  rw [q3n]
  show wpOpsIn Fence.wide k Tryz.prog (cOps r3) _ (List.range' 0 (2 + (1 + (1 + 0)))) a1 w1
  have n3 : (cOps r3).size = 4 := q3n
  refine at_partW hG hC hX hK (N := 20) (fn := iClone) (n := 2) A2 (by omega) (K := KC [(5, .slice 1010 0 0 (.known 0)), (6, .slice 1003 0 n (.atl n 6))] L) ?_ fun env h' a2 w2 hk A3 => ?_
  · refine Eq.mpr (CL.w3a ..) ?_
    repeat' (first | exact rfl | exact trivial | apply And.intro)
  obtain ⟨g1, g2, g3', g4, g5⟩ := hk
  have A4 : At ρ (hA L) W (S [(5, .slice 1010 0 0 (.known 0)), (6, .slice 1003 0 n (.atl n 6))] h') a2 w2 := at_less A3 (hasT_get g1) (Nat.le_of_eq g2.symm) (fun _ _ h => h) rfl rfl
  obtain ⟨x0, hx0⟩ : ∃ x0, rGather h' 1010 0 0 = some x0 := by
    cases q : rGather h' 1010 0 0 with
    | none => rw [q] at g3'; cases g3'
    | some x => exact ⟨x, rfl⟩
  refine at_appendR hG hC hX A4 (by omega) p3 g3 (hop _) LB.t1 LB.t2 LB.t3 LB.t1 LB.t5 (L := L) (s := 6) LB.t6 (by decide) (b0 := 1010) (b := 1003) (k := n) (e := some tOp) (c := .atl n 6) (x0 := x0) hL h0 rfl hx0 g4 (by omega) rfl d3 rfl fun a3 w3 A5 => ?_
  rw [g5] at A5
  have A6 : At ρ (hA L) W (S [(7, .slice 1011 0 n (.atl n 6))] (hE L)) a3 w3 := at_less (at_kept A5 (h2 := hE L) (Nat.le_refl _) fun b o1 hb => by
    simp only [hE, T.get_put] at hb
    split at hb
    · rename_i q
      cases hb; subst q
      exact ⟨_, by simp only [T.get_put]; rfl, id, fun _ _ _ h => h⟩
    · split at hb
      · rename_i q1 q
        cases hb; subst q
        exact ⟨_, by simp only [T.get_put]; exact g4, id, fun _ _ _ h => h⟩
      · rw [T.get_leaf] at hb; cases hb) (hasT_get ⟨rfl, trivial⟩) (Nat.le_refl _) (fun _ _ h => h) rfl rfl
  refine at_partW hG hC hX hK (N := 20) (fn := iClone) (n := 1) (m := 0) A6 (by omega) (K := KH [(2, .slice 1011 0 n (.atl n 6))] (hE L)) ?_ fun env h2 a4 w4 hk A7 => ?_
  · refine Eq.mpr (CL.w3c ..) ?_
    repeat' (first | exact rfl | exact trivial | apply And.intro)
  obtain ⟨g1, g2, g6⟩ := hk
  subst g6
  have A8 : At ρ (hA L) W (S [(2, .slice 1011 0 n (.atl n 6))] (hE L)) a4 w4 := at_less A7 (hasT_get g1) (Nat.le_of_eq g2.symm) (fun _ _ h => h) rfl rfl
  show Code.wpIn Fence.wide k Tryz.prog x4 _ a4 w4
  refine at_w hG hC hX hK (N := 20) (fn := iClone) (K := fun x st => match x with | .ret => retIs (fun v => v = .slice 1011 0 n (.atl n 6)) (hE L) st | _ => False) A8 ?_ ok4 fun x st' a8 w8 hK8 A10 => ?_
  · refine Eq.mpr (CL.w4 ..) ?_
    exact ⟨rfl, rfl⟩
  cases x with
  | normal => cases hK8
  | exit _ => cases hK8
  | ret =>
    have : ∃ h2 v, takeAll st'.defs st'.h = some h2 ∧ resultsO G0 h2 st'.env fn = some v ∧ v = .slice 1011 0 n (.atl n 6) ∧ h2 = hE L := by
      have hr : retIs (fun v => v = .slice 1011 0 n (.atl n 6)) (hE L) st' := hK8
      unfold retIs at hr
      split at hr
      · split at hr
        · exact ⟨_, _, by assumption, by assumption, hr⟩
        · cases hr
      · cases hr
    obtain ⟨h2, v, e1, e2, e3, e4⟩ := this
    subst e3
    subst e4
    obtain ⟨ρ', s1, s2, s3, s4⟩ := A10
    exact body_out (n := k) hG e1 e2 s2 s1 s3 s4 fun c w2 c1 c2 c3 => ⟨c, rfl, ρ', c2, c3, c1⟩
end CL
end Go.Proofs.YtcbggkejlhifpaaGreatDoor

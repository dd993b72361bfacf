/- ModelNil returns true for every input, and its arguments read afterwards as before: the row, and the card. -/
import Derived.Test.YtbhogdpjlligdaaGreatDoorNil5
import Derived.Test.YtbhogdpjlligdaaGreatDoorTie
import Derived.Test.YtbhogdpjlligdaaGreatDoorCards
import Derived.ProofKit
import Derived.LaidMore
import Derived.OpenShut
import Derived.Stop.Joined
import Derived.SevenTiedAt
import Derived.Carry
namespace Go.Proofs.YtbhogdpjlligdaaGreatDoor
set_option maxRecDepth 100000
open Go.ChangeShapes Go.WideShapes Go.ChangeAt Go.WideMaps Go.WideElems Go.RowKit
namespace Claim
theorem own : ownKnob Tryz.prog.godebug = .none := by kernel_rfl
theorem laidOut : laidOutB Tryz.prog = true := by kernel_rfl
theorem gLet : Tryz.prog.globalNamed "estray/answer.letters" = some 0 := by kernel_rfl
theorem tLet : (Tryz.prog.globals[0]?).map (·.type) = some 353 := by kernel_rfl
/-- the variable, as its initialiser lays it -/
abbrev lets : List (String × DataW Unit) := [("estray/answer.letters", Rows.laid_estray_answer_letters)]
theorem let_of_laid {W : World} (h : laidMetH Tryz.prog lets W) : Ev.LetOk letters W := by
  rw [MakeChecks.laidMetH_plain _ _ _ (by kernel_rfl)] at h
  obtain ⟨ps, ⟨g0, t0, cs0, f0, p0, q0, hg0, ht0, hv0, hd0, _, _⟩, _, _⟩ := h
  obtain rfl := Option.some.inj (gLet.symm.trans hg0)
  obtain rfl := Option.some.inj (tLet.symm.trans ht0)
  have u5 : Tryz.prog.underlying 5 = some (.int .u8) := by kernel_rfl
  have c5 : Tryz.prog.cellsOf 5 = 1 := by kernel_rfl
  obtain ⟨xs, m1, rfl, hx1, hlen, hn3, hel⟩ := DataW.trod_array (show Tryz.prog.underlying 353 = some (.array 4 5) by kernel_rfl) hd0
  have hm : xs.map (·.1) = [.lit (.int .u8 0), .lit (.int .u8 111), .lit (.int .u8 108), .lit (.int .u8 102)] := by
    simp only [Prod.mk.injEq] at hx1
    have h1 := hx1.1
    unfold Rows.laid_estray_answer_letters at h1
    injection h1 with h1
    exact h1.symm
  have key : ∀ i, i < 4 → cs0[i]? = some (.int .u8 (.ofNat (letters.getD i 0))) := by
    intro i hi
    have h0 := hel i hi
    have hxi : xs[i]? = some xs[i] := List.getElem?_eq_getElem (by omega)
    rw [c5, hxi, Nat.mul_one] at h0
    obtain ⟨n, e1, e2, _⟩ := DataW.trod_int u5 h0
    have hn : (xs.map (·.1))[i]? = some (.lit (.int .u8 n)) := by
      rw [List.getElem?_map, hxi, e2]; rfl
    rw [hm] at hn
    have h2 : (cs0.toList.drop i)[0]? = some (.int .u8 n) := by
      have : ((cs0.toList.drop i).take 1)[0]? = some (.int .u8 n) := by rw [e1]; rfl
      rwa [List.getElem?_take_of_lt (by decide)] at this
    rw [List.getElem?_drop, Nat.add_zero, Array.getElem?_toList] at h2
    rw [h2]
    match i, hi, hn with
    | 0, _, hn => cases hn; rfl
    | 1, _, hn => cases hn; rfl
    | 2, _, hn => cases hn; rfl
    | 3, _, hn => cases hn; rfl
  have hc := fun i => World.var?_cell hg0 hv0 i
  have h00 := hc 0
  rw [key 0 (by decide)] at h00
  unfold World.cell? at h00
  split at h00
  · rename_i c el fr hw
    refine ⟨c, el, fr, hw, fun i hi => ?_⟩
    have h1 := hc i
    rw [key i hi] at h1
    unfold World.cell? at h1
    rw [hw] at h1
    simpa using h1
  · cases h00
open Ev in
theorem rel_agg {ρ : Ren} {vs : List V} {cs : Array Value} (h : Rels ρ vs cs.toList) (ho : ∀ (i : Nat) (x : Value), cs[i]? = some x → one x = true) : Rel ρ (.agg vs.length vs .leaf) (.agg cs) := by
  refine .agg (by rw [← h.1, Array.length_toList]) ho fun i v x hv hx => ?_
  have hi := cell_lt hv
  have hb : Nat.blt i vs.length = true := Nat.ble_eq_true_of_le hi
  have hn : nth vs i = some vs[i] := by rw [nth_eq]; exact List.getElem?_eq_getElem hi
  simp only [cell, hb, T.get_leaf, patAt, hn] at hv
  cases hv
  exact h.2 i _ x (List.getElem?_eq_getElem hi) (by simpa using hx)
theorem int_cell {W : World} {base : Nat} {t : TypeId} {v : Value} {k : IntKind} (hu : Tryz.prog.underlying t = some (.int k)) (h : Cell.okWide Tryz.prog W .any base t v) : ∃ n, v = .int k n := by
  unfold Cell.okWide at h
  rw [hu] at h
  cases v <;> simp [Cell.ok, hu] at h
  exact ⟨_, by rw [h.1]⟩
theorem str_cell {W : World} {base : Nat} {t : TypeId} {v : Value} (hu : Tryz.prog.underlying t = some .string) (h : Cell.okWide Tryz.prog W .any base t v) : ∃ s : List UInt8, v = .string ⟨s.toArray⟩ := by
  unfold Cell.okWide at h
  rw [hu] at h
  cases v <;> simp [Cell.ok, hu] at h
  rename_i s
  exact ⟨s.data.toList, by rw [Array.toArray_toList]⟩
theorem slice_cell {W : World} {base : Nat} {t e : TypeId} {v : Value} (hu : Tryz.prog.underlying t = some (.slice e)) (h : Cell.okWide Tryz.prog W .any base t v) : v = .slice .none 0 0 ∨ ∃ B o n c, v = .slice (some ⟨B, o, .none⟩) n c := by
  unfold Cell.okWide at h
  rw [hu] at h
  cases v <;> simp only [Cell.ok, hu] at h
  rename_i a n c
  cases a with
  | none =>
    cases n with
    | zero =>
      cases c with
      | zero => exact .inl rfl
      | succ c => exact h.elim
    | succ n => exact h.elim
  | some a =>
    obtain ⟨B, o, sp⟩ := a
    have : sp = .none := h.2.2.2.1
    subst this
    exact .inr ⟨B, o, n, c, rfl⟩
def isStruct : Option TypeDesc → Bool
  | some (.struct _) => true
  | _ => false
theorem isStruct_eq {d : Option TypeDesc} (h : isStruct d = true) : ∃ fs, d = some (.struct fs) := by
  unfold isStruct at h
  split at h
  · exact ⟨_, rfl⟩
  · cases h
open Ev in
/-- the arguments, as the evaluator sees them -/
theorem args_in {W : World} {base : Nat} {v0 v1 v2 : Value} (hL : LetOk letters W) (h0 : Value.okWide Tryz.prog W .any base 29 v0) (h1 : Value.okWide Tryz.prog W .any base 3 v1) (h2 : Value.okWide Tryz.prog W .any base 32 v2) :
    ∃ (x : Law.In) (ρ : Ren), Sim ρ (hLet letters 1001) W ∧ Rels ρ (Law.args x) (#[v0, v1, v2] : Array Value).toList ∧ (x.t = .nils ∨ ∃ b o n c, x.t = .slice b o n (.known c)) := by
  have u3 : Tryz.prog.underlying 3 = some (.int .i64) := by kernel_rfl
  have u24 : Tryz.prog.underlying 24 = some (.int .i64) := by kernel_rfl
  have u30 : Tryz.prog.underlying 30 = some (.int .u32) := by kernel_rfl
  have u9 : Tryz.prog.underlying 9 = some .string := by kernel_rfl
  have u27 : Tryz.prog.underlying 27 = some (.slice 96) := by kernel_rfl
  have ct29 : Tryz.prog.cellTypes Tryz.prog.depth 29 = some [3, 3, 3, 3, 3, 9, 24, 3, 27] := by kernel_rfl
  have ct32 : Tryz.prog.cellTypes Tryz.prog.depth 32 = some [3, 3, 30] := by kernel_rfl
  have c29 : Tryz.prog.cellsOf 29 = 9 := by kernel_rfl
  have c32 : Tryz.prog.cellsOf 32 = 3 := by kernel_rfl
  obtain ⟨fs29, w29⟩ : ∃ fs, Tryz.prog.underlying 29 = some (.struct fs) := isStruct_eq (by kernel_rfl)
  obtain ⟨fs32, w32⟩ : ∃ fs, Tryz.prog.underlying 32 = some (.struct fs) := isStruct_eq (by kernel_rfl)
  unfold Value.okWide at h0 h1 h2
  rw [w29] at h0
  rw [u3] at h1
  rw [w32] at h2
  obtain ⟨cs, rfl, s0, ts, e0, _, r0⟩ := h0
  obtain ⟨ds, rfl, s2, us, e2, _, r2⟩ := h2
  rw [ct29] at e0; cases e0
  rw [ct32] at e2; cases e2
  rw [c29] at s0
  rw [c32] at s2
  obtain ⟨i, rfl⟩ := int_cell u3 h1
  have at0 : ∀ j (hj : j < 9) u, ([3, 3, 3, 3, 3, 9, 24, 3, 27] : List TypeId)[j]? = some u → ∃ v, cs[j]? = some v ∧ Cell.okWide Tryz.prog W .any base u v := fun j hj u hu => by
    have hc : cs[j]? = some cs[j] := Array.getElem?_eq_getElem (by omega)
    obtain ⟨u', q1, q2⟩ := r0 j _ hc
    rw [show j % ([3, 3, 3, 3, 3, 9, 24, 3, 27] : List TypeId).length = j from Nat.mod_eq_of_lt hj, hu] at q1
    cases q1
    exact ⟨_, hc, q2⟩
  have at2 : ∀ j (hj : j < 3) u, ([3, 3, 30] : List TypeId)[j]? = some u → ∃ v, ds[j]? = some v ∧ Cell.okWide Tryz.prog W .any base u v := fun j hj u hu => by
    have hc : ds[j]? = some ds[j] := Array.getElem?_eq_getElem (by omega)
    obtain ⟨u', q1, q2⟩ := r2 j _ hc
    rw [show j % ([3, 3, 30] : List TypeId).length = j from Nat.mod_eq_of_lt hj, hu] at q1
    cases q1
    exact ⟨_, hc, q2⟩
  obtain ⟨x0, p0, q0⟩ := at0 0 (by decide) 3 rfl
  obtain ⟨x1, p1, q1⟩ := at0 1 (by decide) 3 rfl
  obtain ⟨x2, p2, q2⟩ := at0 2 (by decide) 3 rfl
  obtain ⟨x3, p3, q3⟩ := at0 3 (by decide) 3 rfl
  obtain ⟨x4, p4, q4⟩ := at0 4 (by decide) 3 rfl
  obtain ⟨x5, p5, q5⟩ := at0 5 (by decide) 9 rfl
  obtain ⟨x6, p6, q6⟩ := at0 6 (by decide) 24 rfl
  obtain ⟨x7, p7, q7⟩ := at0 7 (by decide) 3 rfl
  obtain ⟨x8, p8, q8⟩ := at0 8 (by decide) 27 rfl
  obtain ⟨y0, p9, q9⟩ := at2 0 (by decide) 3 rfl
  obtain ⟨y1, p10, q10⟩ := at2 1 (by decide) 3 rfl
  obtain ⟨y2, p11, q11⟩ := at2 2 (by decide) 30 rfl
  obtain ⟨n0, rfl⟩ := int_cell u3 q0
  obtain ⟨n1, rfl⟩ := int_cell u3 q1
  obtain ⟨n2, rfl⟩ := int_cell u3 q2
  obtain ⟨n3, rfl⟩ := int_cell u3 q3
  obtain ⟨n4, rfl⟩ := int_cell u3 q4
  obtain ⟨s, rfl⟩ := str_cell u9 q5
  obtain ⟨n6, rfl⟩ := int_cell u24 q6
  obtain ⟨n7, rfl⟩ := int_cell u3 q7
  obtain ⟨n9, rfl⟩ := int_cell u3 q9
  obtain ⟨n10, rfl⟩ := int_cell u3 q10
  obtain ⟨n11, rfl⟩ := int_cell u30 q11
  have hcs : cs.toList = [.int .i64 n0, .int .i64 n1, .int .i64 n2, .int .i64 n3, .int .i64 n4, .string ⟨s.toArray⟩, .int .i64 n6, .int .i64 n7, x8] := by
    refine List.ext_getElem? fun j => ?_
    rw [Array.getElem?_toList]
    match j with
    | 0 => exact p0
    | 1 => exact p1
    | 2 => exact p2
    | 3 => exact p3
    | 4 => exact p4
    | 5 => exact p5
    | 6 => exact p6
    | 7 => exact p7
    | 8 => exact p8
    | j + 9 => rw [Array.getElem?_eq_none (by omega)]; rfl
  have hds : ds.toList = [.int .i64 n9, .int .i64 n10, .int .u32 n11] := by
    refine List.ext_getElem? fun j => ?_
    rw [Array.getElem?_toList]
    match j with
    | 0 => exact p9
    | 1 => exact p10
    | 2 => exact p11
    | j + 3 => rw [Array.getElem?_eq_none (by omega)]; rfl
  have ones : ∀ (t : V) (ρ : Ren), Rel ρ t x8 → one x8 = true → Rels ρ (Law.args ⟨.int .i64 n0, .int .i64 n1, .int .i64 n2, .int .i64 n3, .int .i64 n4, s, .int .i64 n6, .int .i64 n7, t, .int .i64 i, .int .i64 n9, .int .i64 n10, .int .u32 n11⟩) (#[.agg cs, .int .i64 i, .agg ds] : Array Value).toList := fun t ρ ht h1 => by
    refine Rels.cons (rel_agg (vs := [_, _, _, _, _, _, _, _, _]) ?_ fun j y hy => ?_) (Rels.cons (.int _ _) (Rels.cons (rel_agg (vs := [_, _, _]) ?_ fun j y hy => ?_) Rels.nil))
    · rw [hcs]
      exact Rels.cons (.int _ _) (Rels.cons (.int _ _) (Rels.cons (.int _ _) (Rels.cons (.int _ _) (Rels.cons (.int _ _) (Rels.cons (.str _) (Rels.cons (.int _ _) (Rels.cons (.int _ _) (Rels.cons ht Rels.nil))))))))
    · have hm : y ∈ cs.toList := by simpa using Array.mem_of_getElem? hy
      rw [hcs] at hm
      simp only [List.mem_cons, List.not_mem_nil, or_false] at hm
      rcases hm with rfl | rfl | rfl | rfl | rfl | rfl | rfl | rfl | rfl <;> first
        | rfl
        | exact h1
    · rw [hds]
      exact Rels.cons (.int _ _) (Rels.cons (.int _ _) (Rels.cons (.int _ _) Rels.nil))
    · have hm : y ∈ ds.toList := by simpa using Array.mem_of_getElem? hy
      rw [hds] at hm
      simp only [List.mem_cons, List.not_mem_nil, or_false] at hm
      rcases hm with rfl | rfl | rfl <;> rfl
  obtain ⟨z, hz⟩ := sim_let hL
  rcases slice_cell u27 q8 with rfl | ⟨B, o, n, c, rfl⟩
  · exact ⟨_, _, hz 1001 (by decide), ones .nils _ .nils rfl, .inl rfl⟩
  · have hS := hz 1000 (Nat.le_refl _)
    have hno : (hLet letters 1000).tr.get 1000 = .none := by
      cases q : (hLet letters 1000).tr.get 1000 with
      | none => rfl
      | some o => have := (hLet_get q).1; omega
    have hρ : rLet z 1000 = .none := by simp [rLet]
    exact ⟨_, _, Law.unk hS hno hρ (next := 1001) (by decide) (by decide) (B, o, 0), ones (.slice 1000 0 n (.known c)) _ (.sliceK (o := 0) (d := o) (z := 0) (Ren.with_same ..)) rfl, .inr ⟨_, _, _, _, rfl⟩⟩
end Claim
end Go.Proofs.YtbhogdpjlligdaaGreatDoor

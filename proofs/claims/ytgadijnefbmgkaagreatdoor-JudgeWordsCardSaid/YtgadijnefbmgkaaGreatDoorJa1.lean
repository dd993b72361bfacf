/- The package-level variables of chapter 46, as their initialisers lay them; a row of numbers that is handed in. -/
import Derived.Test.YtgadijnefbmgkaaGreatDoorJg
import Derived.Test.YtgadijnefbmgkaaGreatDoorTie
import Derived.Test.YtgadijnefbmgkaaGreatDoorCards
import Derived.ProofKit
import Derived.LaidMore
import Derived.OpenShut
import Derived.Stop.Joined
import Derived.SevenTiedAt
import Derived.Carry
namespace Go.Proofs.YtgadijnefbmgkaaGreatDoor
set_option maxRecDepth 100000
open Go.ChangeShapes Go.WideShapes Go.ChangeAt Go.WideMaps Go.WideElems Go.RowKit
namespace Claim
theorem own : ownKnob Tryz.prog.godebug = .none := by kernel_rfl
theorem laidOut : laidOutB Tryz.prog = true := by kernel_rfl
theorem gLet : Tryz.prog.globalNamed "estray/answer.letters" = some iLetters := by kernel_rfl
theorem tLet : (Tryz.prog.globals[iLetters]?).map (·.type) = some 435 := by kernel_rfl
theorem gWrd : Tryz.prog.globalNamed "estray/judge.words" = some gWords := by kernel_rfl
theorem tWrd : (Tryz.prog.globals[gWords]?).map (·.type) = some 29 := by kernel_rfl
/-- the variables, as their initialisers lay them -/
abbrev lets : List (String × DataW Unit) := [("estray/answer.letters", Rows.laid_estray_answer_letters), ("estray/judge.words", Rows.laid_estray_judge_words)]
theorem cell_at {W : World} {g : Nat} {cs0 : Array Value} (hc : ∀ i, W.cell? ⟨g, i, .none⟩ = cs0[i]?) (h0 : 0 < cs0.size) : ∃ cs el fr, W.heap[g]? = some (.cells cs el fr) ∧ ∀ i : Nat, cs[i]? = cs0[i]? := by
  have h00 := hc 0
  rw [Array.getElem?_eq_getElem h0] at h00
  unfold World.cell? at h00
  split at h00
  · rename_i c el fr hw
    refine ⟨c, el, fr, hw, fun i => ?_⟩
    have h1 := hc i
    unfold World.cell? at h1
    rw [hw] at h1
    simpa using h1
  · cases h00
/-- what the variables hold, and no more -/
structure Held (W : World) : Prop where
  letters : ∃ cs el fr, W.heap[iLetters]? = some (.cells cs el fr) ∧ cs.size = 4 ∧ ∀ i, i < 4 → cs[i]? = some (.int .u8 (.ofNat (letters.getD i 0)))
  words : ∃ cs el fr, W.heap[gWords]? = some (.cells cs el fr) ∧ cs.size = 12 ∧ ∀ i, i < 12 → ∃ s : List UInt8, words[i]? = some (.str s) ∧ cs[i]? = some (.string ⟨s.toArray⟩)
theorem held_of_laid {W : World} (h : laidMetH Tryz.prog lets W) : Held W := by
  rw [MakeChecks.laidMetH_plain _ _ _ (by kernel_rfl)] at h
  obtain ⟨ps, ⟨g0, t0, cs0, f0, p0, q0, hg0, ht0, hv0, hd0, ⟨g1, t1, cs1, f1, p1, q1, hg1, ht1, hv1, hd1, _, _⟩, _⟩, _, _⟩ := h
  obtain rfl := Option.some.inj (gLet.symm.trans hg0)
  obtain rfl := Option.some.inj (tLet.symm.trans ht0)
  obtain rfl := Option.some.inj (gWrd.symm.trans hg1)
  obtain rfl := Option.some.inj (tWrd.symm.trans ht1)
  have c0 := fun i => World.var?_cell hg0 hv0 i
  have c1 := fun i => World.var?_cell hg1 hv1 i
  constructor
  · have u5 : Tryz.prog.underlying 5 = some (.int .u8) := by kernel_rfl
    have c5 : Tryz.prog.cellsOf 5 = 1 := by kernel_rfl
    have ca : Tryz.prog.cellsOf 435 = 4 := by kernel_rfl
    obtain ⟨xs, m1, rfl, hx1, hlen, hn3, hel⟩ := DataW.trod_array (show Tryz.prog.underlying 435 = some (.array 4 5) by kernel_rfl) hd0
    rw [ca, Array.length_toList] at hlen
    have hm : xs.map (·.1) = [.lit (.int .u8 0), .lit (.int .u8 111), .lit (.int .u8 108), .lit (.int .u8 102)] := by
      simp only [Prod.mk.injEq] at hx1
      have h1 := hx1.1
      unfold Rows.laid_estray_answer_letters at h1
      injection h1 with h1
      exact h1.symm
    have key : ∀ i, i < 4 → cs0[i]? = some (.int .u8 (.ofNat (letters.getD i 0))) := by
      intro i hi
      have h0 := hel i hi
      have hxi : xs[i]? = some xs[i] := List.getElem?_eq_getElem (by omega)
      rw [c5, hxi, Nat.mul_one] at h0
      obtain ⟨n, e1, e2, _⟩ := DataW.trod_int u5 h0
      have hn : (xs.map (·.1))[i]? = some (.lit (.int .u8 n)) := by
        rw [List.getElem?_map, hxi, e2]; rfl
      rw [hm] at hn
      have h2 : (cs0.toList.drop i)[0]? = some (.int .u8 n) := by
        have : ((cs0.toList.drop i).take 1)[0]? = some (.int .u8 n) := by rw [e1]; rfl
        rwa [List.getElem?_take_of_lt (by decide)] at this
      rw [List.getElem?_drop, Nat.add_zero, Array.getElem?_toList] at h2
      rw [h2]
      match i, hi, hn with
      | 0, _, hn => cases hn; rfl
      | 1, _, hn => cases hn; rfl
      | 2, _, hn => cases hn; rfl
      | 3, _, hn => cases hn; rfl
    obtain ⟨cs, el, fr, hw, hcs⟩ := cell_at c0 (by omega)
    have : cs = cs0 := Array.ext_getElem? hcs
    subst this
    exact ⟨_, el, fr, hw, hlen, key⟩
  · have us : Tryz.prog.underlying 9 = some .string := by kernel_rfl
    have c9 : Tryz.prog.cellsOf 9 = 1 := by kernel_rfl
    have ca : Tryz.prog.cellsOf 29 = 12 := by kernel_rfl
    obtain ⟨xs, m1, rfl, hx1, hlen, hn3, hel⟩ := DataW.trod_array (show Tryz.prog.underlying 29 = some (.array 12 9) by kernel_rfl) hd1
    rw [ca, Array.length_toList] at hlen
    have hm : xs.map (·.1) = words.map fun v => match v with
      | .str s => .lit (.string s)
      | _ => .nil := by
      simp only [Prod.mk.injEq] at hx1
      have h1 := hx1.1
      unfold Rows.laid_estray_judge_words at h1
      injection h1 with h1
      exact h1.symm
    have key : ∀ i, i < 12 → ∃ s : List UInt8, words[i]? = some (.str s) ∧ cs1[i]? = some (.string ⟨s.toArray⟩) := by
      intro i hi
      have h0 := hel i hi
      have hxi : xs[i]? = some xs[i] := List.getElem?_eq_getElem (by omega)
      rw [c9, hxi, Nat.mul_one] at h0
      obtain ⟨s, e1, e2, _⟩ := DataW.trod_string us h0
      have hn : (xs.map (·.1))[i]? = some (.lit (.string s.data.toList)) := by
        rw [List.getElem?_map, hxi, e2]; rfl
      rw [hm] at hn
      have h2 : (cs1.toList.drop i)[0]? = some (.string s) := by
        have : ((cs1.toList.drop i).take 1)[0]? = some (.string s) := by rw [e1]; rfl
        rwa [List.getElem?_take_of_lt (by decide)] at this
      rw [List.getElem?_drop, Nat.add_zero, Array.getElem?_toList] at h2
      have hs : (⟨s.data.toList.toArray⟩ : ByteArray) = s := by rw [Array.toArray_toList]
      refine ⟨s.data.toList, ?_, by rw [hs]; exact h2⟩
      match i, hi, hn with
      | 0, _, hn => injection hn with q; injection q with q; injection q with q; rw [← q]; rfl
      | 1, _, hn => injection hn with q; injection q with q; injection q with q; rw [← q]; rfl
      | 2, _, hn => injection hn with q; injection q with q; injection q with q; rw [← q]; rfl
      | 3, _, hn => injection hn with q; injection q with q; injection q with q; rw [← q]; rfl
      | 4, _, hn => injection hn with q; injection q with q; injection q with q; rw [← q]; rfl
      | 5, _, hn => injection hn with q; injection q with q; injection q with q; rw [← q]; rfl
      | 6, _, hn => injection hn with q; injection q with q; injection q with q; rw [← q]; rfl
      | 7, _, hn => injection hn with q; injection q with q; injection q with q; rw [← q]; rfl
      | 8, _, hn => injection hn with q; injection q with q; injection q with q; rw [← q]; rfl
      | 9, _, hn => injection hn with q; injection q with q; injection q with q; rw [← q]; rfl
      | 10, _, hn => injection hn with q; injection q with q; injection q with q; rw [← q]; rfl
      | 11, _, hn => injection hn with q; injection q with q; injection q with q; rw [← q]; rfl
    obtain ⟨cs, el, fr, hw, hcs⟩ := cell_at c1 (by omega)
    have : cs = cs1 := Array.ext_getElem? hcs
    subst this
    exact ⟨_, el, fr, hw, hlen, key⟩
open Ev in
theorem vars_of_held {W : World} (h : Held W) : VarsOk gs W := by
  intro g l hm
  simp only [gs, List.mem_cons, Prod.mk.injEq, List.not_mem_nil, or_false] at hm
  rcases hm with ⟨rfl, rfl⟩ | ⟨rfl, rfl⟩
  · obtain ⟨cs, el, fr, hw, _, hc⟩ := h.letters
    exact ⟨by decide, cs, el, fr, hw, ints_one (k := .u8) (l := letters) fun i hi => hc i hi⟩
  · obtain ⟨cs, el, fr, hw, _, hc⟩ := h.words
    refine ⟨by decide, cs, el, fr, hw, fun i v hv => ?_⟩
    have hi := (List.getElem?_eq_some_iff.1 hv).1
    obtain ⟨s, h1, h2⟩ := hc i hi
    rw [hv] at h1
    cases h1
    exact ⟨_, h2, rfl, fun ρ => .str _⟩
/-! a row of numbers that is handed in -/
open Ev in
/-- a row of numbers: nil, or so many of them -/
inductive Row (W : World) : Value → V → List Int → Prop
  | nil : Row W (.slice .none 0 0) .nils []
  | some {B o cap : Nat} {xs : List Int} (h : ∀ (i : Nat) x, xs[i]? = some x → W.cell? ⟨B, o + i, .none⟩ = some (.int .i64 x)) : Row W (.slice (some ⟨B, o, .none⟩) xs.length cap) (.slice 1000 0 xs.length (.known cap)) xs
theorem slice_cell {W : World} {base : Nat} {t e : TypeId} {v : Value} (hu : Tryz.prog.underlying t = some (.slice e)) (h : Cell.okWide Tryz.prog W .any base t v) : v = .slice .none 0 0 ∨ ∃ B o n c, v = .slice (some ⟨B, o, .none⟩) n c := by
  unfold Cell.okWide at h
  rw [hu] at h
  cases v <;> simp only [Cell.ok, hu] at h
  rename_i a n c
  cases a with
  | none =>
    cases n with
    | zero =>
      cases c with
      | zero => exact .inl rfl
      | succ c => exact h.elim
    | succ n => exact h.elim
  | some a =>
    obtain ⟨B, o, sp⟩ := a
    have : sp = .none := h.2.2.2.1
    subst this
    exact .inr ⟨B, o, n, c, rfl⟩
theorem row_in {H : Type} {enc : TypeId × Value → H} {W : World} {base : Nat} {v : Value} {d : DataW H} {ps : List MemPlace} (hw : Value.okWide Tryz.prog W .any base 22 v) (h : DataW.Trod enc Tryz.prog W 0 (fun _ => true) true 22 v d ps) : ∃ x xs, Row W v x xs := by
  have u : Tryz.prog.underlying 22 = some (.slice 3) := by kernel_rfl
  have ui : Tryz.prog.underlying 3 = some (.int .i64) := by kernel_rfl
  have ci : Tryz.prog.cellsOf 3 = 1 := by kernel_rfl
  unfold Value.okWide at hw
  rw [u] at hw
  obtain ⟨fuel, ht⟩ := h
  rcases slice_cell u hw with rfl | ⟨B, o, n, c, rfl⟩
  · exact ⟨_, _, .nil⟩
  · rcases open_ints u ui ci ht with ⟨q, _⟩ | ⟨a, len, cap, zs, q, _, hl, _, hz, _, hc, _⟩
    · simp [Value.cells] at q
    · simp only [Value.cells, List.cons.injEq, Value.slice.injEq, Option.some.injEq, and_true] at q
      obtain ⟨rfl, rfl, rfl⟩ := q
      simp only [if_true] at hz
      have hlen : (zs.take n).length = n := by rw [List.length_take]; omega
      have key : ∀ (i : Nat) x, (zs.take n)[i]? = some x → W.cell? ⟨B, o + i, .none⟩ = some (.int .i64 x) := fun i x hx => by
        have hi := (List.getElem?_eq_some_iff.1 hx).1
        rw [hlen] at hi
        rw [List.getElem?_take_of_lt hi] at hx
        have := hc i (by omega)
        rw [show zs.getD i 0 = x by simp [List.getD, hx]] at this
        have ea : (⟨B, o, .none⟩ : Addr).add i = ⟨B, o + i, .none⟩ := by
          by_cases hz : i = 0
          · subst hz; rfl
          · simp only [Addr.add, hz, if_false]
        rw [ea] at this
        exact this
      have r := Row.some (W := W) (B := B) (o := o) (cap := c) key
      rw [hlen] at r
      exact ⟨_, _, r⟩
end Claim
end Go.Proofs.YtgadijnefbmgkaaGreatDoor

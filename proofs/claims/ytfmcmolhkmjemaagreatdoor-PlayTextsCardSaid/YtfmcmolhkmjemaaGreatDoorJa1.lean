/- The package-level variables that chapter 41 reads, as their initialisers lay them; a row of results that is handed in. -/
import Derived.Test.YtfmcmolhkmjemaaGreatDoorPl1
import Derived.Test.YtfmcmolhkmjemaaGreatDoorTie
import Derived.Test.YtfmcmolhkmjemaaGreatDoorCards
import Derived.ProofKit
import Derived.LaidMore
import Derived.OpenShut
import Derived.Stop.Joined
import Derived.SevenTiedAt
import Derived.Carry
import Derived.Lib.LaidTab
import Derived.ChangeSame
namespace Go.Proofs.YtfmcmolhkmjemaaGreatDoor
set_option maxRecDepth 100000
open Go.ChangeShapes Go.WideShapes Go.ChangeAt Go.WideMaps Go.WideElems Go.RowKit
namespace Claim
theorem own : ownKnob Tryz.prog.godebug = .none := by kernel_rfl
theorem laidOut : laidOutB Tryz.prog = true := by kernel_rfl
theorem n32 : Tryz.prog.globalNamed "math/bits.deBruijn32tab" = some gDe32 := by kernel_rfl
theorem n64 : Tryz.prog.globalNamed "math/bits.deBruijn64tab" = some gDe64 := by kernel_rfl
theorem nPow : Tryz.prog.globalNamed "internal/strconv.uint64pow10" = some gPow := by kernel_rfl
theorem nLet : Tryz.prog.globalNamed "estray/answer.letters" = some gLet := by kernel_rfl
theorem t32 : (Tryz.prog.globals[gDe32]?).map (·.type) = some 458 := by kernel_rfl
theorem t64 : (Tryz.prog.globals[gDe64]?).map (·.type) = some 459 := by kernel_rfl
theorem tPow : (Tryz.prog.globals[gPow]?).map (·.type) = some 314 := by kernel_rfl
theorem tLet : (Tryz.prog.globals[gLet]?).map (·.type) = some 461 := by kernel_rfl
/-- the variables, as their initialisers lay them -/
abbrev lets : List (String × DataW Unit) := [("math/bits.deBruijn32tab", Rows.laid_math_bits_deBruijn32tab), ("math/bits.deBruijn64tab", Rows.laid_math_bits_deBruijn64tab), ("internal/strconv.uint64pow10", Rows.laid_internal_strconv_uint64pow10), ("estray/answer.letters", Rows.laid_estray_answer_letters)]
def intsOf (l : List Nat) : List Int := l.map Int.ofNat
theorem d32 {H : Type} : (Rows.laid_math_bits_deBruijn32tab : DataW H) = Lib.tabData .u8 (intsOf de32) := rfl
theorem d64 {H : Type} : (Rows.laid_math_bits_deBruijn64tab : DataW H) = Lib.tabData .u8 (intsOf de64) := rfl
theorem dPow {H : Type} : (Rows.laid_internal_strconv_uint64pow10 : DataW H) = Lib.tabData .u64 Lib.pow10Tab := rfl
theorem dLet {H : Type} : (Rows.laid_estray_answer_letters : DataW H) = Lib.tabData .u8 (intsOf letters) := rfl
/-- a variable holds these integers, and no more -/
def HoldsTab (W : World) (g : Nat) (k : IntKind) (zs : List Int) : Prop := ∃ cs el fr, W.heap[g]? = some (.cells cs el fr) ∧ cs.toList = zs.map fun z => Value.int k z
theorem holds_one {H : Type} {enc : TypeId × Value → H} {W : World} {base : Nat} {sp : Nat → Bool} {held : Bool} {name : String} {g : Nat} {t e : TypeId} {n : Nat} {k : IntKind} {zs : List Int} {cs : Array Value} {fuel : Nat} {p : List MemPlace} {d : DataW H}
    (hg : Tryz.prog.globalNamed name = some g) (hv : W.var? Tryz.prog name = some cs) (ht : Tryz.prog.underlying t = some (.array n e)) (he : Tryz.prog.underlying e = some (.int k)) (hce : Tryz.prog.cellsOf e = 1) (hct : Tryz.prog.cellsOf t = n)
    (hd : DataW.trod enc Tryz.prog W base sp held fuel t cs.toList = some (d, p)) (e1 : d = Lib.tabData k zs) : HoldsTab W g k zs := by
  subst e1
  have h1 := Lib.cells_of_tab ht he hce hct hd
  unfold World.var? at hv
  rw [hg] at hv
  simp only [Option.bind_some] at hv
  split at hv
  · rename_i cs' el fr hw
    cases hv
    exact ⟨_, el, fr, hw, h1⟩
  · cases hv
/-- what the variables hold -/
structure Held (W : World) : Prop where
  de32 : HoldsTab W gDe32 .u8 (intsOf de32)
  de64 : HoldsTab W gDe64 .u8 (intsOf de64)
  pow : HoldsTab W gPow .u64 Lib.pow10Tab
  letters : HoldsTab W gLet .u8 (intsOf letters)
theorem held_of_laid {W : World} (h : laidMetH Tryz.prog lets W) : Held W := by
  rw [MakeChecks.laidMetH_plain _ _ _ (by kernel_rfl)] at h
  obtain ⟨ps, ⟨g0, t0, cs0, f0, p0, q0, hg0, ht0, hv0, hd0, ⟨g1, t1, cs1, f1, p1, q1, hg1, ht1, hv1, hd1, ⟨g2, t2, cs2, f2, p2, q2, hg2, ht2, hv2, hd2, ⟨g3, t3', cs3, f3, p3, q3, hg3, ht3, hv3, hd3, _, _⟩, _⟩, _⟩, _⟩, _, _⟩ := h
  obtain rfl := Option.some.inj (n32.symm.trans hg0)
  obtain rfl := Option.some.inj (t32.symm.trans ht0)
  obtain rfl := Option.some.inj (n64.symm.trans hg1)
  obtain rfl := Option.some.inj (t64.symm.trans ht1)
  obtain rfl := Option.some.inj (nPow.symm.trans hg2)
  obtain rfl := Option.some.inj (tPow.symm.trans ht2)
  obtain rfl := Option.some.inj (nLet.symm.trans hg3)
  obtain rfl := Option.some.inj (tLet.symm.trans ht3)
  exact ⟨holds_one hg0 hv0 (n := 32) (e := 5) (k := .u8) (by kernel_rfl) (by kernel_rfl) (by kernel_rfl) (by kernel_rfl) hd0 d32,
    holds_one hg1 hv1 (n := 64) (e := 5) (k := .u8) (by kernel_rfl) (by kernel_rfl) (by kernel_rfl) (by kernel_rfl) hd1 d64,
    holds_one hg2 hv2 (n := 20) (e := 50) (k := .u64) (by kernel_rfl) (by kernel_rfl) (by kernel_rfl) (by kernel_rfl) hd2 dPow,
    holds_one hg3 hv3 (n := 4) (e := 5) (k := .u8) (by kernel_rfl) (by kernel_rfl) (by kernel_rfl) (by kernel_rfl) hd3 dLet⟩
open Ev in
theorem tab_vars {W : World} {g : Nat} {k : IntKind} {zs : List Int} (h : HoldsTab W g k zs) : ∃ cs el fr, W.heap[g]? = some (.cells cs el fr) ∧ cs.size = (zs.map (V.int k)).length ∧ ∀ (i : Nat) (v : V), (zs.map (V.int k))[i]? = some v → ∃ x : Value, cs[i]? = some x ∧ one x = true ∧ ∀ ρ, Rel ρ v x := by
  obtain ⟨cs, el, fr, hw, hc⟩ := h
  refine ⟨cs, el, fr, hw, ?_, fun i v hv => ?_⟩
  · rw [← Array.length_toList, hc, List.length_map, List.length_map]
  · rw [List.getElem?_map, Option.map_eq_some_iff] at hv
    obtain ⟨z, hz, rfl⟩ := hv
    refine ⟨.int k z, ?_, rfl, fun ρ => .int _ _⟩
    rw [← Array.getElem?_toList, hc, List.getElem?_map, hz]
    rfl
open Ev in
theorem bytesV_eq (l : List Nat) : bytesV l = (intsOf l).map (V.int .u8) := by
  simp only [bytesV, intsOf, List.map_map]
  rfl
open Ev in
theorem vars_of_held {W : World} (h : Held W) : VarsOk gs W := by
  intro g l hm
  refine ⟨gs_lt _ hm, ?_⟩
  simp only [gs, List.mem_cons, Prod.mk.injEq, List.not_mem_nil, or_false] at hm
  rcases hm with ⟨rfl, rfl⟩ | ⟨rfl, rfl⟩ | ⟨rfl, rfl⟩ | ⟨rfl, rfl⟩
  · exact tab_vars h.pow
  · rw [bytesV_eq]; exact tab_vars h.de32
  · rw [bytesV_eq]; exact tab_vars h.de64
  · rw [bytesV_eq]; exact tab_vars h.letters
/-- no variable holds a number of 64 bits with a sign -/
theorem tab_kind {W : World} {g : Nat} {k : IntKind} {zs : List Int} (h : HoldsTab W g k zs) {o : Nat} {x : Int} (hx : W.cell? ⟨g, o, .none⟩ = some (.int .i64 x)) : k = .i64 := by
  obtain ⟨cs, el, fr, hw, hc⟩ := h
  unfold World.cell? at hx
  rw [hw] at hx
  have hx : cs[o]? = some (.int .i64 x) := by simpa using hx
  rw [← Array.getElem?_toList, hc, List.getElem?_map, Option.map_eq_some_iff] at hx
  obtain ⟨z, _, hz⟩ := hx
  cases hz
  rfl
/-! a row of results that is handed in -/
open Ev in
/-- a row of results: nil, or so many of them -/
inductive Row (W : World) : Value → List (Int × Int) → Prop
  | nil : Row W (.slice .none 0 0) []
  | some {B o cap : Nat} {xs : List (Int × Int)} (h : ∀ (i : Nat) x y, xs[i]? = some (x, y) → W.cell? ⟨B, o + 2 * i, .none⟩ = some (.int .i64 x) ∧ W.cell? ⟨B, o + (2 * i + 1), .none⟩ = some (.int .i64 y)) (hx : inR xs) : Row W (.slice (some ⟨B, o, .none⟩) xs.length cap) xs
theorem slice_cell {W : World} {base : Nat} {t e : TypeId} {v : Value} (hu : Tryz.prog.underlying t = some (.slice e)) (h : Cell.okWide Tryz.prog W .any base t v) : v = .slice .none 0 0 ∨ ∃ B o n c, v = .slice (some ⟨B, o, .none⟩) n c := by
  unfold Cell.okWide at h
  rw [hu] at h
  cases v <;> simp only [Cell.ok, hu] at h
  rename_i a n c
  cases a with
  | none =>
    cases n with
    | zero =>
      cases c with
      | zero => exact .inl rfl
      | succ c => exact h.elim
    | succ n => exact h.elim
  | some a =>
    obtain ⟨B, o, sp⟩ := a
    have : sp = .none := h.2.2.2.1
    subst this
    exact .inr ⟨B, o, n, c, rfl⟩
def res1 (c : World) (B o i : Nat) : Int := match c.cell? ⟨B, o + 2 * i, .none⟩ with
  | some (.int _ x) => x
  | _ => 0
def res2 (c : World) (B o i : Nat) : Int := match c.cell? ⟨B, o + (2 * i + 1), .none⟩ with
  | some (.int _ x) => x
  | _ => 0
theorem add_at (B o i : Nat) : (⟨B, o, .none⟩ : Addr).add i = ⟨B, o + i, .none⟩ := by
  by_cases hz : i = 0
  · subst hz; rfl
  · simp only [Addr.add, hz, if_false]
def isRes : Option TypeDesc → Bool
  | some (.struct fs) => match fs.toList with
    | [f0, f1] => f0.type == 24 && f0.offset == 0 && f1.type == 3 && f1.offset == 1
    | _ => false
  | _ => false
theorem isRes_eq {d : Option TypeDesc} (h : isRes d = true) : ∃ f0 f1 : Field, d = some (.struct #[f0, f1]) ∧ f0.type = 24 ∧ f0.offset = 0 ∧ f1.type = 3 ∧ f1.offset = 1 := by
  unfold isRes at h
  split at h
  · rename_i fs
    split at h
    · rename_i f0 f1 hfs
      simp only [Bool.and_eq_true, beq_iff_eq] at h
      refine ⟨f0, f1, ?_, h.1.1.1, h.1.1.2, h.1.2, h.2⟩
      rw [← Array.toArray_toList (xs := fs), hfs]
    · cases h
  · cases h
theorem res_in {H : Type} {enc : TypeId × Value → H} {W : World} {base : Nat} {sp : Nat → Bool} {held : Bool} {fuel : Nat} {cs : List Value} {x : DataW H × List MemPlace} (h : DataW.trod enc Tryz.prog W base sp held fuel tRes cs = some x) :
    ∃ a b : Int, cs = [.int .i64 a, .int .i64 b] ∧ (Lit.int .i64 a).wf = true ∧ (Lit.int .i64 b).wf = true := by
  obtain ⟨f0, f1, hu, e0, e1, e2, e3⟩ := isRes_eq (show isRes (Tryz.prog.underlying tRes) = true by kernel_rfl)
  have c0 : Tryz.prog.cellsOf 24 = 1 := by kernel_rfl
  have c1 : Tryz.prog.cellsOf 3 = 1 := by kernel_rfl
  have c2 : Tryz.prog.cellsOf tRes = 2 := by kernel_rfl
  obtain ⟨y0, y1, n, _, hl, h0, h1⟩ := trod_struct2 hu h
  rw [e0, e1, c0] at h0
  rw [e2, e3, c1] at h1
  rw [c2] at hl
  obtain ⟨a, q0, _, w0⟩ := DataW.trod_int (show Tryz.prog.underlying 24 = some (.int .i64) by kernel_rfl) h0
  obtain ⟨b, q1, _, w1⟩ := DataW.trod_int (show Tryz.prog.underlying 3 = some (.int .i64) by kernel_rfl) h1
  refine ⟨a, b, ?_, w0, w1⟩
  match cs, hl with
  | [c, d], _ =>
    simp only [List.drop_zero, List.take_succ_cons, List.take_zero, List.drop_succ_cons, List.cons.injEq, and_true] at q0 q1
    rw [q0, q1]
theorem row_in {H : Type} {enc : TypeId × Value → H} {W : World} {base : Nat} {v : Value} {d : DataW H} {ps : List MemPlace} (hw : Value.okWide Tryz.prog W .any base 22 v) (h : DataW.Trod enc Tryz.prog W 0 (fun _ => true) true 22 v d ps) : ∃ xs, Row W v xs := by
  have u : Tryz.prog.underlying 22 = some (.slice tRes) := by kernel_rfl
  have c2 : Tryz.prog.cellsOf tRes = 2 := by kernel_rfl
  unfold Value.okWide at hw
  rw [u] at hw
  obtain ⟨fuel, ht⟩ := h
  rcases slice_cell u hw with rfl | ⟨B, o, n, c, rfl⟩
  · exact ⟨_, .nil⟩
  · rcases DataW.trod_slice u ht with ⟨q, _⟩ | ⟨a, len, cap, elems, rest, m, _, q, _, hb, hl, _, hlen, hel, _⟩
    · simp [Value.cells] at q
    · simp only [Value.cells, List.cons.injEq, Value.slice.injEq, Option.some.injEq, and_true] at q
      obtain ⟨rfl, rfl, rfl⟩ := q
      have key : ∀ i, i < n → ∃ x y, W.cell? ⟨B, o + 2 * i, .none⟩ = some (.int .i64 x) ∧ W.cell? ⟨B, o + (2 * i + 1), .none⟩ = some (.int .i64 y) ∧ (Lit.int .i64 x).wf = true ∧ (Lit.int .i64 y).wf = true := fun i hi => by
        have h1 := hel i hi
        rw [c2, List.getElem?_eq_getElem (by omega), Option.bind_eq_some_iff] at h1
        obtain ⟨cs, hcs, hy⟩ := h1
        obtain ⟨x, y, rfl, w0, w1⟩ := res_in hy
        obtain ⟨_, _, hcell⟩ := World.cells?_some hcs
        have g0 := hcell 0 (by omega)
        have g1 := hcell 1 (by omega)
        rw [add_at, add_at] at g0 g1
        refine ⟨x, y, ?_, ?_, w0, w1⟩
        · rw [show o + 2 * i = o + i * 2 + 0 by omega]; exact g0
        · rw [show o + (2 * i + 1) = o + i * 2 + 1 by omega]; exact g1
      let xs : List (Int × Int) := (List.range n).map fun i => (res1 W B o i, res2 W B o i)
      have hxl : xs.length = n := by simp [xs]
      have at1 : ∀ (i : Nat) x y, xs[i]? = some (x, y) → i < n ∧ x = res1 W B o i ∧ y = res2 W B o i := fun i x y hx => by
        have hi : i < n := by have := (List.getElem?_eq_some_iff.1 hx).1; omega
        simp only [xs, List.getElem?_map, List.getElem?_range hi, Option.map_some, Option.some.injEq, Prod.mk.injEq] at hx
        exact ⟨hi, hx.1.symm, hx.2.symm⟩
      have at2 : ∀ i, i < n → ∃ x y, res1 W B o i = x ∧ res2 W B o i = y ∧ W.cell? ⟨B, o + 2 * i, .none⟩ = some (.int .i64 x) ∧ W.cell? ⟨B, o + (2 * i + 1), .none⟩ = some (.int .i64 y) ∧ (Lit.int .i64 x).wf = true ∧ (Lit.int .i64 y).wf = true := fun i hi => by
        obtain ⟨x, y, g0, g1, w0, w1⟩ := key i hi
        refine ⟨x, y, ?_, ?_, g0, g1, w0, w1⟩
        · simp only [res1, g0]
        · simp only [res2, g1]
      have r := Row.some (W := W) (B := B) (o := o) (cap := c) (xs := xs) (fun i x y hx => by
        obtain ⟨hlt, rfl, rfl⟩ := at1 i x y hx
        obtain ⟨x, y, e0, e1, g0, g1, _, _⟩ := at2 i hlt
        rw [e0, e1]
        exact ⟨g0, g1⟩) (fun p hp => by
        obtain ⟨i, hi⟩ := List.getElem?_of_mem hp
        obtain ⟨x0, y0⟩ := p
        obtain ⟨hlt, rfl, rfl⟩ := at1 i x0 y0 hi
        obtain ⟨x, y, e0, e1, _, _, w0, w1⟩ := at2 i hlt
        simp only [e0, e1]
        have m0 : IntKind.i64.min = -9223372036854775808 := by decide
        have m1 : IntKind.i64.max = 9223372036854775807 := by decide
        simp only [Lit.wf, Bool.and_eq_true, decide_eq_true_eq, m0, m1] at w0 w1
        omega)
      rw [hxl] at r
      exact ⟨_, r⟩
end Claim
end Go.Proofs.YtfmcmolhkmjemaaGreatDoor

/- The package-level variable that chapter 45 reads, as its initialiser lays it; a row of mutators' doings that is handed in. -/
import Derived.Test.YtcbggkejlhifpaaGreatDoorLb2
import Derived.Test.YtcbggkejlhifpaaGreatDoorTie
import Derived.Test.YtcbggkejlhifpaaGreatDoorCards
import Derived.ProofKit
import Derived.LaidMore
import Derived.OpenShut
import Derived.Stop.Joined
import Derived.SevenTiedAt
import Derived.Carry
import Derived.Lib.LaidTab
import Derived.ChangeSame
namespace Go.Proofs.YtcbggkejlhifpaaGreatDoor
set_option maxRecDepth 100000
open Go.ChangeShapes Go.WideShapes Go.ChangeAt Go.WideMaps Go.WideElems Go.RowKit
namespace Claim
theorem own : ownKnob Tryz.prog.godebug = .none := by kernel_rfl
theorem laidOut : laidOutB Tryz.prog = true := by kernel_rfl
theorem nLet : Tryz.prog.globalNamed "estray/answer.letters" = some gLet := by kernel_rfl
theorem tLet : (Tryz.prog.globals[gLet]?).map (·.type) = some 340 := by kernel_rfl
/-- the variable, as its initialiser lays it -/
abbrev lets : List (String × DataW Unit) := [("estray/answer.letters", Rows.laid_estray_answer_letters)]
def intsOf (l : List Nat) : List Int := l.map Int.ofNat
theorem dLet {H : Type} : (Rows.laid_estray_answer_letters : DataW H) = Lib.tabData .u8 (intsOf letters) := rfl
/-- a variable holds these integers, and no more -/
def HoldsTab (W : World) (g : Nat) (k : IntKind) (zs : List Int) : Prop := ∃ cs el fr, W.heap[g]? = some (.cells cs el fr) ∧ cs.toList = zs.map fun z => Value.int k z
theorem holds_one {H : Type} {enc : TypeId × Value → H} {W : World} {base : Nat} {sp : Nat → Bool} {held : Bool} {name : String} {g : Nat} {t e : TypeId} {n : Nat} {k : IntKind} {zs : List Int} {cs : Array Value} {fuel : Nat} {p : List MemPlace} {d : DataW H}
    (hg : Tryz.prog.globalNamed name = some g) (hv : W.var? Tryz.prog name = some cs) (ht : Tryz.prog.underlying t = some (.array n e)) (he : Tryz.prog.underlying e = some (.int k)) (hce : Tryz.prog.cellsOf e = 1) (hct : Tryz.prog.cellsOf t = n)
    (hd : DataW.trod enc Tryz.prog W base sp held fuel t cs.toList = some (d, p)) (e1 : d = Lib.tabData k zs) : HoldsTab W g k zs := by
  subst e1
  have h1 := Lib.cells_of_tab ht he hce hct hd
  unfold World.var? at hv
  rw [hg] at hv
  simp only [Option.bind_some] at hv
  split at hv
  · rename_i cs' el fr hw
    cases hv
    exact ⟨_, el, fr, hw, h1⟩
  · cases hv
/-- what the variable holds -/
structure Held (W : World) : Prop where
  letters : HoldsTab W gLet .u8 (intsOf letters)
theorem held_of_laid {W : World} (h : laidMetH Tryz.prog lets W) : Held W := by
  rw [MakeChecks.laidMetH_plain _ _ _ (by kernel_rfl)] at h
  obtain ⟨ps, ⟨g0, t0, cs0, f0, p0, q0, hg0, ht0, hv0, hd0, _, _⟩, _, _⟩ := h
  obtain rfl := Option.some.inj (nLet.symm.trans hg0)
  obtain rfl := Option.some.inj (tLet.symm.trans ht0)
  exact ⟨holds_one hg0 hv0 (n := 4) (e := 5) (k := .u8) (by kernel_rfl) (by kernel_rfl) (by kernel_rfl) (by kernel_rfl) hd0 dLet⟩
open Ev in
theorem tab_vars {W : World} {g : Nat} {k : IntKind} {zs : List Int} (h : HoldsTab W g k zs) : ∃ cs el fr, W.heap[g]? = some (.cells cs el fr) ∧ cs.size = (zs.map (V.int k)).length ∧ ∀ (i : Nat) (v : V), (zs.map (V.int k))[i]? = some v → ∃ x : Value, cs[i]? = some x ∧ one x = true ∧ ∀ ρ, Rel ρ v x := by
  obtain ⟨cs, el, fr, hw, hc⟩ := h
  refine ⟨cs, el, fr, hw, ?_, fun i v hv => ?_⟩
  · rw [← Array.length_toList, hc, List.length_map, List.length_map]
  · rw [List.getElem?_map, Option.map_eq_some_iff] at hv
    obtain ⟨z, hz, rfl⟩ := hv
    refine ⟨.int k z, ?_, rfl, fun ρ => .int _ _⟩
    rw [← Array.getElem?_toList, hc, List.getElem?_map, hz]
    rfl
open Ev in
theorem bytesV_eq (l : List Nat) : bytesV l = (intsOf l).map (V.int .u8) := by
  simp only [bytesV, intsOf, List.map_map]
  rfl
open Ev in
theorem vars_of_held {W : World} (h : Held W) : VarsOk gs W := by
  intro g l hm
  refine ⟨gs_lt _ hm, ?_⟩
  simp only [gs, List.mem_cons, Prod.mk.injEq, List.not_mem_nil, or_false] at hm
  obtain ⟨rfl, rfl⟩ := hm
  rw [bytesV_eq]; exact tab_vars h.letters
/-- the variable has four cells alone -/
theorem tab_short {W : World} (h : Held W) {o : Nat} {v : Value} (ho : 4 ≤ o) : W.cell? ⟨gLet, o, .none⟩ ≠ some v := fun hx => by
  obtain ⟨cs, el, fr, hw, hc⟩ := h.letters
  unfold World.cell? at hx
  rw [hw] at hx
  have hx : cs[o]? = some v := by simpa using hx
  have hl : cs.size = 4 := by rw [← Array.length_toList, hc]; rfl
  rw [Array.getElem?_eq_none (by omega)] at hx
  cases hx
/-! a row of doings that is handed in -/
/-- what a mutator does, by numbers, one behind the other -/
def zs (r : MixR) : List Int := [r.k, r.m, r.a, r.b, r.c]
def flatZ (xs : List MixR) : List Int := xs.flatMap zs
theorem flatZ_len (xs : List MixR) : (flatZ xs).length = xs.length * 5 := by
  induction xs with
  | nil => rfl
  | cons x xs ih =>
    simp only [flatZ, List.flatMap_cons, List.length_append, List.length_cons] at ih ⊢
    rw [ih]
    show 5 + _ = _
    omega
theorem flatZ_get : ∀ {xs : List MixR} {k : Nat} {r : MixR}, xs[k]? = some r → ∀ j, j < 5 → (flatZ xs)[5 * k + j]? = (zs r)[j]?
  | p :: l, 0, r, h, j, hj => by
    simp only [List.getElem?_cons_zero, Option.some.injEq] at h
    subst h
    simp only [flatZ, List.flatMap_cons, Nat.mul_zero, Nat.zero_add]
    rw [List.getElem?_append_left (by show j < 5; exact hj)]
  | p :: l, k + 1, r, h, j, hj => by
    simp only [List.getElem?_cons_succ] at h
    have := flatZ_get h j hj
    simp only [flatZ, List.flatMap_cons] at this ⊢
    rw [List.getElem?_append_right (by show 5 ≤ _; omega), ← this]
    congr 1
    show 5 * (k + 1) + j - 5 = _
    omega
  | [], k, r, h, _, _ => by simp at h
open Ev in
theorem mixC_eq (xs : List MixR) : mixC xs = (flatZ xs).map (V.int .u8) := by
  induction xs with
  | nil => rfl
  | cons x xs ih =>
    simp only [mixC, flatZ, List.flatMap_cons, List.map_append] at ih ⊢
    rw [ih]
    rfl
/-- a row of doings: nil, or so many of them -/
inductive Row (W : World) : Value → List MixR → Prop
  | nil : Row W (.slice .none 0 0) []
  | some {B o cap : Nat} {xs : List MixR} (h : ∀ (i : Nat) z, (flatZ xs)[i]? = some z → W.cell? ⟨B, o + i, .none⟩ = some (.int .u8 z)) (hx : ∀ m, m ∈ xs → mixIn m) : Row W (.slice (some ⟨B, o, .none⟩) xs.length cap) xs
theorem slice_cell {W : World} {base : Nat} {t e : TypeId} {v : Value} (hu : Tryz.prog.underlying t = some (.slice e)) (h : Cell.okWide Tryz.prog W .any base t v) : v = .slice .none 0 0 ∨ ∃ B o n c, v = .slice (some ⟨B, o, .none⟩) n c := by
  unfold Cell.okWide at h
  rw [hu] at h
  cases v <;> simp only [Cell.ok, hu] at h
  rename_i a n c
  cases a with
  | none =>
    cases n with
    | zero =>
      cases c with
      | zero => exact .inl rfl
      | succ c => exact h.elim
    | succ n => exact h.elim
  | some a =>
    obtain ⟨B, o, sp⟩ := a
    have : sp = .none := h.2.2.2.1
    subst this
    exact .inr ⟨B, o, n, c, rfl⟩
/-- the number at a place -/
def zAt (c : World) (B o : Nat) : Int := match c.cell? ⟨B, o, .none⟩ with
  | some (.int _ x) => x
  | _ => 0
theorem add_at (B o i : Nat) : (⟨B, o, .none⟩ : Addr).add i = ⟨B, o + i, .none⟩ := by
  by_cases hz : i = 0
  · subst hz; rfl
  · simp only [Addr.add, hz, if_false]
def isMix : Option TypeDesc → Bool
  | some (.struct fs) => match fs.toList with
    | [f0, f1, f2, f3, f4] => f0.type == 5 && f0.offset == 0 && (f1.type == 5 && f1.offset == 1) && (f2.type == 5 && f2.offset == 2) && (f3.type == 5 && f3.offset == 3) && (f4.type == 5 && f4.offset == 4)
    | _ => false
  | _ => false
theorem isMix_eq {d : Option TypeDesc} (h : isMix d = true) : ∃ fs : Array Field, d = some (.struct fs) ∧ ∃ f0 f1 f2 f3 f4 : Field, fs = #[f0, f1, f2, f3, f4] ∧ (f0.type = 5 ∧ f0.offset = 0) ∧ (f1.type = 5 ∧ f1.offset = 1) ∧ (f2.type = 5 ∧ f2.offset = 2) ∧ (f3.type = 5 ∧ f3.offset = 3) ∧ (f4.type = 5 ∧ f4.offset = 4) := by
  unfold isMix at h
  split at h
  · rename_i fs
    split at h
    · rename_i f0 f1 f2 f3 f4 hfs
      simp only [Bool.and_eq_true, beq_iff_eq] at h
      refine ⟨fs, rfl, f0, f1, f2, f3, f4, ?_, h.1.1.1.1, h.1.1.1.2, h.1.1.2, h.1.2, h.2⟩
      rw [← Array.toArray_toList (xs := fs), hfs]
    · cases h
  · cases h
theorem mix_in {H : Type} {enc : TypeId × Value → H} {W : World} {base : Nat} {sp : Nat → Bool} {held : Bool} {fuel : Nat} {cs : List Value} {x : DataW H × List MemPlace} (h : DataW.trod enc Tryz.prog W base sp held fuel tMix cs = some x) :
    cs.length = 5 ∧ ∀ j, j < 5 → ∃ a : Int, cs[j]? = some (.int .u8 a) ∧ (Lit.int .u8 a).wf = true := by
  obtain ⟨fs, hu, f0, f1, f2, f3, f4, rfl, e0, e1, e2, e3, e4⟩ := isMix_eq (show isMix (Tryz.prog.underlying tMix) = true by kernel_rfl)
  have c1 : Tryz.prog.cellsOf 5 = 1 := by kernel_rfl
  have c5 : Tryz.prog.cellsOf tMix = 5 := by kernel_rfl
  have u8 : Tryz.prog.underlying 5 = some (.int .u8) := by kernel_rfl
  obtain ⟨xs, n, _, _, hl, hxl, hf⟩ := DataW.trod_struct hu h
  rw [c5] at hl
  have hxl : xs.length = 5 := hxl
  refine ⟨hl, fun j hj => ?_⟩
  have key : ∀ f : Field, (#[f0, f1, f2, f3, f4] : Array Field)[j]? = some f → f.type = 5 ∧ f.offset = j → ∃ a : Int, cs[j]? = some (.int .u8 a) ∧ (Lit.int .u8 a).wf = true := fun f h1 ⟨h2, h3⟩ => by
    have h4 := hf j f h1
    rw [h2, h3, c1, List.getElem?_eq_getElem (show j < xs.length by omega)] at h4
    obtain ⟨a, q0, _, w0⟩ := DataW.trod_int u8 h4
    refine ⟨a, ?_, w0⟩
    have : ((cs.drop j).take 1)[0]? = some (.int .u8 a) := by rw [q0]; rfl
    rw [List.getElem?_take_of_lt (by decide), List.getElem?_drop] at this
    exact this
  match j, hj with
  | 0, _ => exact key f0 rfl e0
  | 1, _ => exact key f1 rfl e1
  | 2, _ => exact key f2 rfl e2
  | 3, _ => exact key f3 rfl e3
  | 4, _ => exact key f4 rfl e4
theorem row_in {H : Type} {enc : TypeId × Value → H} {W : World} {base : Nat} {v : Value} {d : DataW H} {ps : List MemPlace} (hw : Value.okWide Tryz.prog W .any base 23 v) (h : DataW.Trod enc Tryz.prog W 0 (fun _ => true) true 23 v d ps) : ∃ xs, Row W v xs := by
  have u : Tryz.prog.underlying 23 = some (.slice tMix) := by kernel_rfl
  have c5 : Tryz.prog.cellsOf tMix = 5 := by kernel_rfl
  unfold Value.okWide at hw
  rw [u] at hw
  obtain ⟨fuel, ht⟩ := h
  rcases slice_cell u hw with rfl | ⟨B, o, n, c, rfl⟩
  · exact ⟨_, .nil⟩
  · rcases DataW.trod_slice u ht with ⟨q, _⟩ | ⟨a, len, cap, elems, rest, m, _, q, _, hb, hl, _, hlen, hel, _⟩
    · simp [Value.cells] at q
    · simp only [Value.cells, List.cons.injEq, Value.slice.injEq, Option.some.injEq, and_true] at q
      obtain ⟨rfl, rfl, rfl⟩ := q
      have key : ∀ i j, i < n → j < 5 → W.cell? ⟨B, o + (5 * i + j), .none⟩ = some (.int .u8 (zAt W B (o + (5 * i + j)))) ∧ u8r (zAt W B (o + (5 * i + j))) := fun i j hi hj => by
        have h1 := hel i hi
        rw [c5, List.getElem?_eq_getElem (by omega), Option.bind_eq_some_iff] at h1
        obtain ⟨cs, hcs, hy⟩ := h1
        obtain ⟨hl5, hc⟩ := mix_in hy
        obtain ⟨a, ha, wa⟩ := hc j hj
        obtain ⟨_, _, hcell⟩ := World.cells?_some hcs
        have g0 := hcell j (by omega)
        rw [add_at, add_at, ha] at g0
        rw [show o + i * 5 + j = o + (5 * i + j) by omega] at g0
        have e : zAt W B (o + (5 * i + j)) = a := by simp only [zAt, g0]
        rw [e]
        refine ⟨g0, ?_⟩
        have m0 : IntKind.u8.min = 0 := by decide
        have m1 : IntKind.u8.max = 255 := by decide
        simp only [Lit.wf, Bool.and_eq_true, decide_eq_true_eq, m0, m1] at wa
        unfold u8r
        omega
      let f : Nat → MixR := fun i => ⟨zAt W B (o + (5 * i + 0)), zAt W B (o + (5 * i + 1)), zAt W B (o + (5 * i + 2)), zAt W B (o + (5 * i + 3)), zAt W B (o + (5 * i + 4))⟩
      let xs : List MixR := (List.range n).map f
      have hxl : xs.length = n := by simp [xs]
      have fz : ∀ i j, j < 5 → (zs (f i))[j]? = some (zAt W B (o + (5 * i + j))) := fun i j hj => by
        match j, hj with
        | 0, _ => rfl
        | 1, _ => rfl
        | 2, _ => rfl
        | 3, _ => rfl
        | 4, _ => rfl
      have r := Row.some (W := W) (B := B) (o := o) (cap := c) (xs := xs) (fun p z hz => by
        have hp := (List.getElem?_eq_some_iff.1 hz).1
        rw [flatZ_len, hxl] at hp
        have hi : p / 5 < n := by omega
        have hj : p % 5 < 5 := Nat.mod_lt _ (by decide)
        have hx : xs[p / 5]? = some (f (p / 5)) := by simp only [xs, List.getElem?_map, List.getElem?_range hi, Option.map_some]
        have g := flatZ_get hx (p % 5) hj
        rw [fz _ _ hj] at g
        have e : 5 * (p / 5) + p % 5 = p := Nat.div_add_mod p 5
        rw [e, hz] at g
        cases g
        have := (key (p / 5) (p % 5) hi hj).1
        rw [e] at this
        exact this) (fun r hr => by
        obtain ⟨i, hi⟩ := List.getElem?_of_mem hr
        have hlt : i < n := by have := (List.getElem?_eq_some_iff.1 hi).1; omega
        simp only [xs, List.getElem?_map, List.getElem?_range hlt, Option.map_some, Option.some.injEq] at hi
        subst hi
        exact ⟨(key i 0 hlt (by decide)).2, (key i 1 hlt (by decide)).2, (key i 2 hlt (by decide)).2, (key i 3 hlt (by decide)).2, (key i 4 hlt (by decide)).2⟩)
      rw [hxl] at r
      exact ⟨_, r⟩
end Claim
end Go.Proofs.YtcbggkejlhifpaaGreatDoor

/- The package-level variables that chapter 41 reads, as their initialisers lay them. -/
import Derived.Test.YtemanejjmkjfnaaGreatDoorRd
import Derived.Test.YtemanejjmkjfnaaGreatDoorTie
import Derived.Test.YtemanejjmkjfnaaGreatDoorCards
import Derived.ProofKit
import Derived.LaidMore
import Derived.OpenShut
import Derived.Stop.Joined
import Derived.SevenTiedAt
import Derived.Carry
import Derived.Lib.LaidTab
import Derived.ChangeSame
namespace Go.Proofs.YtemanejjmkjfnaaGreatDoor
set_option maxRecDepth 100000
open Go.ChangeShapes Go.WideShapes Go.ChangeAt Go.WideMaps Go.WideElems Go.RowKit
namespace Claim
theorem own : ownKnob Tryz.prog.godebug = .none := by kernel_rfl
theorem laidOut : laidOutB Tryz.prog = true := by kernel_rfl
theorem n32 : Tryz.prog.globalNamed "math/bits.deBruijn32tab" = some gDe32 := by kernel_rfl
theorem n64 : Tryz.prog.globalNamed "math/bits.deBruijn64tab" = some gDe64 := by kernel_rfl
theorem nPow : Tryz.prog.globalNamed "internal/strconv.uint64pow10" = some gPow := by kernel_rfl
theorem nLet : Tryz.prog.globalNamed "estray/answer.letters" = some gLet := by kernel_rfl
theorem t32 : (Tryz.prog.globals[gDe32]?).map (·.type) = some 519 := by kernel_rfl
theorem t64 : (Tryz.prog.globals[gDe64]?).map (·.type) = some 520 := by kernel_rfl
theorem tPow : (Tryz.prog.globals[gPow]?).map (·.type) = some 407 := by kernel_rfl
theorem tLet : (Tryz.prog.globals[gLet]?).map (·.type) = some 466 := by kernel_rfl
/-- the variables, as their initialisers lay them -/
abbrev lets : List (String × DataW Unit) := [("math/bits.deBruijn32tab", Rows.laid_math_bits_deBruijn32tab), ("math/bits.deBruijn64tab", Rows.laid_math_bits_deBruijn64tab), ("internal/strconv.uint64pow10", Rows.laid_internal_strconv_uint64pow10), ("estray/answer.letters", Rows.laid_estray_answer_letters)]
def intsOf (l : List Nat) : List Int := l.map Int.ofNat
theorem d32 {H : Type} : (Rows.laid_math_bits_deBruijn32tab : DataW H) = Lib.tabData .u8 (intsOf de32) := rfl
theorem d64 {H : Type} : (Rows.laid_math_bits_deBruijn64tab : DataW H) = Lib.tabData .u8 (intsOf de64) := rfl
theorem dPow {H : Type} : (Rows.laid_internal_strconv_uint64pow10 : DataW H) = Lib.tabData .u64 Lib.pow10Tab := rfl
theorem dLet {H : Type} : (Rows.laid_estray_answer_letters : DataW H) = Lib.tabData .u8 (intsOf letters) := rfl
/-- a variable holds these integers, and no more -/
def HoldsTab (W : World) (g : Nat) (k : IntKind) (zs : List Int) : Prop := ∃ cs el fr, W.heap[g]? = some (.cells cs el fr) ∧ cs.toList = zs.map fun z => Value.int k z
theorem holds_one {H : Type} {enc : TypeId × Value → H} {W : World} {base : Nat} {sp : Nat → Bool} {held : Bool} {name : String} {g : Nat} {t e : TypeId} {n : Nat} {k : IntKind} {zs : List Int} {cs : Array Value} {fuel : Nat} {p : List MemPlace} {d : DataW H}
    (hg : Tryz.prog.globalNamed name = some g) (hv : W.var? Tryz.prog name = some cs) (ht : Tryz.prog.underlying t = some (.array n e)) (he : Tryz.prog.underlying e = some (.int k)) (hce : Tryz.prog.cellsOf e = 1) (hct : Tryz.prog.cellsOf t = n)
    (hd : DataW.trod enc Tryz.prog W base sp held fuel t cs.toList = some (d, p)) (e1 : d = Lib.tabData k zs) : HoldsTab W g k zs := by
  subst e1
  have h1 := Lib.cells_of_tab ht he hce hct hd
  unfold World.var? at hv
  rw [hg] at hv
  simp only [Option.bind_some] at hv
  split at hv
  · rename_i cs' el fr hw
    cases hv
    exact ⟨_, el, fr, hw, h1⟩
  · cases hv
/-- what the variables hold -/
structure Held (W : World) : Prop where
  de32 : HoldsTab W gDe32 .u8 (intsOf de32)
  de64 : HoldsTab W gDe64 .u8 (intsOf de64)
  pow : HoldsTab W gPow .u64 Lib.pow10Tab
  letters : HoldsTab W gLet .u8 (intsOf letters)
theorem held_of_laid {W : World} (h : laidMetH Tryz.prog lets W) : Held W := by
  rw [MakeChecks.laidMetH_plain _ _ _ (by kernel_rfl)] at h
  obtain ⟨ps, ⟨g0, t0, cs0, f0, p0, q0, hg0, ht0, hv0, hd0, ⟨g1, t1, cs1, f1, p1, q1, hg1, ht1, hv1, hd1, ⟨g2, t2, cs2, f2, p2, q2, hg2, ht2, hv2, hd2, ⟨g3, t3', cs3, f3, p3, q3, hg3, ht3, hv3, hd3, _, _⟩, _⟩, _⟩, _⟩, _, _⟩ := h
  obtain rfl := Option.some.inj (n32.symm.trans hg0)
  obtain rfl := Option.some.inj (t32.symm.trans ht0)
  obtain rfl := Option.some.inj (n64.symm.trans hg1)
  obtain rfl := Option.some.inj (t64.symm.trans ht1)
  obtain rfl := Option.some.inj (nPow.symm.trans hg2)
  obtain rfl := Option.some.inj (tPow.symm.trans ht2)
  obtain rfl := Option.some.inj (nLet.symm.trans hg3)
  obtain rfl := Option.some.inj (tLet.symm.trans ht3)
  exact ⟨holds_one hg0 hv0 (n := 32) (e := 5) (k := .u8) (by kernel_rfl) (by kernel_rfl) (by kernel_rfl) (by kernel_rfl) hd0 d32,
    holds_one hg1 hv1 (n := 64) (e := 5) (k := .u8) (by kernel_rfl) (by kernel_rfl) (by kernel_rfl) (by kernel_rfl) hd1 d64,
    holds_one hg2 hv2 (n := 20) (e := 45) (k := .u64) (by kernel_rfl) (by kernel_rfl) (by kernel_rfl) (by kernel_rfl) hd2 dPow,
    holds_one hg3 hv3 (n := 4) (e := 5) (k := .u8) (by kernel_rfl) (by kernel_rfl) (by kernel_rfl) (by kernel_rfl) hd3 dLet⟩
open Ev in
theorem tab_vars {W : World} {g : Nat} {k : IntKind} {zs : List Int} (h : HoldsTab W g k zs) : ∃ cs el fr, W.heap[g]? = some (.cells cs el fr) ∧ cs.size = (zs.map (V.int k)).length ∧ ∀ (i : Nat) (v : V), (zs.map (V.int k))[i]? = some v → ∃ x : Value, cs[i]? = some x ∧ one x = true ∧ ∀ ρ, Rel ρ v x := by
  obtain ⟨cs, el, fr, hw, hc⟩ := h
  refine ⟨cs, el, fr, hw, ?_, fun i v hv => ?_⟩
  · rw [← Array.length_toList, hc, List.length_map, List.length_map]
  · rw [List.getElem?_map, Option.map_eq_some_iff] at hv
    obtain ⟨z, hz, rfl⟩ := hv
    refine ⟨.int k z, ?_, rfl, fun ρ => .int _ _⟩
    rw [← Array.getElem?_toList, hc, List.getElem?_map, hz]
    rfl
open Ev in
theorem bytesV_eq (l : List Nat) : bytesV l = (intsOf l).map (V.int .u8) := by
  simp only [bytesV, intsOf, List.map_map]
  rfl
open Ev in
theorem vars_of_held {W : World} (h : Held W) : VarsOk gs W := by
  intro g l hm
  refine ⟨gs_lt _ hm, ?_⟩
  simp only [gs, List.mem_cons, Prod.mk.injEq, List.not_mem_nil, or_false] at hm
  rcases hm with ⟨rfl, rfl⟩ | ⟨rfl, rfl⟩ | ⟨rfl, rfl⟩ | ⟨rfl, rfl⟩
  · exact tab_vars h.pow
  · rw [bytesV_eq]; exact tab_vars h.de32
  · rw [bytesV_eq]; exact tab_vars h.de64
  · rw [bytesV_eq]; exact tab_vars h.letters
end Claim
end Go.Proofs.YtemanejjmkjfnaaGreatDoor

/- Codes one behind the other. -/
import Derived.Test.YtemanejjmkjfnaaGreatDoorIds
namespace Go.Proofs.YtemanejjmkjfnaaGreatDoor
set_option maxRecDepth 100000
open Go.Ev Go.RowKit
def noDefs : List Nat → Bool
  | [] => true
  | _ => false
theorem noDefs_eq {l : List Nat} (h : noDefs l = true) : l = [] := by
  cases l with
  | nil => rfl
  | cons => cases h
noncomputable def evL (G : Γ) (sp : SpF) (N : Nat) (fn : FuncId) : List Code → (X → St → Prop) → St → Prop
  | [], K, st => K .normal st
  | c :: cs, K, st => evW G sp N c none fn st fun x st' => match x with
    | .normal => evL G sp N fn cs K st'
    | x => K x st'
def nest : List Code → Code → Code
  | [], r => r
  | c :: cs, r => .seq c (nest cs r)
def eqH (a b : H) : Prop := a.tr = b.tr ∧ a.next = b.next
theorem at_list {P : Program} {G : Γ} {sp : SpF} (hG : GOk P G) (hcodes : Codes G) (hext : ExtOK P G) (hk : KxOK G sp.kx) {ρ0 : Ren} {h0 : H} {w0 : World} {k : Nat} {Q : Exit → Act → World → Prop} {N : Nat} {fn : FuncId} {K : X → St → Prop} {rest : Code}
    (hN : ∀ st' a' w', K .normal st' → At ρ0 h0 w0 st' a' w' → rest.wpIn Fence.wide k P Q a' w') (hO : ∀ x st' a' w', x ≠ .normal → K x st' → At ρ0 h0 w0 st' a' w' → Q (XE x) a' w') :
    ∀ {cs : List Code} {st : St} {a : Act} {w : World}, At ρ0 h0 w0 st a w → evL G sp N fn cs K st → cs.all okC = true → (nest cs rest).wpIn Fence.wide k P Q a w
  | [], st, a, w, hA, he, _ => hN st a w he hA
  | c :: cs, st, a, w, hA, he, ho => by
    simp only [List.all_cons, Bool.and_eq_true] at ho
    refine wpIn_seq (at_w hG hcodes hext hk hA he ho.1 fun x st' a' w' hK A1 => ?_)
    cases x with
    | normal => exact at_list hG hcodes hext hk hN hO A1 hK ho.2
    | ret => exact hO _ _ _ _ (by simp) hK A1
    | exit i => exact hO _ _ _ _ (by simp) hK A1
/-- a text, as a row of bytes -/
def byts (s : List UInt8) : List V := s.map fun b => .int .u8 (Int.ofNat b.toNat)
theorem byts_len (s : List UInt8) : (byts s).length = s.length := by simp [byts]
theorem byts_app (s t : List UInt8) : byts (s ++ t) = byts s ++ byts t := by simp [byts]
end Go.Proofs.YtemanejjmkjfnaaGreatDoor

/- Codes one behind the other. -/
import Derived.Test.YtcbggkejlhifpaaGreatDoorIds
import Derived.Test.YtcbggkejlhifpaaGreatDoorEvF
import Derived.Test.YtcbggkejlhifpaaGreatDoorEvE
namespace Go.Proofs.YtcbggkejlhifpaaGreatDoor
set_option maxRecDepth 100000
open Go.Ev Go.RowKit
def noDefs : List Nat → Bool
  | [] => true
  | _ => false
theorem noDefs_eq {l : List Nat} (h : noDefs l = true) : l = [] := by
  cases l with
  | nil => rfl
  | cons => cases h
noncomputable def evL (G : Γ) (sp : SpF) (N : Nat) (fn : FuncId) : List Code → (X → St → Prop) → St → Prop
  | [], K, st => K .normal st
  | c :: cs, K, st => evW G sp N c none fn st fun x st' => match x with
    | .normal => evL G sp N fn cs K st'
    | x => K x st'
def nest : List Code → Code → Code
  | [], r => r
  | c :: cs, r => .seq c (nest cs r)
def eqH (a b : H) : Prop := a.tr = b.tr ∧ a.next = b.next
theorem at_list {P : Program} {G : Γ} {sp : SpF} (hG : GOk P G) (hcodes : Codes G) (hext : ExtOK P G) (hk : KxOK G sp.kx) {ρ0 : Ren} {h0 : H} {w0 : World} {k : Nat} {Q : Exit → Act → World → Prop} {N : Nat} {fn : FuncId} {K : X → St → Prop} {rest : Code}
    (hN : ∀ st' a' w', K .normal st' → At ρ0 h0 w0 st' a' w' → rest.wpIn Fence.wide k P Q a' w') (hO : ∀ x st' a' w', x ≠ .normal → K x st' → At ρ0 h0 w0 st' a' w' → Q (XE x) a' w') :
    ∀ {cs : List Code} {st : St} {a : Act} {w : World}, At ρ0 h0 w0 st a w → evL G sp N fn cs K st → cs.all okC = true → (nest cs rest).wpIn Fence.wide k P Q a w
  | [], st, a, w, hA, he, _ => hN st a w he hA
  | c :: cs, st, a, w, hA, he, ho => by
    simp only [List.all_cons, Bool.and_eq_true] at ho
    refine wpIn_seq (at_w hG hcodes hext hk hA he ho.1 fun x st' a' w' hK A1 => ?_)
    cases x with
    | normal => exact at_list hG hcodes hext hk hN hO A1 hK ho.2
    | ret => exact hO _ _ _ _ (by simp) hK A1
    | exit i => exact hO _ _ _ _ (by simp) hK A1
/-- a text, as a row of bytes -/
def byts (s : List UInt8) : List V := s.map fun b => .int .u8 (Int.ofNat b.toNat)
theorem byts_len (s : List UInt8) : (byts s).length = s.length := by simp [byts]
theorem byts_app (s t : List UInt8) : byts (s ++ t) = byts s ++ byts t := by simp [byts]
end Go.Proofs.YtcbggkejlhifpaaGreatDoor
/-! Calls that are known under a condition. -/
namespace Go.Ev
/-- what is known of a call, and under which condition -/
abbrev KBool := FuncId → List V → H → Option (Bool × V)
noncomputable def extU (kB : KBool) (g : FuncId → List V → H → Option (V × H)) (f : FuncId) (args : List V) (h : H) : Option (V × H) := match kB f args h with
  | some (b, v) => match b with
    | true => some (v, h)
    | false => none
  | none => g f args h
noncomputable def kxU (kB : KBool) : KX := fun f args h => match kB f args h with
  | some (b, v) => some (not b, (.nilf, h), (v, h))
  | none => none
theorem kxU_ok {P : Program} {eqs : List TypeId} {rows : List (FuncId × Row)} {kB : KBool} {g : FuncId → List V → H → Option (V × H)} : KxOK (mkG P eqs rows (extU kB g)) (kxU kB) := fun f args h b r1 r2 hk => by
  unfold kxU at hk
  split at hk
  · rename_i b0 v q
    simp only [Option.some.injEq, Prod.mk.injEq] at hk
    obtain ⟨e1, e2, e3⟩ := hk
    refine ⟨fun _ hb => absurd (show bog r1.1 = true by rw [← e2]; rfl) (by rw [hb]; exact Bool.false_ne_true), fun hb => ?_⟩
    rw [← e3]
    show extU kB g f args h = _
    unfold extU
    rw [q]
    cases b0 with
    | true => rfl
    | false => rw [hb] at e1; cases e1
  · cases hk
theorem extU_ok {P : Program} {eqs : List TypeId} {rows : List (FuncId × Row)} {kB : KBool} {g : FuncId → List V → H → Option (V × H)} (hB : ∀ f, KnownOk P (f, fun args h => match kB f args h with | some (true, v) => some v | _ => none)) (hg : ExtOK P (mkG P eqs rows g)) : ExtOK P (mkG P eqs rows (extU kB g)) := fun f args h v h' hr ρ cargs w ha hS n => by
  have hr : extU kB g f args h = some (v, h') := hr
  unfold extU at hr
  split at hr
  · rename_i b v0 q
    split at hr
    · cases hr
      refine extL_ok (G := mkG P eqs rows (extL [(f, fun args h => match kB f args h with | some (true, v) => some v | _ => none)])) (l := [(f, fun args h => match kB f args h with | some (true, v) => some v | _ => none)]) (fun x hx => by
        simp only [List.mem_cons, List.not_mem_nil, or_false] at hx
        subst hx
        exact hB f) rfl f args h v h ?_ ρ cargs w ha hS n
      show extL _ f args h = _
      have e : Nat.beq f f = true := (T.beq_true).2 rfl
      simp only [extL, e, q]
    · cases hr
  · exact hg f args h v h' hr ρ cargs w ha hS n
end Go.Ev

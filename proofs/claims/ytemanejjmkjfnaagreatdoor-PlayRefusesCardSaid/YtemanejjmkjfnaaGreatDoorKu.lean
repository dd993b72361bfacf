/- Calls that are known under a condition. -/
import Derived.Test.YtemanejjmkjfnaaGreatDoorSc0
import Derived.Test.YtemanejjmkjfnaaGreatDoorEvF
import Derived.Test.YtemanejjmkjfnaaGreatDoorEvE
namespace Go.Ev
/-- what is known of a call, and under which condition -/
abbrev KBool := FuncId → List V → H → Option (Bool × V)
noncomputable def extU (kB : KBool) (g : FuncId → List V → H → Option (V × H)) (f : FuncId) (args : List V) (h : H) : Option (V × H) := match kB f args h with
  | some (b, v) => match b with
    | true => some (v, h)
    | false => none
  | none => g f args h
noncomputable def kxU (kB : KBool) : KX := fun f args h => match kB f args h with
  | some (b, v) => some (not b, (.nilf, h), (v, h))
  | none => none
theorem kxU_ok {P : Program} {eqs : List TypeId} {rows : List (FuncId × Row)} {kB : KBool} {g : FuncId → List V → H → Option (V × H)} : KxOK (mkG P eqs rows (extU kB g)) (kxU kB) := fun f args h b r1 r2 hk => by
  unfold kxU at hk
  split at hk
  · rename_i b0 v q
    simp only [Option.some.injEq, Prod.mk.injEq] at hk
    obtain ⟨e1, e2, e3⟩ := hk
    refine ⟨fun _ hb => absurd (show bog r1.1 = true by rw [← e2]; rfl) (by rw [hb]; exact Bool.false_ne_true), fun hb => ?_⟩
    rw [← e3]
    show extU kB g f args h = _
    unfold extU
    rw [q]
    cases b0 with
    | true => rfl
    | false => rw [hb] at e1; cases e1
  · cases hk
theorem extU_ok {P : Program} {eqs : List TypeId} {rows : List (FuncId × Row)} {kB : KBool} {g : FuncId → List V → H → Option (V × H)} (hB : ∀ f, KnownOk P (f, fun args h => match kB f args h with | some (true, v) => some v | _ => none)) (hg : ExtOK P (mkG P eqs rows g)) : ExtOK P (mkG P eqs rows (extU kB g)) := fun f args h v h' hr ρ cargs w ha hS n => by
  have hr : extU kB g f args h = some (v, h') := hr
  unfold extU at hr
  split at hr
  · rename_i b v0 q
    split at hr
    · cases hr
      refine extL_ok (G := mkG P eqs rows (extL [(f, fun args h => match kB f args h with | some (true, v) => some v | _ => none)])) (l := [(f, fun args h => match kB f args h with | some (true, v) => some v | _ => none)]) (fun x hx => by
        simp only [List.mem_cons, List.not_mem_nil, or_false] at hx
        subst hx
        exact hB f) rfl f args h v h ?_ ρ cargs w ha hS n
      show extL _ f args h = _
      have e : Nat.beq f f = true := (T.beq_true).2 rfl
      simp only [extL, e, q]
    · cases hr
  · exact hg f args h v h' hr ρ cargs w ha hS n
end Go.Ev

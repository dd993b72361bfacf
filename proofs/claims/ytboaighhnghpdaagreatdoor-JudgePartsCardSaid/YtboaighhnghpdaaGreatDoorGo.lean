/- No function of a program starts a goroutine: a cheap computation that says so. -/
import GoSem.ClaimGoes
namespace Go.Ev.Goes
def ops : List Oper → Bool
  | [] => true
  | o :: l => match o.op with
    | .go _ => false
    | _ => ops l
noncomputable def code : Code → Bool
  | .region _ os _ => ops os.toList
  | .seq a b => match code a with
    | true => code b
    | false => false
  | .cond _ a b => match code a with
    | true => code b
    | false => false
  | .block _ c => code c
  | .loop c => code c
  | .scope c => code c
  | .rangeFunc _ _ a c => match code a with
    | true => code c
    | false => false
  | _ => true
noncomputable def bodies : List Func → Bool
  | [] => true
  | fn :: l => match fn.body with
    | some c => match code c with
      | true => bodies l
      | false => false
    | none => bodies l
def named (s : String) : Bool := s == "iter.newcoro" || s == "runtime.SetFinalizer" || s == "runtime.AddCleanup"
def names : List Func → Bool
  | [] => true
  | fn :: l => match fn.body with
    | some _ => names l
    | none => match named fn.name with
      | true => false
      | false => match named fn.origin with
        | true => false
        | false => names l
theorem ops_eq : ∀ {l : List Oper}, ops l = true → l.any (·.op.goes) = false
  | [], _ => rfl
  | o :: l, h => by
    unfold ops at h
    rw [List.any_cons]
    split at h
    · cases h
    · rename_i hn
      rw [ops_eq h, Bool.or_false]
      unfold Op.goes
      split
      · rename_i q; exact absurd q (hn _)
      · rfl
theorem code_eq : ∀ {c : Code}, code c = true → c.goes = false := by
  intro c
  induction c with
  | region id os d =>
    intro h
    exact ops_eq h
  | seq a b iha ihb =>
    intro h
    simp only [code] at h
    split at h
    · rename_i q
      simp only [Code.goes, iha q, ihb h, Bool.or_self]
    · cases h
  | cond x a b iha ihb =>
    intro h
    simp only [code] at h
    split at h
    · rename_i q
      simp only [Code.goes, iha q, ihb h, Bool.or_self]
    · cases h
  | block id c ih => intro h; exact ih h
  | loop c ih => intro h; exact ih h
  | scope c ih => intro h; exact ih h
  | rangeFunc f ps a c iha ihc =>
    intro h
    simp only [code] at h
    split at h
    · rename_i q
      simp only [Code.goes, iha q, ihc h, Bool.or_self]
    · cases h
  | _ => intro _; rfl
theorem bodies_eq : ∀ {l : List Func}, bodies l = true → ∀ fn, fn ∈ l → ∀ c, fn.body = some c → c.goes = false
  | [], _, fn, hm, _, _ => by cases hm
  | f :: l, h, fn, hm, c, hc => by
    unfold bodies at h
    rcases List.mem_cons.1 hm with rfl | hm
    · rw [hc] at h
      simp only at h
      split at h
      · exact code_eq (by assumption)
      · cases h
    · split at h
      · split at h
        · exact bodies_eq h fn hm c hc
        · cases h
      · exact bodies_eq h fn hm c hc
theorem names_eq : ∀ {l : List Func}, names l = true → ∀ fn, fn ∈ l → fn.body = none → named fn.name = false ∧ named fn.origin = false
  | [], _, fn, hm, _ => by cases hm
  | f :: l, h, fn, hm, hc => by
    unfold names at h
    rcases List.mem_cons.1 hm with rfl | hm
    · rw [hc] at h
      simp only at h
      split at h
      · cases h
      · rename_i q1
        split at h
        · cases h
        · rename_i q2
          exact ⟨q1, q2⟩
    · split at h
      · exact names_eq h fn hm hc
      · split at h
        · cases h
        · split at h
          · cases h
          · exact names_eq h fn hm hc
theorem named_eq {s : String} (h : named s = false) : entryGoes.contains s = false := by
  simp only [named, Bool.or_eq_false_iff] at h
  obtain ⟨⟨h1, h2⟩, h3⟩ := h
  simp only [entryGoes, List.contains_cons, List.contains_nil, h1, h2, h3, Bool.or_self]
theorem func {P : Program} (h1 : bodies P.funcs.toList = true) (h2 : names P.funcs.toList = true) (fn : Func) (hm : fn ∈ P.funcs.toList) : fn.goes = false := by
  unfold Func.goes
  split
  · exact bodies_eq h1 fn hm _ (by assumption)
  · obtain ⟨a, b⟩ := names_eq h2 fn hm (by assumption)
    rw [named_eq a, named_eq b]; rfl
theorem none_goes {P : Program} (h1 : bodies P.funcs.toList = true) (h2 : names P.funcs.toList = true) (f : FuncId) : P.goes f = false := by
  have h := func h1 h2
  have hg : ∀ g : FuncId, (P.funcs[g]?).any Func.goes = false := fun g => by
    cases q : P.funcs[g]? with
    | none => rfl
    | some fn => exact h fn (by simpa using Array.mem_of_getElem? q)
  have ha : P.funcs.any Func.goes = false := by
    rw [Bool.eq_false_iff]
    intro q
    rw [← Array.any_toList, List.any_eq_true] at q
    obtain ⟨fn, q1, q2⟩ := q
    rw [h fn q1] at q2
    cases q2
  unfold Program.goes
  rw [ha, Bool.and_false, Bool.or_false, List.any_eq_false]
  intro g _
  rw [hg g]
  simp
/-- a row that begins at its function's call -/
theorem by_none {P : Program} (h1 : bodies P.funcs.toList = true) (h2 : names P.funcs.toList = true) {c : OpenClaim} (hs : c.start = .entering) : false = c.goesBy P := by
  unfold OpenClaim.goesBy Program.goesAt Program.goesFrom
  rw [hs]
  cases P.funcNamed c.func with
  | none => rfl
  | some f => simp only [Option.any_some, none_goes h1 h2, Bool.or_false]
end Go.Ev.Goes

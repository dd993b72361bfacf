/- The evaluator's operations on memory. -/
import Derived.Test.YtemanejjmkjfnaaGreatDoorEvB
import Derived.Lib.Builder
import Derived.Laws.BytesArg
import Derived.Lib.UnsafeStr
set_option maxHeartbeats 1000000
/- The evaluator's memory: rows of cells that are read and written. -/
namespace Go.Ev

theorem one_eq (v : Value) : one v = v.oneCell' := by cases v <;> rfl

/-- a world in which one block is another -/
structure WSet (w w' : World) (B : Nat) (c' : Obj) : Prop where
  here : w'.heap[B]? = some c'
  other : ∀ B', B' ≠ B → w'.heap[B']? = w.heap[B']?
  size : w'.heap.size = w.heap.size
  tape : w'.tape = w.tape
  os : w'.os = w.os
  output : w'.output = w.output
/-- a world with one block more -/
structure WAdd (w w' : World) (c : Obj) : Prop where
  heap : w'.heap = w.heap.push c
  tape : w'.tape = w.tape
  os : w'.os = w.os
  output : w'.output = w.output
theorem WSet.trans {w w' w'' : World} {B : Nat} {c c' : Obj} (a : WSet w w' B c) (b : WSet w' w'' B c') : WSet w w'' B c' where
  here := b.here
  other B' h := by rw [b.other B' h, a.other B' h]
  size := by rw [b.size, a.size]
  tape := by rw [b.tape, a.tape]
  os := by rw [b.os, a.os]
  output := by rw [b.output, a.output]

theorem Addr.add_off (B off i : Nat) : (⟨B, off, none⟩ : Addr).add i = ⟨B, off + i, none⟩ := by
  unfold Addr.add; split <;> simp_all

section
variable {P : Program}

theorem loadCells_run {w : World} {B off k : Nat} {cs : Array Value} {el : TypeId} {fr : Nat × Nat} (hg : w.heap[B]? = some (.cells cs el fr)) (h : off + k ≤ cs.size ∨ k = 0) :
    (loadCells ⟨B, off, none⟩ k).run P w = .ok (cs.extract off (off + k)) w := by
  have hl : (cs.extract off (off + k)).toList.length = k := by
    simp only [Array.length_toList, Array.size_extract]; omega
  have := run_loadCells_list (P := P) w ⟨B, off, none⟩ (cs.extract off (off + k)).toList (fun j v hv => by
    rw [Addr.add_off]
    simp only [World.cell?, hg, Option.isSome_none, Bool.false_eq_true, if_false]
    have hv : (cs.extract off (off + k))[j]? = some v := by rw [← Array.getElem?_toList]; exact hv
    exact extract_get _ _ _ _ _ hv)
  rw [hl, Array.toArray_toList] at this
  exact this

theorem storeCells_run {B off : Nat} {el : TypeId} {lo hi : Nat} : ∀ (vs : List Value) (i : Nat) (cs : Array Value) (w : World), w.heap[B]? = some (.cells cs el (lo, hi)) →
    (∀ k, k < cs.size → ¬ (lo ≤ k ∧ k < hi)) → off + i + vs.length ≤ cs.size → (∀ v ∈ vs, one v = true) →
    ∃ w' cs', (storeCells ⟨B, off, none⟩ vs i).run P w = .ok () w' ∧ WSet w w' B (.cells cs' el (lo, hi)) ∧ cs'.size = cs.size ∧
      ∀ k, cs'[k]? = if off + i ≤ k ∧ k < off + i + vs.length then vs[k - (off + i)]? else cs[k]?
  | [], i, cs, w, hg, _, _, _ => by
    refine ⟨w, cs, rfl, ⟨hg, fun _ _ => rfl, rfl, rfl, rfl, rfl⟩, rfl, fun k => ?_⟩
    rw [if_neg]
    simp only [List.length_nil]; omega
  | v :: rest, i, cs, w, hg, hfz, hl, h1 => by
    have hi' : off + i < cs.size := by simp at hl; omega
    have hst : (store ((⟨B, off, none⟩ : Addr).add i) v).run P w = .ok () (w.setCell ⟨B, off + i, none⟩ v) := by
      rw [Addr.add_off, run_store P w _ v _ (by rw [← one_eq]; exact h1 v (by simp))]
      simp only [World.cell?, World.frozen?, hg, Option.isSome_none, Bool.false_eq_true, if_false]
      rw [Array.getElem?_eq_getElem hi']
      simp only
      rw [if_neg]
      simp only [Bool.and_eq_true, decide_eq_true_eq]
      exact hfz _ hi'
    have hlt : B < w.heap.size := (Array.getElem?_eq_some_iff.1 hg).1
    have hset : WSet w (w.setCell ⟨B, off + i, none⟩ v) B (.cells (cs.setIfInBounds (off + i) v) el (lo, hi)) := by
      refine ⟨?_, fun B' hB' => ?_, ?_, rfl, rfl, rfl⟩
      · simp only [World.setCell, Array.getElem?_modify, if_true, hg, Option.map_some, Option.isSome_none, Bool.false_eq_true, if_false]
      · simp only [World.setCell, Array.getElem?_modify]
        rw [if_neg (fun e => hB' e.symm)]
      · simp only [World.setCell, Array.size_modify]
    obtain ⟨w', cs', e1, e2, e3, e4⟩ := storeCells_run (off := off) rest (i + 1) (cs.setIfInBounds (off + i) v) (w.setCell ⟨B, off + i, none⟩ v) hset.here (by simpa using hfz) (by simp at hl ⊢; omega) (fun x hx => h1 x (by simp [hx]))
    refine ⟨w', cs', ?_, hset.trans e2, by rw [e3]; simp, fun k => ?_⟩
    · simp only [storeCells, Sem.run_bind, hst, Result.andThen_ok, e1]
    · rw [e4 k]
      simp only [List.length_cons]
      by_cases hk : off + (i + 1) ≤ k ∧ k < off + (i + 1) + rest.length
      · rw [if_pos hk, if_pos (by omega), show k - (off + i) = (k - (off + (i + 1))) + 1 by omega, List.getElem?_cons_succ]
      · rw [if_neg hk]
        by_cases e : k = off + i
        · subst e
          rw [if_pos (by omega), show off + i - (off + i) = 0 by omega]
          simp [hi']
        · rw [if_neg (by omega), Array.getElem?_setIfInBounds_ne (by omega)]

theorem CRel.ar {ρ : Ren} {n d : Nat} {pat : List V} {tr : T V} {cs : Array Value} (h : CRel ρ n pat tr cs d) (hd : d + n ≤ cs.size) : AR ρ n pat tr (cs.extract d (d + n)) where
  size := by simp only [Array.size_extract]; omega
  one i x hx := by
    have hi : i < n := by
      have := (Array.getElem?_eq_some_iff.1 hx).1
      simp only [Array.size_extract] at this; omega
    exact h.1 i x hi (extract_get _ _ _ _ _ hx)
  rel i v x hv hx := h.2 i v x hv (extract_get _ _ _ _ _ hx)

theorem partAt_le {agg : Bool} {size n off : Nat} {pat : List V} {tr : T V} {v : V} (h : partAt agg size n pat tr off = some v) : (agg = true → off + size ≤ n ∨ size = 0) ∧ (agg = false → off < n) := by
  unfold partAt at h
  cases agg with
  | false => exact ⟨fun e => (by cases e), fun _ => cell_lt h⟩
  | true =>
    simp only at h
    refine ⟨fun _ => ?_, fun e => by cases e⟩
    split at h
    · rename_i hb
      simp only [Bool.and_eq_true, T.beq_true] at hb
      omega
    · split at h
      · rename_i l hl
        obtain ⟨h1, h2⟩ := gather_spec hl
        by_cases h0 : size = 0
        · exact .inr h0
        · have := h2 (size - 1) _ (List.getElem?_eq_getElem (by omega))
          have := cell_lt this
          exact .inl (by omega)
      · cases h

/-- the block of a number that the evaluator reads cells of -/
theorem cells_of {ρ : Ren} {h : H} {w : World} (hs : Sim ρ h w) {b : Nat} {B d z : Nat} (hb : ρ b = some (B, d, z)) {o : O} {n : Nat} {pat : List V} {tr : T V} {e : Option TypeId} (ho : h.tr.get b = some o) (hoc : o = .cells e n pat tr ∨ o = .ro e n pat tr) :
    ∃ cs el fr, w.heap[B]? = some (.cells cs el fr) ∧ cs.size = z ∧ d + n ≤ z ∧ CRel ρ n pat tr cs d := by
  obtain ⟨L, c, h1, h2, h3⟩ := hs.live b o ho
  rw [hb] at h1; cases h1
  rcases hoc with rfl | rfl
  · obtain ⟨cs, el, lo, hi, rfl, a, b, _, _, c⟩ := h3
    exact ⟨cs, el, _, h2, a, b, c⟩
  · obtain ⟨cs, el, fr, rfl, a, b, _, c⟩ := h3
    exact ⟨cs, el, _, h2, a, b, c⟩

theorem extract_nil (cs : Array Value) (a : Nat) : cs.extract a (a + 0) = #[] := by
  apply Array.eq_empty_of_size_eq_zero
  simp only [Array.size_extract]; omega
theorem extract_extract' (cs : Array Value) {d n o s : Nat} (h : o + s ≤ n) : (cs.extract d (d + n)).extract o (o + s) = cs.extract (d + o) (d + o + s) := by
  apply Array.ext_getElem?
  intro i
  simp only [Array.getElem?_extract, Array.size_extract]
  grind

section
variable {G : Γ} (hG : GOk P G) {ρ : Ren}
theorem rLoad_run (hG : GOk P G) {h : H} {w : World} (hs : Sim ρ h w) {t : TypeId} {a : Option V} {v : V} {ca : Value} (hl : rLoad (G.ty t) h a = some v) (ha : ∀ x, a = some x → Rel ρ x ca) :
    ∃ c, Rel ρ v c ∧ (Instr.loadAt t ca).run P w = .ok c w := by
  unfold rLoad at hl
  split at hl
  · rename_i ty b o hty
    have ht := hG.types _ _ hty
    have hr := ha _ rfl
    cases hr with
    | ptr hb =>
      rename_i B d z
      have main : ∀ {ob : O} {e : Option TypeId} {n : Nat} {pat : List V} {tr : T V}, h.tr.get b = some ob → (ob = .cells e n pat tr ∨ ob = .ro e n pat tr) → partAt ty.agg ty.size n pat tr o = some v →
          ∃ c, Rel ρ v c ∧ (Instr.loadAt t (.pointer (some ⟨B, d + o, none⟩))).run P w = .ok c w := by
        intro ob e n pat tr ho hoc hp
        obtain ⟨cs, el, fr, g1, g2, g3, g4⟩ := cells_of hs hb ho hoc
        have har := g4.ar (by omega)
        have hpc := har.piece hp
        obtain ⟨p1, p2⟩ := partAt_le hp
        simp only [Instr.loadAt, Instr.sureAddr, loadVar, Sem.run_bind, Sem.run_pure, Result.andThen_ok, ht.run_isAgg]
        cases hag : ty.agg with
        | true =>
          rw [hag] at hpc
          simp only [if_true] at hpc
          obtain ⟨ds, rfl, hr⟩ := hpc
          refine ⟨_, hr, ?_⟩
          simp only [if_true, Sem.run_bind, ht.run_sizeOf, Result.andThen_ok]
          rw [loadCells_run g1 (by have := p1 hag; omega)]
          simp only [Result.andThen_ok, Sem.run_pure]
          congr 2
          by_cases h0 : ty.size = 0
          · rw [h0, extract_nil, extract_nil]
          · rw [extract_extract']
            have := p1 hag
            omega
        | false =>
          rw [hag] at hpc
          simp only [Bool.false_eq_true, if_false] at hpc
          obtain ⟨x, hx, hr⟩ := hpc
          refine ⟨x, hr, ?_⟩
          have hc : w.cell? ⟨B, d + o, none⟩ = some x := by
            simp only [World.cell?, g1, Option.isSome_none, Bool.false_eq_true, if_false]
            exact extract_get _ _ _ _ _ hx
          simp only [Bool.false_eq_true, if_false, run_load, hc]
      split at hl
      · rename_i hg; exact main hg (.inl rfl) hl
      · rename_i hg; exact main hg (.inr rfl) hl
      · cases hl
  · cases hl
theorem rGather_run {h : H} {w : World} (hs : Sim ρ h w) {b o k : Nat} {l : List V} (hl : rGather h b o k = some l) {B d z : Nat} (hb : ρ b = some (B, d, z)) :
    ∃ cs, (∀ w', w'.heap = w.heap → (loadCells ⟨B, d + o, none⟩ k).run P w' = .ok cs w') ∧ Rels ρ l cs.toList ∧ cs.size = k ∧ ∀ x ∈ cs.toList, one x = true := by
  unfold rGather at hl
  have main : ∀ {ob : O} {e : Option TypeId} {n : Nat} {pat : List V} {tr : T V}, h.tr.get b = some ob → (ob = .cells e n pat tr ∨ ob = .ro e n pat tr) → gather n pat tr o k = some l →
      ∃ cs, (∀ w', w'.heap = w.heap → (loadCells ⟨B, d + o, none⟩ k).run P w' = .ok cs w') ∧ Rels ρ l cs.toList ∧ cs.size = k ∧ ∀ x ∈ cs.toList, one x = true := by
    intro ob e n pat tr ho hoc hp
    obtain ⟨cs, el, fr, g1, g2, g3, g4⟩ := cells_of hs hb ho hoc
    obtain ⟨h1, h2⟩ := gather_spec hp
    have hle : o + k ≤ n ∨ k = 0 := by
      by_cases h0 : k = 0
      · exact .inr h0
      · have := h2 (k - 1) _ (List.getElem?_eq_getElem (by omega))
        have := cell_lt this
        exact .inl (by omega)
    have hsz : (cs.extract (d + o) (d + o + k)).size = k := by simp only [Array.size_extract]; omega
    refine ⟨_, fun w' hw' => loadCells_run (by rw [hw']; exact g1) (by omega), ⟨by rw [Array.length_toList, hsz, h1], fun i v x hv hx => ?_⟩, hsz, fun x hx => ?_⟩
    · have hx := extract_get _ _ _ _ _ (by rw [Array.getElem?_toList] at hx; exact hx)
      exact g4.2 (o + i) v x (h2 i v hv) (by rw [← Nat.add_assoc]; exact hx)
    · obtain ⟨i, hi⟩ := List.getElem?_of_mem hx
      have hi' := (List.getElem?_eq_some_iff.1 hi).1
      have hx := extract_get _ _ _ _ _ (by rw [Array.getElem?_toList] at hi; exact hi)
      exact g4.1 (o + i) x (by rw [Array.length_toList, hsz] at hi'; omega) (by rw [← Nat.add_assoc]; exact hx)
  split at hl
  · rename_i hg; exact main hg (.inl rfl) hl
  · rename_i hg; exact main hg (.inr rfl) hl
  · cases hl
end
end
end Go.Ev
/- The evaluator's maps: keys that are checked, found and compared. -/
namespace Go.Ev
section
variable {P : Program} {G : Γ} (hG : GOk P G) {ρ : Ren}

theorem eqS_eq {x y : V} {c c' : Value} (h : eqS x y = true) (hx : Rel ρ x c) (hy : Rel ρ y c') : c = c' := by
  unfold eqS at h
  split at h
  · cases hx; cases hy; simp at h; rw [h]
  · cases hx; cases hy
    simp only [Bool.and_eq_true, decide_eq_true_eq] at h
    obtain ⟨rfl, h⟩ := h
    rw [ieq_eq] at h; simp at h; rw [h]
  · cases hx; cases hy; simp at h; rw [h]
  · cases h
theorem eqSs_eq : ∀ {l l' : List V} {cs cs' : List Value}, eqSs l l' = true → Rels ρ l cs → Rels ρ l' cs' → cs = cs'
  | [], [], cs, cs', _, h, k => by rw [h.of_nil, k.of_nil]
  | a :: l, b :: l', cs, cs', e, h, k => by
    obtain ⟨c, ds, rfl, h1, h2⟩ := h.uncons
    obtain ⟨c', ds', rfl, k1, k2⟩ := k.uncons
    simp only [eqSs, Bool.and_eq_true] at e
    rw [eqS_eq e.1 h1 k1, eqSs_eq e.2 h2 k2]
  | [], _ :: _, _, _, e, _, _ => by simp [eqSs] at e
  | _ :: _, [], _, _, e, _, _ => by simp [eqSs] at e
theorem gather_rels {n : Nat} {pat : List V} {tr : T V} {cs : Array Value} (h : AR ρ n pat tr cs) {l : List V} (hg : gather n pat tr 0 n = some l) : Rels ρ l cs.toList := by
  obtain ⟨h1, h2⟩ := gather_spec hg
  refine ⟨by rw [Array.length_toList, h.size, h1], fun i v x hv hx => ?_⟩
  have := h2 i v hv
  rw [Nat.zero_add] at this
  exact h.rel i v x this (by simpa using hx)
theorem eqPlain_eq {x y : V} {c c' : Value} (h : eqPlain x y = true) (hx : Rel ρ x c) (hy : Rel ρ y c') : c = c' := by
  unfold eqPlain at h
  split at h
  · split at h
    · rename_i hn hl hl'
      obtain ⟨cs, rfl, a⟩ := hx.ar
      obtain ⟨cs', rfl, b⟩ := hy.ar
      have := eqSs_eq h (gather_rels a hl) (gather_rels b hl')
      rw [Array.toList_inj] at this
      rw [this]
    · cases h
  · exact eqS_eq h hx hy

theorem checkKey_run (hG : GOk P G) (em : Bool) : ∀ (d n : Nat), d ≤ n → ∀ (t : TypeId) (ty : TY) (c : Value), plainTy G d t = true → G.ty t = some ty → (∀ fs, ty.desc = .struct fs → ∃ cs, c = .agg cs ∧ cs.size = ty.size) →
    ∀ w, (Instr.checkKey em n t c).run P w = .ok () w := by
  intro d
  induction d with
  | zero => intro n _ t ty c h; simp [plainTy] at h
  | succ d ih =>
    intro n hn t ty c h hty hc w
    obtain ⟨n, rfl⟩ : ∃ m, n = m + 1 := ⟨n - 1, by omega⟩
    have ht := hG.types _ _ hty
    simp only [plainTy, hty] at h
    split at h
    · rename_i e
      cases c <;> simp [Instr.checkKey, ht.run_underlying, e]
    · rename_i e
      cases c <;> simp [Instr.checkKey, ht.run_underlying, e]
    · rename_i e
      cases c <;> simp [Instr.checkKey, ht.run_underlying, e]
    · rename_i fs e
      obtain ⟨cs, rfl, hsz⟩ := hc fs e
      simp only [Instr.checkKey, Sem.run_bind, ht.run_underlying, e, Result.andThen_ok]
      rw [← Array.forIn_toList]
      have fields := hG.fields t ty fs hty e
      have plain : ∀ f ∈ fs.toList, plainTy G d f.type = true := fun f hf => (List.all_eq_true.1 h) f hf
      generalize fs.toList = L at fields plain
      induction L with
      | nil => simp
      | cons f L ihL =>
        have rest := ihL (fun f hf => fields f (by simp [hf])) (fun f hf => plain f (by simp [hf]))
        rw [List.forIn_cons]
        by_cases hn : f.name = "_"
        · rw [if_neg (by simpa using hn)]
          simp only [Sem.run_bind, Sem.run_pure, Result.andThen_ok]
          simpa only [Sem.run_pure] using rest
        · rw [if_pos hn]
          obtain ⟨ft, hft, hoff, hsc⟩ := fields f (by simp)
          have hpf := plain f (by simp)
          have htf := hG.types _ _ hft
          have hpart : ∃ c, (part f.type cs f.offset).run P w = .ok c w ∧ (∀ gs, ft.desc = .struct gs → ∃ ds, c = .agg ds ∧ ds.size = ft.size) := by
            cases hag : ft.agg with
            | true =>
              refine ⟨_, by simp only [part, Sem.run_bind, htf.run_isAgg, hag, Result.andThen_ok, if_true, htf.run_sizeOf, Sem.run_pure]; rfl, fun gs _ => ⟨_, rfl, ?_⟩⟩
              simp only [Array.size_extract]; omega
            | false =>
              have := hsc hag
              have hlt : f.offset < cs.size := by omega
              refine ⟨cs[f.offset], by simp [part, htf.run_isAgg, hag, hlt], fun gs hgs => ?_⟩
              have := htf.agg
              rw [hgs, hag] at this
              cases this
          obtain ⟨c, hc1, hc2⟩ := hpart
          have hck := ih n (by omega) f.type ft c hpf hft hc2 w
          simp only [Sem.run_bind, hc1, Result.andThen_ok, hck, Sem.run_pure]
          simpa only [Sem.run_pure] using rest
    · cases h

/-- what was found -/
inductive Out (es : List (V × V × Nat)) (es' : List MapEntry) (i0 : Nat) : Option (Nat × V × V × Nat) → Option (Nat × Value) → Prop
  | none : Out es es' i0 none none
  | some {j : Nat} {e : V × V × Nat} {e' : MapEntry} (h1 : es[j]? = some e) (h2 : es'[j]? = some e') : Out es es' i0 (some (i0 + j, e)) (some (i0 + j, e'.val))
theorem Out.shift {e : V × V × Nat} {e' : MapEntry} {es : List (V × V × Nat)} {es' : List MapEntry} {i0 : Nat} {r : Option (Nat × V × V × Nat)} {r' : Option (Nat × Value)} (h : Out es es' (i0 + 1) r r') : Out (e :: es) (e' :: es') i0 r r' := by
  cases h with
  | none => exact .none
  | some h1 h2 =>
    rename_i j e e'
    have := Out.some (es := e :: es) (es' := e' :: es') (i0 := i0) (j := j + 1) (e := e) (e' := e') h1 h2
    rw [show i0 + 1 + j = i0 + (j + 1) by omega]
    exact .some (by simpa using h1) (by simpa using h2)
def EntR (ρ : Ren) (es : List (V × V × Nat)) (es' : List MapEntry) : Prop :=
  es'.length = es.length ∧ ∀ (i : Nat) (e : V × V × Nat) (e' : MapEntry), es[i]? = some e → es'[i]? = some e' → Rel ρ e.1 e'.key ∧ Rel ρ e.2.1 e'.val ∧ e'.born = e.2.2
theorem EntR.uncons {e : V × V × Nat} {es : List (V × V × Nat)} {es' : List MapEntry} (h : EntR ρ (e :: es) es') : ∃ e' rest, es' = e' :: rest ∧ (Rel ρ e.1 e'.key ∧ Rel ρ e.2.1 e'.val ∧ e'.born = e.2.2) ∧ EntR ρ es rest := by
  cases es' with
  | nil => have := h.1; simp at this
  | cons e' rest => exact ⟨e', rest, rfl, h.2 0 _ _ rfl rfl, by simpa using h.1, fun i a b ha hb => h.2 (i + 1) a b (by simpa using ha) (by simpa using hb)⟩

theorem findNow_run {kt : TypeId} {k : V} {ck : Value} {d : TypeDesc} (hs : ∀ y b cy, eqO G 8 kt k y = some b → Rel ρ y cy → Instr.sameNow d ck cy = some b) :
    ∀ {es : List (V × V × Nat)} {es' : List MapEntry} {i0 : Nat} {r : Option (Nat × V × V × Nat)}, findK G kt k es i0 = some r → EntR ρ es es' → ∃ r', Instr.findNow d ck es' i0 = some r' ∧ Out es es' i0 r r'
  | [], es', i0, r, h, he => by
    simp [findK] at h; subst h
    rw [List.length_eq_zero_iff.1 he.1]
    exact ⟨none, rfl, .none⟩
  | e :: es, es', i0, r, h, he => by
    obtain ⟨e', rest, rfl, ⟨h1, h2, h3⟩, hr⟩ := he.uncons
    simp only [findK] at h
    split at h
    · rename_i hb
      cases h
      refine ⟨some (i0, e'.val), by simp [Instr.findNow, hs _ _ _ hb h1], ?_⟩
      exact Out.some (j := 0) (es := e :: es) (es' := e' :: rest) rfl rfl
    · rename_i hb
      obtain ⟨r', r1, r2⟩ := findNow_run hs h hr
      exact ⟨r', by simp [Instr.findNow, hs _ _ _ hb h1]; exact r1, r2.shift⟩
    · cases h
theorem findAsking_run {kt : TypeId} {k : V} {ck : Value} {w : World} (hs : ∀ y b cy, eqO G 8 kt k y = some b → Rel ρ y cy → (Op.equal kt ck cy).run P w = .ok b w) :
    ∀ {es : List (V × V × Nat)} {es' : List MapEntry} {i0 : Nat} {r : Option (Nat × V × V × Nat)}, findK G kt k es i0 = some r → EntR ρ es es' → ∃ r', (Instr.findAsking kt ck es' i0).run P w = .ok r' w ∧ Out es es' i0 r r'
  | [], es', i0, r, h, he => by
    simp [findK] at h; subst h
    rw [List.length_eq_zero_iff.1 he.1]
    exact ⟨none, rfl, .none⟩
  | e :: es, es', i0, r, h, he => by
    obtain ⟨e', rest, rfl, ⟨h1, h2, h3⟩, hr⟩ := he.uncons
    simp only [findK] at h
    split at h
    · rename_i hb
      cases h
      refine ⟨some (i0, e'.val), by simp [Instr.findAsking, hs _ _ _ hb h1], ?_⟩
      exact Out.some (j := 0) (es := e :: es) (es' := e' :: rest) rfl rfl
    · rename_i hb
      obtain ⟨r', r1, r2⟩ := findAsking_run hs h hr
      exact ⟨r', by simp [Instr.findAsking, hs _ _ _ hb h1]; exact r1, r2.shift⟩
    · cases h
theorem findKey_run (hG : GOk P G) {kt : TypeId} {k : V} {ck : Value} (hk : Rel ρ k ck) (hok : keyOk G kt k = true) {es : List (V × V × Nat)} {es' : List MapEntry} (he : EntR ρ es es') {r : Option (Nat × V × V × Nat)} (h : findK G kt k es 0 = some r) (w : World) :
    ∃ r', (Instr.findKey kt ck es').run P w = .ok r' w ∧ Out es es' 0 r r' := by
  unfold keyOk at hok
  split at hok
  · rename_i ty hp hty
    have ht := hG.types _ _ hty
    have heq : ∀ y b cy, eqO G 8 kt k y = some b → Rel ρ y cy → ∀ w, (Op.equal kt ck cy).run P w = .ok b w := fun y b cy h1 h2 w => eqO_run hG 8 _ (by decide) kt k y b ck cy h1 hk h2 w
    have now : (∀ y b cy, eqO G 8 kt k y = some b → Rel ρ y cy → Instr.sameNow ty.desc ck cy = some b) → ∃ r', (Instr.findKey kt ck es').run P w = .ok r' w ∧ Out es es' 0 r r' := fun hs => by
      obtain ⟨r', r1, r2⟩ := findNow_run hs h he
      exact ⟨r', by simp [Instr.findKey, ht.run_underlying, r1], r2⟩
    simp only [plainTy, hty] at hp
    split at hp
    · rename_i e
      refine now fun y b cy h1 h2 => ?_
      simp only [eqO, hty, e] at h1
      split at h1 <;> simp_all
      cases hk; cases h2; simp only [Instr.sameNow]; rw [h1]
    · rename_i e
      refine now fun y b cy h1 h2 => ?_
      simp only [eqO, hty, e] at h1
      split at h1 <;> simp_all
      cases hk; cases h2
      split at h1
      · rename_i hkk
        have hkk := of_decide_eq_true hkk
        subst hkk
        cases h1
        simp only [Instr.sameNow, if_true, ieq_eq, Option.some.injEq]
        rw [Bool.eq_iff_iff]
        simp
      · cases h1
    · rename_i e
      refine now fun y b cy h1 h2 => ?_
      simp only [eqO, hty, e] at h1
      split at h1 <;> simp_all
      cases hk; cases h2; simp only [Instr.sameNow]; rw [← h1]
      rw [beq_toListBytes, tl, tl]
    · rename_i fs e
      cases hes : es' with
      | nil =>
        subst hes
        have : es = [] := List.length_eq_zero_iff.1 he.1.symm
        subst this
        simp [findK] at h; subst h
        exact ⟨none, by simp [Instr.findKey, ht.run_underlying, Instr.findNow], .none⟩
      | cons e' rest =>
        obtain ⟨r', r1, r2⟩ := findAsking_run (fun y b cy h1 h2 => heq y b cy h1 h2 w) h he
        rw [hes] at r1 r2
        refine ⟨r', ?_, r2⟩
        have : Instr.findNow ty.desc ck (e' :: rest) 0 = none := by
          simp [Instr.findNow, Instr.sameNow, e]
        simp [Instr.findKey, ht.run_underlying, this, r1]
    · cases hp
  · cases hok
end
end Go.Ev
/- The operations that only read memory. -/
namespace Go.Ev
section
variable {P : Program} {G : Γ} (hG : GOk P G) {ρ : Ren}

theorem getObj_map {w : World} {r : Nat} {es : Array MapEntry} {clock : Nat} (h : w.heap[r]? = some (.map es clock)) : (getObj r).run P w = .ok (.map es clock) w := by
  simp [getObj, Sem.run, h]
theorem map_of {h : H} {w : World} (hs : Sim ρ h w) {r B d z : Nat} (hb : ρ r = some (B, d, z)) {es : List (V × V × Nat)} {clock : Nat} (ho : h.tr.get r = some (.map es clock)) :
    ∃ es' : Array MapEntry, w.heap[B]? = some (.map es' clock) ∧ EntR ρ es es'.toList := by
  obtain ⟨L, c, h1, h2, h3⟩ := hs.live r _ ho
  rw [hb] at h1; cases h1
  obtain ⟨es', rfl, a, b⟩ := h3
  exact ⟨es', h2, by simpa using a, fun i e e' he he' => b i e e' he (by simpa using he')⟩

theorem rLen_run (hG : GOk P G) {h : H} {w : World} (hs : Sim ρ h w) {t ty' : TypeId} {x : Option V} {v : V} {cx : Value} (hl : rLen G (G.ty t) h x = some v) (hx : ∀ a, x = some a → Rel ρ a cx) :
    ∃ c, Rel ρ v c ∧ (Builtin.len_ #[t] ty' #[cx]).run P w = .ok c w := by
  unfold rLen at hl
  split at hl
  · rename_i ty u hty
    have ht := hG.types _ _ hty
    have hr := hx _ rfl
    split at hl
    · rename_i e; cases hl; cases hr; exact ⟨_, .int _ _, by simp only [Builtin.len_, List.getElem?_toArray, List.getElem?_cons_zero, Sem.run_bind, ht.run_underlying, e, goInt, Result.andThen_ok, Sem.run_pure]; rfl⟩
    · rename_i e; cases hl; exact ⟨_, .int _ _, by simp [Builtin.len_, ht.run_underlying, e, goInt]⟩
    · rename_i arr e
      split at hl
      · rename_i ta hta
        split at hl
        · rename_i e2
          cases hl
          exact ⟨_, .int _ _, by simp [Builtin.len_, ht.run_underlying, e, (hG.types _ _ hta).run_underlying, e2, goInt]⟩
        · cases hl
      · cases hl
    · rename_i e; cases hl; cases hr; exact ⟨_, .int _ _, by simp [Builtin.len_, ht.run_underlying, e, goInt]⟩
    · rename_i e; cases hl; cases hr <;> exact ⟨_, .int _ _, by simp [Builtin.len_, ht.run_underlying, e, goInt]⟩
    · rename_i e; cases hl; cases hr; exact ⟨_, .int _ _, by simp [Builtin.len_, ht.run_underlying, e, goInt]⟩
    · rename_i r e
      split at hl
      · rename_i es clock ho
        cases hl
        cases hr with
        | map hb =>
          obtain ⟨es', m1, m2⟩ := map_of hs hb ho
          refine ⟨_, .int _ _, ?_⟩
          have : es'.size = es.length := by simpa using m2.1
          simp [Builtin.len_, ht.run_underlying, e, getObj_map m1, goInt, this]
      · cases hl
    · cases hl
  · cases hl

theorem keyOk_check (hG : GOk P G) {kt : TypeId} {k : V} {ck : Value} (hok : keyOk G kt k = true) (hk : Rel ρ k ck) (em : Bool) (w : World) : (Instr.checkKey em 10000 kt ck).run P w = .ok () w := by
  unfold keyOk at hok
  split at hok
  · rename_i ty hp hty
    refine checkKey_run hG em 4 10000 (by decide) kt ty ck hp hty (fun fs hfs => ?_) w
    rw [hfs] at hok
    split at hok
    · rw [T.beq_true] at hok
      obtain ⟨cs, rfl, a⟩ := hk.ar
      exact ⟨cs, rfl, by rw [a.size, hok]⟩
    · cases hok
    · rename_i h1 h2
      exact absurd rfl (h1 fs)
  · cases hok

theorem lookup_eq {w : World} {t kt et : TypeId} {es' : Array MapEntry} {cm ck : Value} {ok : Bool} (hcm : (cm = .map none ∧ es' = #[]) ∨ ∃ B clock, cm = .map (some B) ∧ w.heap[B]? = some (.map es' clock))
    (hu : P.underlying t = some (.map kt et)) (hck : (Instr.checkKey es'.isEmpty 10000 kt ck).run P w = .ok () w) :
    (∀ j v, (Instr.findKey kt ck es'.toList).run P w = .ok (some (j, v)) w → (Instr.lookup t cm ck ok).run P w = .ok (if ok then .tuple #[v, .bool true] else v) w) ∧
    (∀ z, (Instr.findKey kt ck es'.toList).run P w = .ok none w → (zeroValue et).run P w = .ok z w → (Instr.lookup t cm ck ok).run P w = .ok (if ok then .tuple #[z, .bool false] else z) w) := by
  have hu' : (underlying t).run P w = .ok (.map kt et) w := Go.run_underlying hu w
  rcases hcm with ⟨rfl, rfl⟩ | ⟨B, clock, rfl, hb⟩
  · refine ⟨fun j v hf => ?_, fun z hf hz => ?_⟩
    · simp only [Instr.lookup, Sem.run_bind, hu', Result.andThen_ok, Sem.run_pure, hck, hf]
    · simp only [Instr.lookup, Sem.run_bind, hu', Result.andThen_ok, Sem.run_pure, hck, hf, hz]
  · refine ⟨fun j v hf => ?_, fun z hf hz => ?_⟩
    · simp only [Instr.lookup, Sem.run_bind, hu', Result.andThen_ok, Sem.run_pure, getObj_map hb, hck, hf]
    · simp only [Instr.lookup, Sem.run_bind, hu', Result.andThen_ok, Sem.run_pure, getObj_map hb, hck, hf, hz]
theorem rLookup_run (hG : GOk P G) {h : H} {w : World} (hs : Sim ρ h w) {t : TypeId} {m k : Option V} {ok : Bool} {v : V} {cm ck : Value} (hl : rLookup G (G.ty t) h m k ok = some v)
    (hm : ∀ a, m = some a → Rel ρ a cm) (hk : ∀ a, k = some a → Rel ρ a ck) : ∃ c, Rel ρ v c ∧ (Instr.lookup t cm ck ok).run P w = .ok c w := by
  unfold rLookup at hl
  split at hl
  · rename_i ty m k hty
    have ht := hG.types _ _ hty
    have hm := hm _ rfl
    have hk := hk _ rfl
    split at hl
    · rename_i kt et e
      split at hl
      · rename_i es hok hes
        have hent : ∃ es' : Array MapEntry, EntR ρ es es'.toList ∧ ((cm = .map none ∧ es' = #[]) ∨ ∃ B clock, cm = .map (some B) ∧ w.heap[B]? = some (.map es' clock)) := by
          split at hes
          · cases hes; cases hm
            exact ⟨#[], ⟨rfl, fun i a b h => by simp at h⟩, .inl ⟨rfl, rfl⟩⟩
          · rename_i r
            split at hes
            · rename_i ho
              cases hes
              cases hm with
              | map hb =>
                obtain ⟨es', m1, m2⟩ := map_of hs hb ho
                exact ⟨es', m2, .inr ⟨_, _, rfl, m1⟩⟩
            · cases hes
          · cases hes
        obtain ⟨es', he, hcm⟩ := hent
        obtain ⟨L1, L2⟩ := lookup_eq (P := P) (ok := ok) hcm (by rw [ht.under, e]) (keyOk_check hG hok hk es'.isEmpty w)
        split at hl
        · rename_i hf hte
          cases hl
          obtain ⟨r', r1, r2⟩ := findKey_run hG hk hok he hf w
          cases r2 with
          | some h1 h2 =>
            obtain ⟨_, e2, _⟩ := he.2 _ _ _ h1 h2
            refine ⟨_, ?_, L1 _ _ r1⟩
            cases ok with
            | true => exact Rels.tup2 e2 (.bool true)
            | false => exact e2
        · rename_i te hf hte
          split at hl
          · rename_i z hz
            cases hl
            obtain ⟨c, c1, c2⟩ := (hG.types _ _ hte).run_zero hz
            obtain ⟨r', r1, r2⟩ := findKey_run hG hk hok he hf w
            cases r2
            refine ⟨_, ?_, L2 _ r1 (c1 w)⟩
            cases ok with
            | true => exact Rels.tup2 (c2 ρ) (.bool false)
            | false => exact c2 ρ
          · cases hl
        · cases hl
      · cases hl
    · cases hl
  · cases hl
theorem findBorn_run {st : Nat} : ∀ {es : List (V × V × Nat)} {es' : List MapEntry} {x : V × V}, findBorn es st = some x → EntR ρ es es' → ∃ e', es'.find? (·.born == st) = some e' ∧ Rel ρ x.1 e'.key ∧ Rel ρ x.2 e'.val
  | [], _, _, h, _ => by simp [findBorn] at h
  | e :: es, es', x, h, he => by
    obtain ⟨e', rest, rfl, ⟨h1, h2, h3⟩, hr⟩ := he.uncons
    simp only [findBorn] at h
    split at h
    · rename_i hb
      rw [T.beq_true] at hb
      cases h
      exact ⟨e', by simp [h3, hb], h1, h2⟩
    · rename_i hb
      have hb : e.2.2 ≠ st := fun q => by rw [q] at hb; simp at hb
      obtain ⟨a, a1, a2⟩ := findBorn_run h hr
      refine ⟨a, ?_, a2⟩
      have : (e'.born == st) = false := by rw [h3]; simpa using hb
      rw [List.find?_cons, this, a1]
theorem rEntry_run {h : H} {w : World} (hs : Sim ρ h w) {it : Option V} {v : V} {ci : Value} (hl : rEntry h it = some v) (hi : ∀ a, it = some a → Rel ρ a ci) : ∃ c, Rel ρ v c ∧ (Instr.entry ci).run P w = .ok c w := by
  unfold rEntry at hl
  split at hl
  · rename_i r
    have hr := hi _ rfl
    cases hr with
    | ptr hb =>
      rename_i B d z
      split at hl
      · rename_i m since st seen stepped ho
        obtain ⟨L, c, h1, h2, h3⟩ := hs.live r _ ho
        rw [hb] at h1; cases h1
        obtain ⟨hd, m', rfl, hm⟩ := h3
        simp only at hd h2
        subst hd
        split at hl
        · rename_i es clock hm2
          split at hl
          · rename_i hcl
            rw [T.beq_true] at hcl
            split at hl
            · rename_i x hx
              cases hl
              rcases hm with ⟨a, _⟩ | ⟨r', B', d', z', q1, q2, q3⟩
              · cases a
              · cases q1
                obtain ⟨es', m1, m2⟩ := map_of hs q2 hm2
                obtain ⟨e', f1, f2, f3⟩ := findBorn_run hx m2
                have f1 : es'.find? (·.born == st) = some e' := by rw [← f1, Array.find?_toList]
                refine ⟨_, Rels.tup2 f2 f3, ?_⟩
                have hg : (getObj B).run P w = .ok (.mapIter m' since (st :: seen).reverse.toArray stepped) w := by simp [getObj, Sem.run, h2]
                simp only [Instr.entry, Nat.add_zero, Sem.run_bind, hg, Result.andThen_ok, q3]
                simp [getObj_map m1, hcl, f1]
            · cases hl
          · cases hl
        · cases hl
      · cases hl
  · cases hl

/-- so many variables of the row's own type lie side by side in a row -/
theorem liesAt_row {e s i count n : Nat} (hc : P.cellsOf e = s) (hs : 0 < s) (hn : i + n ≤ count) : liesAt P P.depth e count (i * s) e n = true := by
  have hd : P.depth = (2 * (P.types.size + Made.depth) + 1) + 1 := rfl
  rw [hd]
  simp only [liesAt, Bool.or_eq_true]
  left
  rw [hd]
  have h1 : i * s / s = i := Nat.mul_div_cancel i hs
  have h2 : i * s % s = 0 := Nat.mul_mod_left i s
  have h3 : s ≠ 0 := by omega
  simp [rowAt, hc, h1, h2, h3, hn, sameLayout]
theorem TYOk.cellsOf {t : TypeId} {ty : TY} (h : TYOk P t ty) : P.cellsOf t = ty.size := by
  obtain ⟨i, i1, i2, _⟩ := h.info
  simp [Program.cellsOf, i1, i2]
theorem toBytes_spec : ∀ {l : List V} {s : List UInt8}, toBytes l = some s → s.length = l.length ∧ ∀ (j : Nat) (x : UInt8), s[j]? = some x → l[j]? = some (.int .u8 x.toNat)
  | [], s, h => by cases h; exact ⟨rfl, fun j x q => by simp at q⟩
  | .int .u8 (.ofNat n) :: l, s, h => by
    simp only [toBytes] at h
    split at h
    · rename_i r hn hr
      cases h
      have hn := blt_true hn
      obtain ⟨a, b⟩ := toBytes_spec hr
      refine ⟨by simp [a], fun j x q => ?_⟩
      cases j with
      | zero =>
        simp at q; subst q
        have : n.toUInt8.toNat = n := by simp [Nat.mod_eq_of_lt hn]
        simp [this]
      | succ j => simpa using b j x (by simpa using q)
    · cases h
theorem rConv_run (hG : GOk P G) {h : H} {w : World} (hs : Sim ρ h w) {s d : TypeId} {x : Option V} {v : V} {cx : Value} (hv : rConv G (G.ty s) (G.ty d) h x = some v) (hx : ∀ a, x = some a → Rel ρ a cx) :
    ∃ c, Rel ρ v c ∧ (convert s d cx).run P w = .ok c w := by
  unfold rConv at hv
  split at hv
  · rename_i ts td b o hts htd
    have h1 := hx _ rfl
    have hs' := hG.types _ _ hts
    have hd' := hG.types _ _ htd
    cases h1 with
    | ptr hb =>
      rename_i B d' z
      split at hv
      · rename_i e n pat tr t hbo es ed
        obtain ⟨L, c, l1, l2, l3⟩ := hs.live b _ hbo
        rw [hb] at l1; cases l1
        obtain ⟨cs, el, lo, hi, rfl, q1, q2, _⟩ := l3
        simp only at q1 q2 l2
        split at hv
        · rename_i tt htt
          split at hv
          · rename_i hc
            cases hv
            simp only [Bool.and_eq_true] at hc
            have c1 := blt_true hc.1
            have c2 := blt_true hc.2
            obtain ⟨j, j1, j2, _⟩ := (hG.types _ _ htt).info
            refine ⟨_, .ptr hb, Lib.run_to_unsafe w ⟨B, d' + o, none⟩ (e := el) (cells := cs.size) (by rw [hs'.under, es]) (by rw [hd'.under, ed]) j1 (by omega) (by simp [World.shape?, l2]) (by show d' + o < cs.size; omega)⟩
          · cases hv
        · cases hv
      · rename_i e n pat tr u hbo es ed
        obtain ⟨L, c, l1, l2, l3⟩ := hs.live b _ hbo
        rw [hb] at l1; cases l1
        obtain ⟨cs, el, lo, hi, rfl, q1, q2, _, q4, _⟩ := l3
        simp only at q1 q2 q4 l2
        obtain ⟨rfl, rfl⟩ := q4 _ rfl
        split at hv
        · rename_i tu hc htu
          split at hv
          · rename_i hsz
            cases hv
            simp only [Bool.and_eq_true, T.beq_true] at hc hsz
            obtain ⟨rfl, rfl⟩ := hc
            have c1 := blt_true hsz.1
            have c2 := Nat.le_of_ble_eq_true hsz.2
            have hu := hG.types _ _ htu
            obtain ⟨j, j1, j2, _⟩ := hu.info
            have hone : 1 ≤ cs.size / tu.size := (Nat.one_le_div_iff c1).2 (by omega)
            have hl := liesAt_row (P := P) (i := 0) (n := 1) (count := cs.size / tu.size) hu.cellsOf c1 (by omega)
            rw [Nat.zero_mul] at hl
            exact ⟨_, .ptr hb, Lib.run_from_unsafe w ⟨B, 0 + 0, none⟩ (e := el) (cells := cs.size) (by rw [hs'.under, es]) (by rw [hd'.under, ed]) j1 (by simp [World.shape?, l2]) (by rw [hu.cellsOf]; exact hl)⟩
          · cases hv
        · cases hv
      · cases hv
  · rename_i ts td b o m cp hts htd
    have h1 := hx _ rfl
    have hs' := hG.types _ _ hts
    have hd' := hG.types _ _ htd
    split at hv
    · rename_i e l es ed hl
      split at hv
      · rename_i te r hte hr
        split at hv
        · rename_i hk
          cases hv
          have he' := hG.types _ _ hte
          obtain ⟨t1, t2⟩ := toBytes_spec hr
          have main : ∀ (B d' z k : Nat), ρ b = some (B, d', z) → ∃ c, Rel ρ (.str r) c ∧ (convert s d (.slice (some ⟨B, d' + o, none⟩) (m + 1) k)).run P w = .ok c w := by
            intro B d' z k hb
            obtain ⟨cs, g1, g2, g3, _⟩ := rGather_run (P := P) hs hl hb
            have hc : cs = ((r.map fun x => (x.toNat : Int)).map (Value.int .u8)).toArray := by
              refine Array.ext' (List.ext_getElem? fun j => ?_)
              have hlen : cs.toList.length = l.length := g2.1
              cases hj : r[j]? with
              | none =>
                have : r.length ≤ j := List.getElem?_eq_none_iff.1 hj
                rw [List.getElem?_eq_none (by omega)]
                simp [hj]
              | some x =>
                have hjl := (List.getElem?_eq_some_iff.1 hj).1
                have q := g2.2 j _ _ (t2 j x hj) (List.getElem?_eq_getElem (by omega))
                rw [List.getElem?_eq_getElem (by omega)]
                simp only [List.map_map, List.getElem?_map, hj, Option.map_some, Function.comp]
                generalize cs.toList[j] = y at q
                cases q
                rfl
            refine ⟨_, .str r, ?_⟩
            rw [run_convert_bytes_string w s d e _ (m + 1) k (by rw [hs'.under, es]) (by rw [he'.under, hk]) (by rw [hd'.under, ed]), run_bytesToString w _ (m + 1) k (r.map fun x => (x.toNat : Int)) (by rw [g1 w rfl, hc])]
            congr 2
            rw [foldl_push_bytes]
            have hm : (r.map fun x => (x.toNat : Int)).map (fun n => UInt8.ofNat n.toNat) = r := by
              rw [List.map_map]
              exact (List.map_congr_left (g := id) fun x _ => by simp).trans (List.map_id _)
            rw [hm]
            simp [ByteArray.empty, ByteArray.emptyWithCapacity]
            rfl
          cases h1 with
          | sliceK hb => exact main _ _ _ _ hb
          | sliceA hb _ _ => exact main _ _ _ _ hb
        · cases hv
      · cases hv
    · cases hv
  · cases hv

theorem act_rd (hG : GOk P G) {e : Operand → Option V} {f : Operand → Value} (hef : OpR ρ e f) {o : Oper} {g : H → Option V} (h : act G e o.op = .rd g) {hh : H} {w : World} (hs : Sim ρ hh w) {v : V} (hv : g hh = some v) :
    ∃ c, Rel ρ v c ∧ (execOp f o).run P w = .ok (.value c) w := by
  have next : ∀ {s : Sem Value}, (∃ c, Rel ρ v c ∧ s.run P w = .ok c w) → execOp f o = (do pure (.value (← s))) → ∃ c, Rel ρ v c ∧ (execOp f o).run P w = .ok (.value c) w := by
    intro s ⟨c, r, q⟩ hn
    exact ⟨c, r, by rw [hn]; simp [q]⟩
  cases ho : o.op <;> rw [ho] at h <;> simp only [act, reduceCtorEq, Ac.rd.injEq] at h
  case load t a => subst h; exact next (rLoad_run hG hs hv (hef.opt a)) (by simp only [execOp, ho])
  case makeMap t r => cases r <;> simp at h
  case convert s d x =>
    split at h
    · simp only [Ac.rd.injEq] at h
      subst h
      exact next (rConv_run hG hs hv (hef.opt x)) (by simp only [execOp, ho])
    · cases h
  case lookup t x i ok => subst h; exact next (rLookup_run hG hs hv (hef.opt x) (hef.opt i)) (by simp only [execOp, ho])
  case entry it => subst h; exact next (rEntry_run hs hv (hef.opt it)) (by simp only [execOp, ho])
  case call c =>
    unfold actCall at h
    split at h
    · cases h
    · cases h
    · rename_i b hb
      unfold actBuiltin at h
      split at h <;> try cases h
      rename_i t x ht hx
      refine next (rLen_run hG (t := t) (ty' := o.type) hs hv (hef.opt x)) ?_
      have h1 : c.argTypes = #[t] := by rw [← Array.toArray_toList (xs := c.argTypes), ht]
      have h2 : c.args = #[x] := by rw [← Array.toArray_toList (xs := c.args), hx]
      simp only [execOp, ho, resolve, hb, pure_bind, invoke, builtin, h1, h2, List.map_toArray, List.map_cons, List.map_nil]
end
end Go.Ev
/- The operations that make new memory. -/
namespace Go.Ev

/-- what an operation that makes a block does -/
def Makes (P : Program) (s : Sem Value) (ρ : Ren) (id : Nat) (obj : O) (v : V) : Prop :=
  ∀ w, ∃ c c' L w', s.run P w = .ok c w' ∧ WAdd w w' c' ∧ L.1 = w.heap.size ∧ ORel (ρ.with id L) obj L c' ∧ Rel (ρ.with id L) v c

section
variable {P : Program} {G : Γ} (hG : GOk P G) {ρ : Ren}

theorem newRow_run (w : World) (el : TypeId) (cs : Array Value) : (newRow el cs).run P w = .ok ⟨w.heap.size, 0, none⟩ { w with heap := w.heap.push (.cells cs el) } := by
  simp [newRow]

theorem AR.oRel {n : Nat} {pat : List V} {tr : T V} {cs : Array Value} (h : AR ρ n pat tr cs) (el : TypeId) (B : Nat) : ORel ρ (.cells (some el) n pat tr) (B, 0, cs.size) (.cells cs el) := by
  refine ⟨cs, el, 0, 0, rfl, rfl, by simp [h.size], fun i _ => by omega, fun e' he => by cases he; exact ⟨rfl, rfl⟩, fun i x hi hx => h.one i x (by simpa using hx), fun i v x hv hx => h.rel i v x hv (by simpa using hx)⟩
theorem AR.mono {ρ' : Ren} (hle : ρ.le ρ') {n : Nat} {pat : List V} {tr : T V} {cs : Array Value} (h : AR ρ n pat tr cs) : AR ρ' n pat tr cs :=
  ⟨h.size, h.one, fun i v x a b => (h.rel i v x a b).mono hle⟩

theorem boxO_run {t : TypeId} {v : V} {c : Value} {o : O} (h : boxO t v = some o) (hr : Rel ρ v c) (B : Nat) : ORel ρ o (B, 0, c.cells.size) (.cells c.cells t) := by
  unfold boxO at h
  split at h
  · cases h
    obtain ⟨cs, rfl, a⟩ := hr.ar
    exact a.oRel t B
  · cases h
  · rename_i h1 h2
    cases h
    have hs : v.scalar = true := by cases v <;> simp_all [V.scalar]
    have hc := hr.cells hs
    rw [hc]
    refine AR.oRel (cs := #[c]) ⟨rfl, fun i x hx => ?_, fun i u x hv hx => ?_⟩ t B
    · have : i = 0 := by
        have := (Array.getElem?_eq_some_iff.1 hx).1; simp only [List.size_toArray, List.length_cons, List.length_nil] at this; omega
      subst this
      simp at hx; subst hx
      exact hr.oneCell hs
    · have : i = 0 := by
        have := (Array.getElem?_eq_some_iff.1 hx).1; simp only [List.size_toArray, List.length_cons, List.length_nil] at this; omega
      subst this
      simp at hx; subst hx
      have := cell_list [v] 0 u hv
      simp at this; subst this
      exact hr
theorem aBox_makes {t : TypeId} {x : Option V} {c : Value} {id : Nat} {obj : O} {v : V} (hx : ∀ a, x = some a → Rel ρ a c) (hid : ρ id = none) (h : aBox t x id = some (obj, v)) : Makes P (Instr.box t c) ρ id obj v := by
  unfold aBox at h
  split at h
  · split at h
    · rename_i o ho
      cases h
      intro w
      refine ⟨.pointer (some ⟨w.heap.size, 0, none⟩), _, (w.heap.size, 0, c.cells.size), { w with heap := w.heap.push (.cells c.cells t) }, by simp only [Instr.box, newVar, Sem.run_bind, newRow_run, Result.andThen_ok, Sem.run_pure], ⟨rfl, rfl, rfl, rfl⟩, rfl, ?_, ?_⟩
      · exact (boxO_run ho (hx _ rfl) _).mono (Ren.le_with ρ _ hid)
      · have := Rel.ptr (ρ := ρ.with id (w.heap.size, 0, c.cells.size)) (b := id) (o := 0) (Ren.with_same ..)
        exact this
    · cases h
  · cases h

/-- the cells of a zero value -/
theorem zcells_run {t : TypeId} {te : TY} (ht : TYOk P t te) {z : List V} (h : zcells te = some z) : z.length = te.size ∧ ∃ c, (∀ w, (zeroValue t).run P w = .ok c w) ∧ c.cells.size = te.size ∧ (∀ ρ, Rels ρ z c.cells.toList) ∧ ∀ x ∈ c.cells.toList, one x = true := by
  unfold zcells at h
  split at h
  · rename_i n pat tr hz
    split at h
    · rename_i hn
      rw [T.beq_true] at hn
      obtain ⟨c, c1, c2⟩ := ht.run_zero hz
      obtain ⟨cs, rfl, _⟩ := (c2 (fun _ => none)).ar
      have hAR : ∀ ρ, AR ρ n pat tr cs := fun ρ => by
        obtain ⟨cs', e, a⟩ := (c2 ρ).ar
        cases e; exact a
      have hR : ∀ ρ, Rels ρ z cs.toList := fun ρ => gather_rels (hAR ρ) h
      have hl := (gather_spec h).1
      refine ⟨by omega, _, c1, by simp only [Value.cells]; rw [(hAR (fun _ => none)).size, hn], hR, fun x hx => ?_⟩
      obtain ⟨i, hi⟩ := List.getElem?_of_mem hx
      exact (hAR (fun _ => none)).one i x (by simp only [Value.cells] at hi; rw [Array.getElem?_toList] at hi; exact hi)
    · cases h
  · cases h
  · rename_i v h1 h2 hz
    split at h
    · rename_i hn
      rw [T.beq_true] at hn
      cases h
      obtain ⟨c, c1, c2⟩ := ht.run_zero hz
      have hs : v.scalar = true := by cases v <;> simp_all [V.scalar]
      have hc := (c2 (fun _ => none)).cells hs
      refine ⟨by simp [hn], c, c1, by rw [hc, hn]; rfl, fun ρ => by rw [hc]; exact Rels.nil.cons (c2 ρ), fun x hx => ?_⟩
      rw [hc] at hx
      simp at hx; subst hx
      exact (c2 (fun _ => none)).oneCell hs
    · cases h
  · cases h

/-- a row of zero values -/
theorem zrow_ar {z : List V} {zero : Array Value} (hr : Rels ρ z zero.toList) (h1 : ∀ x ∈ zero.toList, one x = true) {n : Nat} (hn : n = 0 ∨ 0 < zero.size) :
    AR ρ n z .leaf ((Array.range n).map (zero[· % zero.size]!)) := by
  have get : ∀ i, i < n → ∃ x, zero[i % zero.size]? = some x ∧ ((Array.range n).map (zero[· % zero.size]!))[i]? = some x := by
    intro i hi
    have hz : 0 < zero.size := by omega
    have hm : i % zero.size < zero.size := Nat.mod_lt _ hz
    refine ⟨zero[i % zero.size], by simp [hm], ?_⟩
    simp [hi, hm]
  have hlen : zero.size = z.length := by simpa using hr.1
  refine ⟨by simp, fun i x hx => ?_, fun i v x hv hx => ?_⟩
  · have hi : i < n := by have := (Array.getElem?_eq_some_iff.1 hx).1; simpa using this
    obtain ⟨y, y1, y2⟩ := get i hi
    have hyx : y = x := Option.some.inj (y2.symm.trans hx)
    rw [hyx] at y1
    exact h1 x (by
      have := Array.mem_of_getElem? y1
      simpa using this)
  · have hi := cell_lt hv
    obtain ⟨y, y1, y2⟩ := get i hi
    have hyx : y = x := Option.some.inj (y2.symm.trans hx)
    rw [hyx] at y1
    have hv' : z[i % z.length]? = some v := by
      unfold cell at hv
      have hb : Nat.blt i n = true := by simpa [Nat.blt_eq] using hi
      rw [hb] at hv
      simp only [T.get_leaf] at hv
      unfold patAt at hv
      rw [nth_eq, nth_eq] at hv
      by_cases hl : i < z.length
      · rw [List.getElem?_eq_getElem hl] at hv
        simp at hv
        rw [Nat.mod_eq_of_lt hl, List.getElem?_eq_getElem hl, hv]
      · rw [List.getElem?_eq_none (Nat.le_of_not_lt hl)] at hv
        exact hv
    exact hr.2 _ v x hv' (by rw [← hlen]; simpa using y1)
theorem slice_new {id B z n cap : Nat} : Rel (ρ.with id (B, 0, z)) (.slice id 0 n (.known cap)) (.slice (some ⟨B, 0, none⟩) n cap) := by
  have := Rel.sliceK (ρ := ρ.with id (B, 0, z)) (b := id) (o := 0) (len := n) (c := cap) (Ren.with_same ..)
  exact this

theorem aAlloc_makes (hG : GOk P G) {t : TypeId} {id : Nat} {obj : O} {v : V} (hid : ρ id = none) (h : aAlloc t (G.ty t) id = some (obj, v)) : Makes P (Instr.alloc t true (.tuple #[])) ρ id obj v := by
  unfold aAlloc at h
  split at h
  · rename_i ty hty
    cases hz : ty.zero with
    | none => rw [hz] at h; simp [aBox] at h
    | some z =>
      rw [hz] at h
      obtain ⟨c, c1, c2⟩ := (hG.types _ _ hty).run_zero hz
      have := aBox_makes (P := P) (c := c) (fun a ha => by cases ha; exact c2 ρ) hid h
      intro w
      obtain ⟨a, b, L, w', e1, e2⟩ := this w
      refine ⟨a, b, L, w', ?_, e2⟩
      rw [← e1]
      simp only [Instr.alloc, Instr.box, Sem.run_bind, c1, Result.andThen_ok]
  · cases h
theorem aBuildSlice_makes (hG : GOk P G) {t : TypeId} {len : Nat} {e : Operand → Option V} {f : Operand → Value} (hef : OpR ρ e f) {parts : Array (Nat × Operand)} {id : Nat} {obj : O} {v : V} (hid : ρ id = none)
    (h : aBuildSlice G (G.ty t) len e parts.toList id = some (obj, v)) : Makes P (Instr.buildSlice t len (parts.map fun p => (p.1, f p.2))) ρ id obj v := by
  unfold aBuildSlice at h
  split at h
  · rename_i ty hty
    split at h
    · rename_i elem e1
      split at h
      · rename_i te hte
        split at h
        · rename_i z hz hle
          have hle := Nat.le_of_ble_eq_true hle
          split at h
          · rename_i tr hf
            cases h
            have ht := hG.types _ _ hty
            have hte' := hG.types _ _ hte
            obtain ⟨z1, c, c1, c2, c3, c4⟩ := zcells_run hte' hz
            intro w
            have hle : len * te.size ≤ 100000 := hle
            have hnb : ¬ (len * te.size > 2 ^ 24) := by omega
            by_cases h0 : len * te.size = 0
            · have q2 : AR ρ (len * te.size) z .leaf ((Array.range (len * te.size)).map ((#[] : Array Value)[· % (#[] : Array Value).size]!)) := by
                rw [h0]
                exact ⟨by simp, fun i x hx => by simp at hx, fun i v x hv => absurd (cell_lt hv) (by omega)⟩
              obtain ⟨cs', f1, f2⟩ := fillA_fill hef (place := fun i => some (i * te.size, te.size)) (fun k L hL => by cases hL; rfl) hf q2
              refine ⟨_, _, (w.heap.size, 0, cs'.size), { w with heap := w.heap.push (.cells cs' elem) }, ?_, ⟨rfl, rfl, rfl, rfl⟩, rfl, (f2.oRel elem _).mono (Ren.le_with ρ _ hid), slice_new⟩
              rw [h0] at f1
              simp only [Instr.buildSlice, Sem.run_bind, ht.run_underlying, e1, Result.andThen_ok, hte'.run_sizeOf, h0, if_neg (show ¬ (0 : Nat) > 2 ^ 24 by decide), if_true, Sem.run_pure, Array.toList_map, f1, newRow_run]
            · have q2 : AR ρ (len * te.size) z .leaf ((Array.range (len * te.size)).map (c.cells[· % c.cells.size]!)) := by
                refine zrow_ar (c3 ρ) c4 (.inr ?_)
                rw [c2]
                exact Nat.pos_of_ne_zero fun e => h0 (by rw [e, Nat.mul_zero])
              obtain ⟨cs', f1, f2⟩ := fillA_fill hef (place := fun i => some (i * te.size, te.size)) (fun k L hL => by cases hL; rfl) hf q2
              refine ⟨_, _, (w.heap.size, 0, cs'.size), { w with heap := w.heap.push (.cells cs' elem) }, ?_, ⟨rfl, rfl, rfl, rfl⟩, rfl, (f2.oRel elem _).mono (Ren.le_with ρ _ hid), slice_new⟩
              simp only [Instr.buildSlice, Sem.run_bind, ht.run_underlying, e1, Result.andThen_ok, hte'.run_sizeOf, if_neg hnb, if_neg h0, c1, Sem.run_pure, Array.toList_map, f1, newRow_run]
          · cases h
        · cases h
      · cases h
    · cases h
  · cases h
theorem aMakeSlice_makes (hG : GOk P G) {t : TypeId} {l c : Option V} {id : Nat} {obj : O} {v : V} {cl cc : Value} (hid : ρ id = none) (hl : ∀ a, l = some a → Rel ρ a cl) (hc : ∀ a, c = some a → Rel ρ a cc)
    (h : aMakeSlice G (G.ty t) l c id = some (obj, v)) : Makes P (Instr.makeSlice t cl cc) ρ id obj v := by
  unfold aMakeSlice at h
  split at h
  · rename_i ty k1 l k2 c hty
    have hl := hl _ rfl
    have hc := hc _ rfl
    cases hl; cases hc
    split at h
    · rename_i elem e1
      split at h
      · rename_i te hte
        split at h
        · rename_i z hz hb
          cases h
          simp only [Bool.and_eq_true] at hb
          have hlc : l ≤ c := Nat.le_of_ble_eq_true hb.1.1
          have hcm : c ≤ 100000 := Nat.le_of_ble_eq_true hb.1.2
          have ht := hG.types _ _ hty
          have hte' := hG.types _ _ hte
          obtain ⟨z1, y, c1, c2, c3, c4⟩ := zcells_run hte' hz
          obtain ⟨i, zz, i1, i2, _⟩ := hG.big _ _ hte
          intro w
          have wl : IntKind.i64.wrap (Int.ofNat l) = Int.ofNat l := wrap_i64_pos l (by omega)
          have wc : IntKind.i64.wrap (Int.ofNat c) = Int.ofNat c := wrap_i64_pos c (by omega)
          have hbytes : (i.bytes : Int) * (c : Int) ≤ 281474976710656 := by
            have : i.bytes * c ≤ 1048576 * 100000 := Nat.mul_le_mul i2 hcm
            have h2 : ((i.bytes * c : Nat) : Int) ≤ 104857600000 := by omega
            have h3 : (i.bytes : Int) * (c : Int) = ((i.bytes * c : Nat) : Int) := by simp
            rw [h3]
            omega
          have n1 : ¬ (c : Int) < 0 := by omega
          have n2 : ¬ (281474976710656 < (i.bytes : Int) * (c : Int)) := by omega
          have n3 : ¬ (l : Int) < 0 := by omega
          have n4 : ¬ (c : Int) < (l : Int) := by omega
          simp only [Int.ofNat_eq_natCast] at wl wc
          have rt : ∀ w, (typeInfo elem).run P w = .ok i w := fun w => by simp [typeInfo, i1]
          by_cases h0 : c * te.size = 0
          · have q2 : AR ρ (c * te.size) z .leaf ((Array.range (c * te.size)).map ((#[] : Array Value)[· % (#[] : Array Value).size]!)) := by
              rw [h0]
              exact ⟨by simp, fun i x hx => by simp at hx, fun i v x hv => absurd (cell_lt hv) (by omega)⟩
            refine ⟨_, _, (w.heap.size, 0, _), { w with heap := w.heap.push (.cells _ elem) }, ?_, ⟨rfl, rfl, rfl, rfl⟩, rfl, (q2.oRel elem _).mono (Ren.le_with ρ _ hid), slice_new⟩
            simp [Instr.makeSlice, ht.run_underlying, e1, asInt, asIntOf, rt, wl, wc, n1, n2, n3, n4, hte'.run_sizeOf, h0, newRow_run]
          · have q2 : AR ρ (c * te.size) z .leaf ((Array.range (c * te.size)).map (y.cells[· % y.cells.size]!)) := by
              refine zrow_ar (c3 ρ) c4 (.inr ?_)
              rw [c2]
              exact Nat.pos_of_ne_zero fun e => h0 (by rw [e, Nat.mul_zero])
            refine ⟨_, _, (w.heap.size, 0, _), { w with heap := w.heap.push (.cells _ elem) }, ?_, ⟨rfl, rfl, rfl, rfl⟩, rfl, (q2.oRel elem _).mono (Ren.le_with ρ _ hid), slice_new⟩
            simp [Instr.makeSlice, ht.run_underlying, e1, asInt, asIntOf, rt, wl, wc, n1, n2, n3, n4, hte'.run_sizeOf, h0, newRow_run, c1]
        · cases h
      · cases h
    · cases h
  · cases h
theorem act_al (hG : GOk P G) {e : Operand → Option V} {f : Operand → Value} (hef : OpR ρ e f) {o : Oper} {g : Nat → Option (O × V)} (h : act G e o.op = .al g) {id : Nat} {obj : O} {v : V} (hid : ρ id = none) (hv : g id = some (obj, v)) (w : World) :
    ∃ c c' L w', (execOp f o).run P w = .ok (.value c) w' ∧ WAdd w w' c' ∧ L.1 = w.heap.size ∧ ORel (ρ.with id L) obj L c' ∧ Rel (ρ.with id L) v c := by
  have next : ∀ {s : Sem Value}, Makes P s ρ id obj v → execOp f o = (do pure (.value (← s))) →
      ∃ c c' L w', (execOp f o).run P w = .ok (.value c) w' ∧ WAdd w w' c' ∧ L.1 = w.heap.size ∧ ORel (ρ.with id L) obj L c' ∧ Rel (ρ.with id L) v c := by
    intro s hm hn
    obtain ⟨c, c', L, w', e1, e2⟩ := hm w
    exact ⟨c, c', L, w', by rw [hn]; simp [e1], e2⟩
  cases ho : o.op <;> rw [ho] at h <;> simp only [act, reduceCtorEq, Ac.al.injEq] at h
  case alloc t => subst h; exact next (aAlloc_makes hG hid hv) (by simp only [execOp, ho])
  case box t x => subst h; exact next (aBox_makes (hef.opt x) hid hv) (by simp only [execOp, ho])
  case buildSlice t n ps => subst h; exact next (aBuildSlice_makes hG hef hid hv) (by simp only [execOp, ho])
  case makeMap t r =>
    cases r with
    | none =>
      simp only [Ac.al.injEq] at h
      subst h
      cases hv
      refine next (s := Instr.makeMap t none) (fun w => ⟨.map (some w.heap.size), .map #[] 0, (w.heap.size, 0, 0), { w with heap := w.heap.push (.map #[] 0) }, by simp [Instr.makeMap], ⟨rfl, rfl, rfl, rfl⟩, rfl, ⟨#[], rfl, rfl, fun i e e' h => by simp at h⟩, ?_⟩) (by simp only [execOp, ho, Option.map_none])
      exact .map (d := 0) (z := 0) (Ren.with_same ..)
    | some r => simp at h
  case convert s d x => split at h <;> cases h
  case makeSlice t l c => subst h; exact next (aMakeSlice_makes hG hid (hef.opt l) (hef.opt c) hv) (by simp only [execOp, ho])
  case call c =>
    unfold actCall at h
    split at h
    · cases h
    · cases h
    · rename_i b hb
      unfold actBuiltin at h
      split at h <;> cases h
end
end Go.Ev
/- The operations that change memory, 1: rows of cells. -/
namespace Go.Ev

/-- what an operation that changes memory does -/
def Does (P : Program) (n : Sem Next) (ρ : Ren) (h : H) (w : World) (v : V) (h' : H) : Prop :=
  ∃ ρ' c w', (n.run P w = .ok (.value c) w' ∨ (n.run P w = .ok .skip w' ∧ c = undef)) ∧ Sim ρ' h' w' ∧ Ext ρ h w ρ' h' w' ∧ Rel ρ' v c
def DoesV (P : Program) (s : Sem Value) (ρ : Ren) (h : H) (w : World) (v : V) (h' : H) : Prop :=
  ∃ ρ' c w', s.run P w = .ok c w' ∧ Sim ρ' h' w' ∧ Ext ρ h w ρ' h' w' ∧ Rel ρ' v c
def DoesU (P : Program) (s : Sem Unit) (ρ : Ren) (h : H) (w : World) (v : V) (h' : H) : Prop :=
  ∃ ρ' w', s.run P w = .ok () w' ∧ Sim ρ' h' w' ∧ Ext ρ h w ρ' h' w' ∧ v = .tuple []
theorem DoesV.next {P : Program} {s : Sem Value} {ρ : Ren} {h h' : H} {w : World} {v : V} {n : Sem Next} (k : DoesV P s ρ h w v h') (hn : n = (do pure (.value (← s)))) : Does P n ρ h w v h' := by
  obtain ⟨ρ', c, w', h1, h2, h3, h4⟩ := k
  exact ⟨ρ', c, w', .inl (by rw [hn]; simp [h1]), h2, h3, h4⟩
theorem Rel.undef {ρ : Ren} : Rel ρ (.tuple []) undef := .tuple rfl fun i v x h => by simp at h
theorem DoesU.next {P : Program} {s : Sem Unit} {ρ : Ren} {h h' : H} {w : World} {v : V} {n : Sem Next} (k : DoesU P s ρ h w v h') (hn : n = (do s; pure .skip)) : Does P n ρ h w v h' := by
  obtain ⟨ρ', w', h1, h2, h3, rfl⟩ := k
  exact ⟨ρ', undef, w', .inr ⟨by rw [hn]; simp [h1], rfl⟩, h2, h3, .undef⟩

section
variable {P : Program} {G : Γ} (hG : GOk P G) {ρ : Ren}

/-- cells are stored: k of them from place o on -/
theorem storeAll_run {h : H} {w : World} (hs : Sim ρ h w) {b B d z : Nat} (hb : ρ b = some (B, d, z)) {e : Option TypeId} {n o : Nat} {pat pat2 : List V} {tr tr2 : T V} (ho : h.tr.get b = some (.cells e n pat tr)) {cs : List Value}
    (hle : o + cs.length ≤ n) (h1 : ∀ x ∈ cs, one x = true)
    (hnew : ∀ i v, cell n pat2 tr2 i = some v → (o ≤ i ∧ i < o + cs.length → ∀ x, cs[i - o]? = some x → Rel ρ v x) ∧ (¬ (o ≤ i ∧ i < o + cs.length) → cell n pat tr i = some v)) :
    ∃ w', (storeCells ⟨B, d + o, none⟩ cs).run P w = .ok () w' ∧ Sim ρ (h.set b (some (.cells e n pat2 tr2))) w' ∧ Ext ρ h w ρ (h.set b (some (.cells e n pat2 tr2))) w' := by
  obtain ⟨L, c, l1, l2, l3⟩ := hs.live b _ ho
  rw [hb] at l1; cases l1
  obtain ⟨ds, el, lo, hi, rfl, a1, a2, a3, a4, a5⟩ := l3
  simp only at a1 a2 a3 a5 l2
  obtain ⟨w', ds', e1, e2, e3, e4⟩ := storeCells_run (P := P) (B := B) (off := d + o) cs 0 ds w l2 (fun k hk => a3 k (by omega)) (by omega) h1
  refine ⟨w', e1, hs.set ho hb e2.here ?_ e2.other, Ext.set ho hb rfl e2.size e2.other e2.tape e2.os e2.output⟩
  refine ⟨ds', el, lo, hi, rfl, by rw [e3]; exact a1, a2, a3, a4, fun i x hi hx => ?_, fun i v x hv hx => ?_⟩
  · rw [e4] at hx
    split at hx
    · exact h1 x (List.mem_of_getElem? hx)
    · exact a5.1 i x hi hx
  · obtain ⟨n1, n2⟩ := hnew i v hv
    simp only at hx
    rw [e4] at hx
    by_cases hr : o ≤ i ∧ i < o + cs.length
    · rw [if_pos (by omega)] at hx
      exact n1 hr x (by rw [show i - o = d + i - (d + o + 0) by omega]; exact hx)
    · rw [if_neg (by omega)] at hx
      exact a5.2 i v x (n2 hr) hx

theorem overL_get : ∀ (vs : List V) (off : Nat) (tr : T V) (m : Nat), (overL off vs tr).get m = if off ≤ m ∧ m < off + vs.length then vs[m - off]? else tr.get m
  | [], off, tr, m => by
    simp only [overL, List.length_nil]
    rw [if_neg (by omega)]
  | v :: vs, off, tr, m => by
    simp only [overL, List.length_cons]
    rw [overL_get vs]
    by_cases h : Nat.succ off ≤ m ∧ m < Nat.succ off + vs.length
    · rw [if_pos h, if_pos (by omega), show m - off = (m - Nat.succ off) + 1 by omega, List.getElem?_cons_succ]
    · rw [if_neg h]
      by_cases e : m = off
      · subst e
        rw [if_pos (by omega), Nat.sub_self, T.get_put_same]
        rfl
      · rw [if_neg (by omega), T.get_put_ne _ _ e]

theorem putCells_run {h h' : H} {w : World} (hs : Sim ρ h w) {b o : Nat} {vs : List V} (hp : putCells h b o vs = some h') {B d z : Nat} (hb : ρ b = some (B, d, z)) {cs : List Value} (hr : Rels ρ vs cs) (h1 : ∀ x ∈ cs, one x = true) :
    ∃ w', (storeCells ⟨B, d + o, none⟩ cs).run P w = .ok () w' ∧ Sim ρ h' w' ∧ Ext ρ h w ρ h' w' := by
  unfold putCells at hp
  split at hp
  · rename_i e n pat tr ho
    split at hp
    · rename_i hle
      have hle : o + vs.length ≤ n := Nat.le_of_ble_eq_true hle
      cases hp
      have hlen := hr.1
      refine storeAll_run hs hb ho (by omega) h1 fun i v hv => ⟨fun hi x hx => ?_, fun hi => ?_⟩
      · have hg : (overL o vs tr).get i = vs[i - o]? := by rw [overL_get, if_pos (by omega)]
        have hlt : i - o < vs.length := by omega
        rw [List.getElem?_eq_getElem hlt] at hg
        have := cell_of_get (pat := pat) (cell_lt hv) hg
        rw [this] at hv; cases hv
        exact hr.2 (i - o) _ x (List.getElem?_eq_getElem hlt) hx
      · rw [← hv]
        exact cell_congr (by rw [overL_get, if_neg (by omega)])
    · cases hp
  · cases hp
/-- nothing is stored -/
theorem putCells_nil {h h' : H} {w : World} (hs : Sim ρ h w) {b o : Nat} (hp : putCells h b o [] = some h') : Sim ρ h' w ∧ Ext ρ h w ρ h' w := by
  unfold putCells at hp
  split at hp
  · rename_i e n pat tr ho
    split at hp
    · cases hp
      obtain ⟨L, c, l1, l2, l3⟩ := hs.live b _ ho
      exact ⟨hs.set ho l1 l2 l3 fun _ _ => rfl, Ext.set ho l1 rfl rfl (fun _ _ => rfl) rfl rfl rfl⟩
    · cases hp
  · cases hp

theorem fStore_does (hG : GOk P G) {h h' : H} {w : World} (hs : Sim ρ h w) {t : TypeId} {a x : Option V} {v : V} {ca cx : Value} (hl : fStore (G.ty t) h a x = some (v, h')) (ha : ∀ y, a = some y → Rel ρ y ca) (hx : ∀ y, x = some y → Rel ρ y cx) :
    DoesU P (Instr.storeAt t ca cx) ρ h w v h' := by
  unfold fStore at hl
  split at hl
  · rename_i ty b o u hty
    have ht := hG.types _ _ hty
    have ha := ha _ rfl
    have hx := hx _ rfl
    cases ha with
    | ptr hb =>
      rename_i B d z
      have run : ∀ {w'}, cx.cells.size = ty.size → (storeCells ⟨B, d + o, none⟩ cx.cells.toList).run P w = .ok () w' → (Instr.storeAt t (.pointer (some ⟨B, d + o, none⟩)) cx).run P w = .ok () w' := by
        intro w' hsz hrun
        simp only [Instr.storeAt, Instr.sureAddr, storeVar, Sem.run_bind, Sem.run_pure, Result.andThen_ok, ht.run_sizeOf]
        rw [if_neg (by omega)]
        exact hrun
      split at hl
      · rename_i e n pat tr ho
        split at hl
        · rename_i n' pat' tr' _
          obtain ⟨ds, rfl, ar⟩ := hx.ar
          have hone : ∀ y ∈ ds.toList, one y = true := fun y hy => by
            obtain ⟨i, hi⟩ := List.getElem?_of_mem hy
            exact ar.one i y (by rw [Array.getElem?_toList] at hi; exact hi)
          have hlen : ds.toList.length = n' := by rw [Array.length_toList, ar.size]
          split at hl
          · rename_i hn hc
            rw [T.beq_true] at hn
            simp only [Bool.and_eq_true, T.beq_true] at hc
            obtain ⟨rfl, rfl⟩ := hc
            cases hl
            obtain ⟨w', r1, r2, r3⟩ := storeAll_run (P := P) hs hb ho (pat2 := pat') (tr2 := tr') (cs := ds.toList) (o := 0) (by omega) hone (fun i v hv => ⟨fun hi y hy => ar.rel i v y hv (by rw [Array.getElem?_toList] at hy; exact hy), fun hi => absurd (cell_lt hv) (by omega)⟩)
            exact ⟨ρ, w', run (by simp only [Value.cells]; rw [ar.size, hn]) r1, r2, r3, rfl⟩
          · rename_i hn hc
            rw [T.beq_true] at hn
            split at hl
            · rename_i tr2 hle hov
              have hle : o + n' ≤ n := Nat.le_of_ble_eq_true hle
              cases hl
              obtain ⟨o1, o2⟩ := overA_get hov
              obtain ⟨w', r1, r2, r3⟩ := storeAll_run (P := P) hs hb ho (pat2 := pat) (tr2 := tr2) (cs := ds.toList) (o := o) (by omega) hone (fun i v hv => by
                refine ⟨fun hi y hy => ?_, fun hi => ?_⟩
                · obtain ⟨v', q1, q2⟩ := o1 (i - o) (by omega) (by omega)
                  rw [show o + (i - o) = i by omega] at q2
                  have := cell_of_get (pat := pat) (cell_lt hv) q2
                  rw [this] at hv; cases hv
                  exact ar.rel _ _ _ q1 (by rw [Array.getElem?_toList] at hy; exact hy)
                · rw [← hv]
                  exact cell_congr (o2 i (by omega)).symm)
              exact ⟨ρ, w', run (by simp only [Value.cells]; rw [ar.size, hn]) r1, r2, r3, rfl⟩
            · cases hl
          · cases hl
        · cases hl
        · rename_i hna hnt
          split at hl
          · rename_i hc
            simp only [Bool.and_eq_true, T.beq_true] at hc
            obtain ⟨hc1, hc2⟩ := hc
            have hc2 := blt_true hc2
            cases hl
            have hsc : u.scalar = true := by cases u <;> simp_all [V.scalar]
            have hcc := hx.cells hsc
            have hl1 : cx.cells.toList = [cx] := by rw [hcc]
            obtain ⟨w', r1, r2, r3⟩ := storeAll_run (P := P) hs hb ho (pat2 := pat) (tr2 := tr.put o (some u)) (cs := [cx]) (o := o) (by simp; omega) (fun y hy => by simp at hy; subst hy; exact hx.oneCell hsc) (fun i v hv => by
              refine ⟨fun hi y hy => ?_, fun hi => ?_⟩
              · have e0 : i = o := by simp at hi; omega
                subst e0
                simp at hy; subst hy
                have := cell_of_get (pat := pat) (cell_lt hv) (T.get_put_same tr i (some u))
                rw [this] at hv; cases hv
                exact hx
              · rw [← hv]
                exact cell_congr (T.get_put_ne tr _ (by simp at hi; omega)).symm)
            exact ⟨ρ, w', run (by rw [hcc, hc1]; rfl) (by rw [hl1]; exact r1), r2, r3, rfl⟩
          · cases hl
      · cases hl
  · cases hl
end
end Go.Ev
/- The operations that change memory, 2: append, copy. -/
namespace Go.Ev
section
variable {P : Program} {G : Γ} (hG : GOk P G) {ρ : Ren}

theorem gather_take {n : Nat} {pat : List V} {tr : T V} : ∀ {k o : Nat} {l : List V} (j : Nat), gather n pat tr o k = some l → j ≤ k → gather n pat tr o j = some (l.take j)
  | k, o, l, 0, _, _ => by simp [gather]
  | 0, o, l, j + 1, _, h => by omega
  | k + 1, o, l, j + 1, h, hj => by
    simp only [gather] at h ⊢
    split at h
    · rename_i v hv
      split at h
      · rename_i l' hl'
        simp at h; subst h
        rw [gather_take j hl' (by omega)]
        rfl
      · cases h
    · cases h
theorem rGather_take {h : H} {b o k j : Nat} {l : List V} (hl : rGather h b o k = some l) (hj : j ≤ k) : rGather h b o j = some (l.take j) := by
  unfold rGather at hl ⊢
  split at hl
  · exact gather_take j hl hj
  · exact gather_take j hl hj
  · cases hl
theorem rGather_len {h : H} {b o k : Nat} {l : List V} (hl : rGather h b o k = some l) : l.length = k := by
  unfold rGather at hl
  split at hl
  · exact (gather_spec hl).1
  · exact (gather_spec hl).1
  · cases hl

theorem Sim.of_heap {h : H} {w w' : World} (hs : Sim ρ h w) (he : w'.heap = w.heap) : Sim ρ h w' where
  glob := hs.glob
  dom := hs.dom
  live b o hb := by rw [he]; exact hs.live b o hb
  inj := hs.inj

/-- the cells of a slice, or of a string, from its begin on -/
theorem firstCells_run {h : H} {w : World} (hs : Sim ρ h w) {s n : Nat} {l : List V} {x : V} {cx : Value} (he : elems h s x = some (n, l)) (hx : Rel ρ x cx) :
    (∀ w, (Builtin.lenOf cx).run P w = .ok n w) ∧ l.length = n * s ∧ ∀ m, m ≤ n → ∃ cs, (∀ w', w'.heap = w.heap → (Builtin.firstCells s m cx).run P w' = .ok cs w') ∧ Rels ρ (l.take (m * s)) cs.toList ∧ ∀ y ∈ cs.toList, one y = true := by
  unfold elems at he
  split at he
  · cases he; cases hx
    refine ⟨fun w => rfl, by simp, fun m hm => ⟨#[], fun w' _ => rfl, by simpa using Rels.nil, fun y hy => by simp at hy⟩⟩
  · rename_i b o k cap
    split at he
    · rename_i l' hg
      cases he
      have hlen := rGather_len hg
      have main : ∀ B d z c, ρ b = some (B, d, z) → ∀ m, m ≤ n → ∃ cs, (∀ w', w'.heap = w.heap → (Builtin.firstCells s m (.slice (some ⟨B, d + o, none⟩) n c)).run P w' = .ok cs w') ∧ Rels ρ (l.take (m * s)) cs.toList ∧ ∀ y ∈ cs.toList, one y = true := by
        intro B d z c hb m hm
        have hg' := rGather_take (j := m * s) hg (Nat.mul_le_mul_right s hm)
        obtain ⟨cs, c1, c2, c3, c4⟩ := rGather_run (P := P) hs hg' hb
        exact ⟨cs, c1, c2, c4⟩
      cases hx with
      | sliceK hb => exact ⟨fun w => rfl, hlen, main _ _ _ _ hb⟩
      | sliceA hb _ _ => exact ⟨fun w => rfl, hlen, main _ _ _ _ hb⟩
      | sliceZ a =>
        refine ⟨fun w => rfl, hlen, fun m hm => ⟨#[], ?_, ?_, fun y hy => by simp at hy⟩⟩
        · have : m = 0 := by omega
          subst this
          simp [Builtin.firstCells, loadCells, loadCellsFrom]
        · have : m = 0 := by omega
          subst this
          simpa using Rels.nil
    · cases he
  · rename_i t
    split at he
    · rename_i hs1
      rw [T.beq_true] at hs1
      subst hs1
      cases he; cases hx
      refine ⟨fun w => rfl, by simp, fun m hm => ?_⟩
      refine ⟨_, fun w' _ => rfl, ?_, ?_⟩
      · rw [extract_bytes]
        refine ⟨by simp, fun i v y hv hy => ?_⟩
        simp only [Nat.mul_one, List.drop_zero, Nat.sub_zero, Array.toList_map, ← List.map_take, List.getElem?_map] at hv hy
        cases hq : (List.take m t)[i]? with
        | none => rw [hq] at hv; simp at hv
        | some u =>
          rw [hq] at hv hy
          simp at hv hy
          subst hv; subst hy
          exact .int _ _
      · intro y hy
        simp only [Array.toList_map, List.mem_map] at hy
        obtain ⟨u, _, rfl⟩ := hy
        rfl
    · cases he
  · cases he

/-- what is appended -/
structure Appd (P : Program) (tx : TypeId) (x : Value) (i : TypeInfo) (z : Value) (n : Nat) (news : List Value) (w : World) : Prop where
  src : (∃ d, P.underlying tx = some d ∧ isInt d = some false ∧ (∀ w, (Builtin.lenOf x).run P w = .ok n w) ∧ ∀ w', w'.heap = w.heap → (Builtin.firstCells i.size n x).run P w' = .ok news.toArray w') ∨
    (∃ k k', P.underlying tx = some (.int k) ∧ x = .int k' (n : Int) ∧ n ≤ 100000 ∧ i.bytes ≤ 1048576 ∧ news = if n * i.size = 0 then [] else (Builtin.zeroCells z.cells n).toList)

set_option maxHeartbeats 4000000 in
theorem append_room {w w' : World} {t tx ty e : TypeId} {i : TypeInfo} {z : Value} (ht : P.underlying t = some (.slice e)) (hi : P.info? e = some i) (hz : i.zero = some z) {base : Option Addr} {sLen sCap n : Nat} {x : Value} {news : List Value}
    (hx : Appd P tx x i z n news w) (hroom : sLen + n ≤ sCap) (hst : match (generalizing := false) base with | some a => (storeCells (a.add (sLen * i.size)) news).run P w = .ok () w' | none => w' = w) :
    (Builtin.append_ #[t, tx] ty #[.slice base sLen sCap, x]).run P w = .ok (.slice base (sLen + n) sCap) w' := by
  rcases hx.src with ⟨d, hu, hd, hl, hc⟩ | ⟨k, k', hu, rfl, hn, hb, hnews⟩
  · cases base with
    | none =>
      simp only at hst
      subst hst
      cases d <;> first
        | (simp [isInt] at hd; done)
        | simp [Builtin.append_, Go.run_underlying ht, Go.run_underlying hu, sizeOf, typeInfo, hi, hl, hroom, hc _ rfl]
    | some a =>
      simp only at hst
      cases d <;> first
        | (simp [isInt] at hd; done)
        | simp [Builtin.append_, Go.run_underlying ht, Go.run_underlying hu, sizeOf, typeInfo, hi, hl, hroom, hc _ rfl, hst]
  · have wn : IntKind.i64.wrap (n : Int) = (n : Int) := wrap_i64_pos n (by omega)
    have n1 : ¬ ((n : Int) < 0) := by omega
    have hbytes : ¬ (281474976710656 < (n : Int) * (i.bytes : Int)) := by
      have : n * i.bytes ≤ 100000 * 1048576 := Nat.mul_le_mul hn hb
      have h3 : (n : Int) * (i.bytes : Int) = ((n * i.bytes : Nat) : Int) := by simp
      rw [h3]; omega
    by_cases h0 : n * i.size = 0
    · rw [if_pos h0] at hnews
      subst hnews
      cases base with
      | none =>
        simp only at hst
        subst hst
        simp [Builtin.append_, Go.run_underlying ht, Go.run_underlying hu, sizeOf, typeInfo, hi, hroom, asInt, asIntOf, wn, n1, hbytes, h0]
      | some a =>
        simp only at hst
        simp [Builtin.append_, Go.run_underlying ht, Go.run_underlying hu, sizeOf, typeInfo, hi, hroom, asInt, asIntOf, wn, n1, hbytes, h0, hst]
    · rw [if_neg h0] at hnews
      subst hnews
      cases base with
      | none =>
        simp only at hst
        subst hst
        simp [Builtin.append_, Go.run_underlying ht, Go.run_underlying hu, sizeOf, typeInfo, hi, hroom, asInt, asIntOf, wn, n1, hbytes, zeroValue, hz]
      | some a =>
        simp only at hst
        simp [Builtin.append_, Go.run_underlying ht, Go.run_underlying hu, sizeOf, typeInfo, hi, hroom, asInt, asIntOf, wn, n1, hbytes, h0, hst, zeroValue, hz]
set_option maxHeartbeats 4000000 in
theorem append_grow {w : World} {t tx ty e : TypeId} {i : TypeInfo} {z : Value} (ht : P.underlying t = some (.slice e)) (hi : P.info? e = some i) (hz : i.zero = some z) {base : Option Addr} {sLen sCap n : Nat} {x : Value} {news olds : List Value}
    (hx : Appd P tx x i z n news w) (hroom : ¬ sLen + n ≤ sCap) (hsmall : sLen + n ≤ 100000) (hbts : i.bytes ≤ 1048576) (hold : ∀ w', w'.heap = w.heap → (Builtin.firstCells i.size sLen (.slice base sLen sCap)).run P w' = .ok olds.toArray w') :
    ∃ k w', sLen + n ≤ k ∧ (Builtin.append_ #[t, tx] ty #[.slice base sLen sCap, x]).run P w = .ok (.slice (some ⟨w.heap.size, 0, none⟩) (sLen + n) k) w' ∧
      WAdd w w' (.cells ((olds ++ news).toArray ++ Builtin.zeroCells z.cells (k - (sLen + n))) e) := by
  have hfit : ¬ (281474976710656 < Builtin.nextslicecap (sLen + n) sCap * i.bytes) := by
    have h1 : Builtin.nextslicecap (sLen + n) sCap ≤ 1000000 := by
      unfold Builtin.nextslicecap
      split
      · omega
      · split
        · omega
        · simp only [Builtin.growBy]
          repeat' split
          all_goals omega
    have : Builtin.nextslicecap (sLen + n) sCap * i.bytes ≤ 1000000 * 1048576 := Nat.mul_le_mul h1 hbts
    omega
  have h63 : ¬ (9223372036854775807 < ((sLen : Int) + (n : Int))) := by omega
  refine ⟨(Question.appendCap (sLen + n) sCap e).cut (w.tape w.drawn (.appendCap (sLen + n) sCap e)), w.drew.alloc (.cells ((olds ++ news).toArray ++ Builtin.zeroCells z.cells ((Question.appendCap (sLen + n) sCap e).cut (w.tape w.drawn (.appendCap (sLen + n) sCap e)) - (sLen + n))) e), by simp only [Question.cut]; omega, ?_, ⟨rfl, rfl, rfl, rfl⟩⟩
  have hold := hold w.drew rfl
  rcases hx.src with ⟨d, hu, hd, hl, hc⟩ | ⟨k, k', hu, rfl, hn, hb, hnews⟩
  · have hc := hc w.drew rfl
    cases d <;> first
      | (simp [isInt] at hd; done)
      | (simp [Builtin.append_, Go.run_underlying ht, Go.run_underlying hu, sizeOf, typeInfo, zeroValue, hi, hz, hl, hroom, h63, hfit, Question.forced, hc, hold, newRow]
         congr 2
         apply Array.ext'
         simp [List.append_assoc])
  · have wn : IntKind.i64.wrap (n : Int) = (n : Int) := wrap_i64_pos n (by omega)
    have n1 : ¬ ((n : Int) < 0) := by omega
    have hbytes : ¬ (281474976710656 < (n : Int) * (i.bytes : Int)) := by
      have : n * i.bytes ≤ 100000 * 1048576 := Nat.mul_le_mul hn hb
      have h3 : (n : Int) * (i.bytes : Int) = ((n * i.bytes : Nat) : Int) := by simp
      rw [h3]; omega
    by_cases h0 : n * i.size = 0
    · rw [if_pos h0] at hnews
      subst hnews
      simp [Builtin.append_, Go.run_underlying ht, Go.run_underlying hu, sizeOf, typeInfo, zeroValue, hi, hz, hroom, h63, hfit, Question.forced, hold, newRow, asInt, asIntOf, wn, n1, hbytes, h0]
    · rw [if_neg h0] at hnews
      subst hnews
      simp [Builtin.append_, Go.run_underlying ht, Go.run_underlying hu, sizeOf, typeInfo, zeroValue, hi, hz, hroom, h63, hfit, Question.forced, hold, newRow, asInt, asIntOf, wn, n1, hbytes, h0]
      congr 2
      apply Array.ext'
      simp [List.append_assoc]
end
end Go.Ev
/- The operations that change memory, 3: append and copy, over the evaluator's memory. -/
namespace Go.Ev
section
variable {P : Program} {G : Γ} (hG : GOk P G) {ρ : Ren}

theorem Ext.drop {h h' : H} {w : World} (hn : h'.next = h.next) (hsub : ∀ b o, h'.tr.get b = some o → h.tr.get b = some o) : Ext ρ h w ρ h' w where
  next := by omega
  agree _ _ := rfl
  size := Nat.le_refl _
  frame _ _ _ := rfl
  origin b o L hb hL _ := ⟨b, o, L, hsub b o hb, hL, rfl, id⟩
  tape := rfl
  os := rfl
  output := rfl

theorem mkO_oRel {e : Option TypeId} {l : List V} {row : Array Value} {elem : TypeId} {lo hi d B z : Nat} (hz : row.size = z) (hd : d + l.length ≤ z) (hfz : ∀ i, i < z → ¬ (lo ≤ i ∧ i < hi)) (he : ∀ e', e = some e' → elem = e' ∧ d = 0)
    (hr : ∀ (i : Nat) (v : V) (x : Value), l[i]? = some v → row[d + i]? = some x → Rel ρ v x) (h1 : ∀ (i : Nat) (x : Value), i < l.length → row[d + i]? = some x → one x = true) : ORel ρ (mkO e l) (B, d, z) (.cells row elem (lo, hi)) := by
  obtain ⟨pat, tr, q1, q2⟩ := mkO_eq e l
  rw [q1]
  exact ⟨row, elem, lo, hi, rfl, hz, hd, hfz, he, h1, fun i v x hv hx => hr i v x (q2 i v hv) hx⟩

/-- a new row, of a capacity that is not known -/
theorem grow_sim {h : H} {w w' : World} (hs : Sim ρ h w) {s need k : Nat} {l : List V} {e : Option TypeId} {elem : TypeId} {row : Array Value} (hw : WAdd w w' (.cells row elem)) (hrow : row.size = k * s) (hneed : need ≤ k) (hl : l.length = need * s)
    (hr : ∀ (i : Nat) (v : V) (x : Value), l[i]? = some v → row[i]? = some x → Rel ρ v x) (h1 : ∀ (i : Nat) (x : Value), i < l.length → row[i]? = some x → one x = true) (he : ∀ e', e = some e' → elem = e') :
    Sim (ρ.with h.next (w.heap.size, 0, k * s)) (h.add (mkO e l)) w' ∧ Ext ρ h w (ρ.with h.next (w.heap.size, 0, k * s)) (h.add (mkO e l)) w' ∧
      Rel (ρ.with h.next (w.heap.size, 0, k * s)) (.slice h.next 0 need (.atl need s)) (.slice (some ⟨w.heap.size, 0, none⟩) need k) := by
  have hlt : need * s ≤ k * s := Nat.mul_le_mul_right s hneed
  have hle := Ren.le_with ρ (w.heap.size, 0, k * s) hs.fresh
  have hother : ∀ B, B < w.heap.size → w'.heap[B]? = w.heap[B]? := fun B hB => by
    rw [hw.heap, Array.getElem?_push, if_neg (by omega)]
  refine ⟨?_, ?_, ?_⟩
  · refine hs.add (o' := mkO e l) (L := (w.heap.size, 0, k * s)) (c' := .cells row elem) hs.fresh (by simp) (by simp) (fun x => H.add_get h _ x) rfl ?_ ?_ hother
    · simp [hw.heap]
    · exact (mkO_oRel (lo := 0) (hi := 0) hrow (by omega) (fun i _ => by omega) (fun e' q => ⟨he e' q, rfl⟩) (fun i v x a b => hr i v x a (by simpa using b)) (fun i x a b => h1 i x a (by simpa using b))).mono hle
  · refine Ext.add (o' := mkO e l) (L := (w.heap.size, 0, k * s)) (Nat.le_refl _) (by simp) (fun x => H.add_get h _ x) rfl ?_ hother hw.tape hw.os hw.output
    rw [hw.heap]; simp
  · have := Rel.sliceA (ρ := ρ.with h.next (w.heap.size, 0, k * s)) (b := h.next) (o := 0) (len := need) (m := need) (es := s) (k := k) (Ren.with_same ..) hneed (by omega)
    exact this

/-- the row where it was, under a new number -/
theorem move_sim {h : H} {w w' : World} (hs : Sim ρ h w) {b B d z o : Nat} (hb : ρ b = some (B, d, z)) {ob : O} (ho : h.tr.get b = some ob) (hrw : ob.rw = true) {c' : Obj} (hw : WSet w w' B c') {ob' : O} (hor : ORel ρ ob' (B, d + o, z) c') :
    Sim (ρ.with h.next (B, d + o, z)) ((h.set b none).add ob') w' ∧ Ext ρ h w (ρ.with h.next (B, d + o, z)) ((h.set b none).add ob') w' := by
  have hfr := hs.fresh
  have hle := Ren.le_with ρ (B, d + o, z) hfr
  have hbn : b ≠ h.next := fun e => by rw [e, hfr] at hb; cases hb
  have get : ∀ x, ((h.set b none).add ob').tr.get x = if x = h.next then some ob' else if x = b then none else h.tr.get x := fun x => by simp
  refine ⟨⟨hs.glob.mono hle, fun x Lx hx => ?_, fun x ox hx => ?_, fun x y ox oy Lx Ly hx hy hLx hLy he => ?_⟩, ⟨by simp, fun x hx => Ren.with_ne ρ _ (by omega), by rw [hw.size]; omega, fun B' hB' hn => ?_, fun x ox Lx hx hLx hlt => ?_, hw.tape, hw.os, hw.output⟩⟩
  · by_cases e : x = h.next
    · subst e; simp
    · rw [Ren.with_ne ρ _ e] at hx
      have := hs.dom x Lx hx
      simp; omega
  · rw [get] at hx
    by_cases e : x = h.next
    · rw [if_pos e] at hx; cases hx
      exact ⟨_, c', by rw [e]; exact Ren.with_same .., hw.here, hor.mono hle⟩
    · rw [if_neg e] at hx
      by_cases e2 : x = b
      · rw [if_pos e2] at hx; cases hx
      · rw [if_neg e2] at hx
        obtain ⟨Lx, cx, a1, a2, a3⟩ := hs.live x ox hx
        refine ⟨Lx, cx, hle _ _ a1, ?_, a3.mono hle⟩
        rw [hw.other _ fun q => e2 (hs.inj x b ox ob Lx _ hx ho a1 hb q)]
        exact a2
  · have key : ∀ x ox Lx, x ≠ h.next → ((h.set b none).add ob').tr.get x = some ox → ρ.with h.next (B, d + o, z) x = some Lx → Lx.1 = B → False := by
      intro x ox Lx e hx hLx hq
      rw [get, if_neg e] at hx
      by_cases e2 : x = b
      · rw [if_pos e2] at hx; cases hx
      · rw [if_neg e2] at hx
        rw [Ren.with_ne ρ _ e] at hLx
        exact e2 (hs.inj x b ox ob Lx _ hx ho hLx hb hq)
    by_cases ex : x = h.next <;> by_cases ey : y = h.next
    · rw [ex, ey]
    · subst ex
      rw [Ren.with_same] at hLx; cases hLx
      exact absurd he.symm fun q => key y oy Ly ey hy hLy q
    · subst ey
      rw [Ren.with_same] at hLy; cases hLy
      exact absurd he fun q => key x ox Lx ex hx hLx q
    · rw [get, if_neg ex] at hx
      rw [get, if_neg ey] at hy
      rw [Ren.with_ne ρ _ ex] at hLx
      rw [Ren.with_ne ρ _ ey] at hLy
      by_cases e2 : x = b
      · rw [if_pos e2] at hx; cases hx
      · rw [if_neg e2] at hx
        by_cases e3 : y = b
        · rw [if_pos e3] at hy; cases hy
        · rw [if_neg e3] at hy
          exact hs.inj x y ox oy Lx Ly hx hy hLx hLy he
  · exact hw.other _ fun q => hn b ob _ ho hrw hb q.symm
  · rw [get] at hx
    by_cases e : x = h.next
    · subst e
      rw [Ren.with_same] at hLx; cases hLx
      exact ⟨b, ob, _, ho, hb, rfl, fun _ => hrw⟩
    · rw [if_neg e] at hx
      rw [Ren.with_ne ρ _ e] at hLx
      by_cases e2 : x = b
      · rw [if_pos e2] at hx; cases hx
      · rw [if_neg e2] at hx
        exact ⟨x, ox, Lx, hx, hLx, rfl, id⟩

theorem rep_get {α : Type} (l : List α) : ∀ (n i : Nat), (rep n l)[i]? = if i < n * l.length then l[i % l.length]? else none
  | 0, i => by simp [rep]
  | n + 1, i => by
    simp only [rep]
    rw [List.getElem?_append]
    by_cases h : i < l.length
    · rw [if_pos h, if_pos (by rw [Nat.succ_mul]; omega), Nat.mod_eq_of_lt h]
    · rw [if_neg h, rep_get l n]
      have hm : i % l.length = (i - l.length) % l.length := by
        rw [Nat.mod_eq_sub_mod (by omega)]
      by_cases h2 : i - l.length < n * l.length
      · rw [if_pos h2, if_pos (by rw [Nat.succ_mul]; omega), hm]
      · rw [if_neg h2, if_neg (by rw [Nat.succ_mul]; omega)]
theorem rep_len {α : Type} (l : List α) : ∀ (n : Nat), (rep n l).length = n * l.length
  | 0 => by simp [rep]
  | n + 1 => by simp only [rep, List.length_append, rep_len l n, Nat.succ_mul]; omega
theorem zeroCells_size (z : Array Value) (n : Nat) : (Builtin.zeroCells z n).size = n * z.size := by simp [Builtin.zeroCells]
theorem zeroCells_get (z : Array Value) (n i : Nat) (x : Value) (h : (Builtin.zeroCells z n)[i]? = some x) : z[i % z.size]? = some x := by
  have hi : i < n * z.size := by
    have := (Array.getElem?_eq_some_iff.1 h).1
    rwa [zeroCells_size] at this
  have hz : 0 < z.size := Nat.pos_of_ne_zero fun e => by rw [e] at hi; simp at hi
  have hm : i % z.size < z.size := Nat.mod_lt _ hz
  unfold Builtin.zeroCells at h
  simp [hi, hm] at h
  simp [hm, h]

theorem news_run (hG : GOk P G) {h : H} {w : World} (hs : Sim ρ h w) {elem tx : TypeId} {te xt : TY} (hte : G.ty elem = some te) (htx : G.ty tx = some xt) {zs : Bool} (hzs : isInt xt.desc = some zs) {y : V} {cy : Value} {n : Nat} {l : List V} (hn : news te zs h y = some (n, l)) (hy : Rel ρ y cy)
    {i : TypeInfo} {z : Value} (hi : P.info? elem = some i) (hb : i.bytes ≤ 1048576) (hz : i.zero = some z) (hsz : i.size = te.size) :
    ∃ cs, Appd P tx cy i z n cs w ∧ Rels ρ l cs ∧ (∀ x ∈ cs, one x = true) ∧ l.length = n * te.size := by
  have ht := hG.types _ _ htx
  unfold news at hn
  split at hn
  · obtain ⟨f1, f2, f3⟩ := firstCells_run (P := P) hs hn hy
    obtain ⟨cs, c1, c2, c3⟩ := f3 n (Nat.le_refl _)
    rw [List.take_of_length_le (by omega)] at c2
    refine ⟨cs.toList, ⟨.inl ⟨xt.desc, ht.under, hzs, f1, fun w' hw' => ?_⟩⟩, c2, c3, f2⟩
    rw [hsz, Array.toArray_toList]
    exact c1 w' hw'
  · split at hn
    · rename_i k zv hzc
      split at hn
      · rename_i hle
        have hle := Nat.le_of_ble_eq_true hle
        cases hn
        cases hy
        obtain ⟨z1, c, c1, c2, c3, c4⟩ := zcells_run (hG.types _ _ hte) hzc
        have hcz : c = z := by
          have a := c1 w
          simp [zeroValue, typeInfo, hi, hz] at a
          exact a.symm
        subst hcz
        obtain ⟨kd, hkd⟩ : ∃ kd, xt.desc = .int kd := by
          cases hd : xt.desc <;> rw [hd] at hzs <;> simp [isInt] at hzs
          exact ⟨_, rfl⟩
        refine ⟨_, ⟨.inr ⟨kd, .i64, by rw [ht.under, hkd], rfl, hle, hb, rfl⟩⟩, ?_, ?_, by rw [rep_len, z1]⟩
        · by_cases h0 : n * i.size = 0
          · rw [if_pos h0]
            have : rep n zv = [] := List.length_eq_zero_iff.1 (by rw [rep_len, z1, ← hsz, h0])
            rw [this]; exact Rels.nil
          · rw [if_neg h0]
            refine ⟨by rw [Array.length_toList, zeroCells_size, rep_len, c2, z1], fun j v x hv hx => ?_⟩
            rw [rep_get] at hv
            split at hv
            · have hx := zeroCells_get _ _ _ _ (by rw [Array.getElem?_toList] at hx; exact hx)
              rw [c2, ← z1] at hx
              exact (c3 ρ).2 _ v x hv (by rw [Array.getElem?_toList]; exact hx)
            · cases hv
        · intro x hx
          split at hx
          · simp at hx
          · obtain ⟨j, hj⟩ := List.getElem?_of_mem hx
            have := zeroCells_get _ _ _ _ (by rw [Array.getElem?_toList] at hj; exact hj)
            exact c4 x (by
              have := Array.mem_of_getElem? this
              simpa using this)
      · cases hn
    · cases hn
end
end Go.Ev
/- The operations that change memory, 4: append and copy. -/
namespace Go.Ev
section
variable {P : Program} {G : Γ} (hG : GOk P G) {ρ : Ren}

/-- what is known of an append's element type -/
structure Elem (P : Program) (elem : TypeId) (te : TY) (i : TypeInfo) (z : Value) : Prop where
  info : P.info? elem = some i
  bytes : i.bytes ≤ 1048576
  zero : i.zero = some z
  size : i.size = te.size
  cells : z.cells.size = te.size
theorem GOk.elem (hG : GOk P G) {elem : TypeId} {te : TY} (h : G.ty elem = some te) : ∃ i z, Elem P elem te i z := by
  obtain ⟨i, z, a, b, c, d, _⟩ := hG.big _ _ h
  obtain ⟨j, j1, j2, _⟩ := (hG.types _ _ h).info
  rw [a] at j1; cases j1
  exact ⟨i, z, a, b, c, j2, by rw [d, j2]⟩

theorem grow_case {h h' : H} {w : World} (hs : Sim ρ h w) {t tx ty' elem : TypeId} {te : TY} {i : TypeInfo} {z : Value} (hE : Elem P elem te i z) (ht : P.underlying t = some (.slice elem)) {base : Option Addr} {len k n : Nat} (hroom : ¬ len + n ≤ k) {e : Option TypeId}
    (he : ∀ e', e = some e' → elem = e') {old new : List V} {v : V} (hg : grown h e te.size (len + n) (old ++ new) = some (v, h')) {olds : Array Value} (hold : ∀ w', w'.heap = w.heap → (Builtin.firstCells i.size len (.slice base len k)).run P w' = .ok olds w')
    (hR0 : Rels ρ old olds.toList) (h10 : ∀ x ∈ olds.toList, one x = true) (hl0 : old.length = len * te.size) {cy : Value} {news : List Value} (hA : Appd P tx cy i z n news w) (hR : Rels ρ new news) (h1 : ∀ x ∈ news, one x = true) (hlen : new.length = n * te.size) :
    DoesV P (Builtin.append_ #[t, tx] ty' #[.slice base len k, cy]) ρ h w v h' := by
  unfold grown at hg
  split at hg
  · rename_i hb
    simp only [Bool.and_eq_true] at hb
    have hsmall := Nat.le_of_ble_eq_true hb.1
    cases hg
    obtain ⟨kk, w', k1, k2, k3⟩ := append_grow (P := P) (tx := tx) (ty := ty') ht hE.info hE.zero (olds := olds.toList) hA hroom hsmall hE.bytes (by rw [Array.toArray_toList]; exact hold)
    have hlo : olds.toList.length = len * te.size := by rw [hR0.1, hl0]
    have hln : news.length = n * te.size := by rw [hR.1, hlen]
    have hRR : Rels ρ (old ++ new) (olds.toList ++ news) := hR0.append hR
    have hll : (old ++ new).length = (len + n) * te.size := by rw [List.length_append, hl0, hlen, Nat.add_mul]
    have hlc : (olds.toList ++ news).length = (len + n) * te.size := by rw [List.length_append, hlo, hln, Nat.add_mul]
    have hrow : ((olds.toList ++ news).toArray ++ Builtin.zeroCells z.cells (kk - (len + n))).size = kk * te.size := by
      rw [Array.size_append, zeroCells_size, hE.cells, List.size_toArray, hlc, ← Nat.add_mul]
      congr 1; omega
    have hget : ∀ (j : Nat) (x : Value), j < (old ++ new).length → ((olds.toList ++ news).toArray ++ Builtin.zeroCells z.cells (kk - (len + n)))[j]? = some x → (olds.toList ++ news)[j]? = some x := by
      intro j x hj hx
      rw [Array.getElem?_append_left (by rw [List.size_toArray, hlc, ← hll]; exact hj)] at hx
      simpa using hx
    obtain ⟨s1, s2, s3⟩ := grow_sim hs k3 hrow k1 hll (e := e) (fun j v x hv hx => hRR.2 j v x hv (hget j x (List.getElem?_eq_some_iff.1 hv).1 hx)) (fun j x hj hx => by
      have hm := List.mem_of_getElem? (hget j x hj hx)
      rcases List.mem_append.1 hm with q | q
      · exact h10 x q
      · exact h1 x q) he
    exact ⟨_, _, w', k2, s1, s2, s3⟩
  · cases hg

theorem append2_does {h h' : H} {w : World} (hs : Sim ρ h w) {t tx ty' elem : TypeId} {te : TY} {i : TypeInfo} {z : Value} (hE : Elem P elem te i z) (ht : P.underlying t = some (.slice elem)) {x : V} {cx : Value} {n : Nat} {new : List V} {v : V}
    (ha : append2 elem te h x n new = some (v, h')) (hx : Rel ρ x cx) {cy : Value} {news : List Value} (hA : Appd P tx cy i z n news w) (hR : Rels ρ new news) (h1 : ∀ x ∈ news, one x = true) (hlen : new.length = n * te.size) :
    DoesV P (Builtin.append_ #[t, tx] ty' #[cx, cy]) ρ h w v h' := by
  have hln : news.length = n * te.size := by rw [hR.1, hlen]
  unfold append2 at ha
  split at ha
  · cases hx
    split at ha
    · rename_i hn
      rw [T.beq_true] at hn
      subst hn
      cases ha
      have := append_room (P := P) (w' := w) (t := t) (tx := tx) (ty := ty') ht hE.info hE.zero (base := none) (sLen := 0) (sCap := 0) hA (Nat.le_refl _) rfl
      exact ⟨ρ, _, w, this, hs, Ext.refl _ _ _, .nils⟩
    · rename_i hn
      have hn : n ≠ 0 := fun q => by rw [q] at hn; simp at hn
      refine grow_case hs hE ht (by omega) (old := []) (olds := #[]) (e := some elem) (fun e' q => by cases q; rfl) (by rw [Nat.zero_add]; exact ha) (fun w' _ => rfl) Rels.nil (fun x hx => by simp at hx) (by simp) hA hR h1 hlen
  · rename_i b o len c
    cases hx with
    | sliceK hb =>
      rename_i B d zz
      split at ha
      · rename_i hle
        have hle : len + n ≤ c := Nat.le_of_ble_eq_true hle
        split at ha
        · rename_i h'' hp
          cases ha
          obtain ⟨w', r1, r2, r3⟩ := putCells_run (P := P) hs hp hb hR h1
          have := append_room (P := P) (w' := w') (t := t) (tx := tx) (ty := ty') ht hE.info hE.zero (base := some ⟨B, d + o, none⟩) (sLen := len) (sCap := c) hA hle (by
            show Sem.run P (storeCells ((⟨B, d + o, none⟩ : Addr).add (len * i.size)) news) w = Result.ok () w'
            rw [Addr.add_off, hE.size, Nat.add_assoc]
            exact r1)
          exact ⟨ρ, _, w', this, r2, r3, .sliceK hb⟩
        · cases ha
      · rename_i hle
        have hle : ¬ len + n ≤ c := fun q => by rw [show Nat.ble (Nat.add len n) c = true from Nat.ble_eq_true_of_le q] at hle; cases hle
        split at ha
        · rename_i old hg
          obtain ⟨olds, o1, o2, o3, o4⟩ := rGather_run (P := P) hs hg hb
          refine grow_case hs hE ht hle (olds := olds) (e := some elem) (fun e' q => by cases q; rfl) ha (fun w' hw' => by rw [hE.size]; exact o1 w' hw') o2 o4 (rGather_len hg) hA hR h1 hlen
        · cases ha
  · rename_i b o len c es
    split at ha
    · cases ha
    · rename_i hes
      rw [T.beq_true] at hes
      subst hes
      split at ha
      · rename_i hle
        have hle : len + n ≤ c := Nat.le_of_ble_eq_true hle
        split at ha
        · rename_i h'' hp
          cases ha
          cases hx with
          | sliceA hb hm hz =>
            rename_i k B d zz
            obtain ⟨w', r1, r2, r3⟩ := putCells_run (P := P) hs hp hb hR h1
            have := append_room (P := P) (w' := w') (t := t) (tx := tx) (ty := ty') ht hE.info hE.zero (base := some ⟨B, d + o, none⟩) (sLen := len) (sCap := k) hA (by omega) (by
              show Sem.run P (storeCells ((⟨B, d + o, none⟩ : Addr).add (len * i.size)) news) w = Result.ok () w'
              rw [Addr.add_off, hE.size, Nat.add_assoc]
              exact r1)
            exact ⟨ρ, _, w', this, r2, r3, .sliceA hb hm hz⟩
          | sliceZ a =>
            have hn : n = 0 := by omega
            subst hn
            have hne : new = [] := List.length_eq_zero_iff.1 (by rw [hlen]; simp)
            subst hne
            have hnn := hR.of_nil
            subst hnn
            obtain ⟨r2, r3⟩ := putCells_nil hs hp
            have := append_room (P := P) (w' := w) (t := t) (tx := tx) (ty := ty') ht hE.info hE.zero (base := some a) (sLen := 0) (sCap := 0) hA (by omega) rfl
            exact ⟨ρ, _, w, this, r2, r3, .sliceZ a⟩
        · cases ha
      · rename_i hle
        have hle : ¬ len + n ≤ c := fun q => by rw [show Nat.ble (Nat.add len n) c = true from Nat.ble_eq_true_of_le q] at hle; cases hle
        split at ha
        · rename_i e0 n0 pat0 tr0 old ho hg
          have hsub : ∀ b' o', (h.set b none).tr.get b' = some o' → h.tr.get b' = some o' := fun b' o' q => by
            simp only [H.set_get] at q
            split at q
            · cases q
            · exact q
          have hs0 : Sim ρ (h.set b none) w := hs.sub (Nat.le_refl _) hsub
          have hx0 : Ext ρ h w ρ (h.set b none) w := Ext.drop rfl hsub
          have hse0 : ∀ e', sameE e0 elem = some e' → elem = e' := fun e' q => by
            unfold sameE at q
            split at q
            · split at q
              · cases q; rfl
              · cases q
            · cases q
          have hso : ∀ e', sameE0 o e0 elem = some e' → o = 0 ∧ sameE e0 elem = some e' := fun e' q => by
            unfold sameE0 at q
            split at q
            · rename_i hb0
              exact ⟨by simpa using hb0, q⟩
            · cases q
          have hse : ∀ e', sameE0 o e0 elem = some e' → elem = e' := fun e' q => hse0 e' (hso e' q).2
          cases hx with
          | sliceA hb hm hz =>
            rename_i k B d zz
            obtain ⟨olds, o1, o2, o3, o4⟩ := rGather_run (P := P) hs hg hb
            by_cases hk : len + n ≤ k
            · -- in place
              obtain ⟨L, c0, l1, l2, l3⟩ := hs.live b _ ho
              rw [hb] at l1; cases l1
              obtain ⟨cs, el, lo, hi, rfl, a1, a2, a3, a4, a5⟩ := l3
              simp only at a1 a2 a3 a5 l2
              have hkz : (len + n) * te.size ≤ k * te.size := Nat.mul_le_mul_right _ hk
              rw [Nat.add_mul] at hkz
              obtain ⟨w', cs', e1, e2, e3, e4⟩ := storeCells_run (P := P) (B := B) (off := d + o + len * te.size) news 0 cs w l2 (fun q hq => a3 q (by omega)) (by omega) h1
              have hr := append_room (P := P) (w' := w') (t := t) (tx := tx) (ty := ty') ht hE.info hE.zero (base := some ⟨B, d + o, none⟩) (sLen := len) (sCap := k) hA hk (by
                show Sem.run P (storeCells ((⟨B, d + o, none⟩ : Addr).add (len * i.size)) news) w = Result.ok () w'
                rw [Addr.add_off, hE.size]
                exact e1)
              have hl0 : old.length = len * te.size := rGather_len hg
              have o3 : olds.size = len * te.size := o3
              have hexo : olds = cs.extract (d + o) (d + o + len * te.size) := by
                have q1 : (loadCells ⟨B, d + o, none⟩ (len * te.size)).run P w = .ok olds w := o1 w rfl
                rw [loadCells_run (P := P) (off := d + o) (k := len * te.size) l2 (by omega)] at q1
                cases q1; rfl
              unfold grown at ha
              split at ha
              · cases ha
                have hll : (old ++ new).length = (len + n) * te.size := by rw [List.length_append, hl0, hlen, Nat.add_mul]
                have hll' : (old ++ new).length = len * te.size + n * te.size := by rw [hll, Nat.add_mul]
                have hcell : ∀ (j : Nat) (x : Value), j < (old ++ new).length → cs'[d + o + j]? = some x → (olds.toList ++ news)[j]? = some x := by
                  intro j x hj hx
                  have hz0 : olds.toList.length = len * te.size := by rw [Array.length_toList, o3]
                  rw [e4] at hx
                  by_cases hjl : j < len * te.size
                  · rw [if_neg (by omega)] at hx
                    rw [List.getElem?_append_left (by omega), Array.getElem?_toList, hexo, Array.getElem?_extract, if_pos (by omega)]
                    exact hx
                  · rw [if_pos (by omega)] at hx
                    rw [List.getElem?_append_right (by omega), hz0]
                    rw [show d + o + j - (d + o + len * te.size + 0) = j - len * te.size by omega] at hx
                    exact hx
                have hRR := o2.append hR
                have hor : ORel ρ (mkO (sameE0 o e0 elem) (old ++ new)) (B, d + o, zz) (.cells cs' el (lo, hi)) := by
                  refine mkO_oRel (by rw [e3]; exact a1) (by omega) a3 (fun e' q => ?_) (fun j v x hv hx => hRR.2 j v x hv (hcell j x (List.getElem?_eq_some_iff.1 hv).1 hx)) (fun j x hj hx => ?_)
                  · have q2 := hse e' q
                    subst q2
                    obtain ⟨q0, q⟩ := hso _ q
                    unfold sameE at q
                    split at q
                    · rename_i t' 
                      split at q
                      · rename_i hb2
                        rw [T.beq_true] at hb2
                        subst hb2
                        have a4 := a4 _ rfl
                        exact ⟨a4.1, by have := a4.2; simp only at this; omega⟩
                      · cases q
                    · cases q
                  · have hm := List.mem_of_getElem? (hcell j x hj hx)
                    rcases List.mem_append.1 hm with q | q
                    · exact o4 x q
                    · exact h1 x q
                obtain ⟨m1, m2⟩ := move_sim hs hb ho rfl e2 hor
                refine ⟨_, _, w', hr, m1, m2, ?_⟩
                have := Rel.sliceA (ρ := ρ.with h.next (B, d + o, zz)) (b := h.next) (o := 0) (len := len + n) (m := len + n) (es := te.size) (k := k) (Ren.with_same ..) hk (by simpa using hz)
                exact this
              · cases ha
            · obtain ⟨ρ', c', w', g1, g2, g3, g4⟩ := grow_case (P := P) (t := t) (tx := tx) (ty' := ty') hs0 hE ht (base := some ⟨B, d + o, none⟩) hk hse ha (olds := olds) (fun w' hw' => by rw [hE.size]; exact o1 w' hw') o2 o4 (rGather_len hg) hA hR h1 hlen
              exact ⟨ρ', c', w', g1, g2, hx0.trans g3, g4⟩
          | sliceZ a =>
            have hl0 : old.length = 0 * te.size := rGather_len hg
            have hold : old = [] := List.length_eq_zero_iff.1 (by rw [hl0]; simp)
            subst hold
            obtain ⟨ρ', c', w', g1, g2, g3, g4⟩ := grow_case (P := P) (t := t) (tx := tx) (ty' := ty') hs0 hE ht (base := some a) (len := 0) (k := 0) hle hse ha (olds := #[]) (fun w' hw' => by simp [Builtin.firstCells, loadCells, loadCellsFrom]) Rels.nil (fun x hx => by simp at hx) (by simp) hA hR h1 hlen
            exact ⟨ρ', c', w', g1, g2, hx0.trans g3, g4⟩
        · cases ha
  · cases ha
theorem fAppend_does (hG : GOk P G) {h h' : H} {w : World} (hs : Sim ρ h w) {t tx ty' : TypeId} {x y : Option V} {cx cy : Value} {v : V} (hf : fAppend G (G.ty t) (G.ty tx) h x y = some (v, h')) (hx : ∀ a, x = some a → Rel ρ a cx) (hy : ∀ a, y = some a → Rel ρ a cy) :
    DoesV P (Builtin.append_ #[t, tx] ty' #[cx, cy]) ρ h w v h' := by
  unfold fAppend at hf
  split at hf
  · rename_i ty xt x y hty htx
    split at hf
    · rename_i elem e1
      split at hf
      · rename_i te hte
        split at hf
        · rename_i zs hzs
          split at hf
          · rename_i n l hn
            obtain ⟨i, z, hE⟩ := hG.elem hte
            obtain ⟨news, A, R, O1, L⟩ := news_run (P := P) (w := w) hG hs hte htx hzs hn (hy _ rfl) hE.info hE.bytes hE.zero hE.size
            exact append2_does hs hE (by rw [(hG.types _ _ hty).under, e1]) hf (hx _ rfl) A R O1 L
          · cases hf
        · cases hf
      · cases hf
    · cases hf
  · cases hf
theorem fCopy_does (hG : GOk P G) {h h' : H} {w : World} (hs : Sim ρ h w) {t tx ty' : TypeId} {x y : Option V} {cx cy : Value} {v : V} (hf : fCopy G (G.ty t) h x y = some (v, h')) (hx : ∀ a, x = some a → Rel ρ a cx) (hy : ∀ a, y = some a → Rel ρ a cy) :
    DoesV P (Builtin.copy_ #[t, tx] ty' #[cx, cy]) ρ h w v h' := by
  unfold fCopy at hf
  split at hf
  · rename_i ty x y hty
    split at hf
    · rename_i elem e1
      split at hf
      · rename_i te hte
        split at hf
        · rename_i n l hn
          have ht := hG.types _ _ hty
          have hte' := hG.types _ _ hte
          obtain ⟨f1, f2, f3⟩ := firstCells_run (P := P) hs hn (hy _ rfl)
          have hx := hx _ rfl
          split at hf
          · cases hf
            cases hx
            obtain ⟨cs, c1, _⟩ := f3 0 (Nat.zero_le _)
            refine ⟨ρ, _, w, ?_, hs, Ext.refl _ _ _, .int _ _⟩
            have c1 := c1 w rfl
            simp [Builtin.copy_, ht.run_underlying, e1, f1, hte'.run_sizeOf, c1, goInt]
          · rename_i b o len cap _
            split at hf
            · rename_i l' hl'
              split at hf
              · rename_i h'' hp
                cases hf
                obtain ⟨t1, t2⟩ := takeN_eq _ _ _ hl'
                obtain ⟨cs, c1, c2, c3⟩ := f3 (min n len) (Nat.min_le_left _ _)
                have c1 := c1 w rfl
                have t1 : l' = l.take (min n len * te.size) := t1
                rw [← t1] at c2
                have main : ∀ (B d z k : Nat), ρ b = some (B, d, z) → DoesV P (Builtin.copy_ #[t, tx] ty' #[.slice (some ⟨B, d + o, none⟩) len k, cy]) ρ h w (.int .i64 (Int.ofNat (min n len))) h' := by
                  intro B d z k hb
                  obtain ⟨w', r1, r2, r3⟩ := putCells_run (P := P) hs hp hb c2 c3
                  refine ⟨ρ, _, w', ?_, r2, r3, .int _ _⟩
                  simp [Builtin.copy_, ht.run_underlying, e1, f1, hte'.run_sizeOf, c1, goInt, r1]
                cases hx with
                | sliceK hb => exact main _ _ _ _ hb
                | sliceA hb _ _ => exact main _ _ _ _ hb
                | sliceZ a =>
                  have hl0 : l' = [] := List.length_eq_zero_iff.1 (by rw [t1]; simp)
                  rw [hl0] at hp c2
                  have hc0 := c2.of_nil
                  obtain ⟨r2, r3⟩ := putCells_nil hs hp
                  refine ⟨ρ, _, w, ?_, r2, r3, .int _ _⟩
                  simp at c1
                  simp [Builtin.copy_, ht.run_underlying, e1, f1, hte'.run_sizeOf, c1, goInt, hc0, storeCells]
              · cases hf
            · cases hf
          · cases hf
        · cases hf
      · cases hf
    · cases hf
  · cases hf
end
end Go.Ev
/- The operations that change memory, 5: maps and iterators. -/
namespace Go.Ev

theorem modN_get {α : Type} (f : α → α) : ∀ (i : Nat) (l : List α) (j : Nat), (modN f i l)[j]? = if j = i then l[j]?.map f else l[j]?
  | i, [], j => by simp [modN]
  | 0, x :: l, j => by cases j <;> simp [modN]
  | i + 1, x :: l, j => by
    cases j with
    | zero => simp [modN]
    | succ j => simp [modN, modN_get f i l j]
theorem modN_len {α : Type} (f : α → α) : ∀ (i : Nat) (l : List α), (modN f i l).length = l.length
  | i, [] => by simp [modN]
  | 0, x :: l => by simp [modN]
  | i + 1, x :: l => by simp [modN, modN_len f i l]
theorem delN_eq {α : Type} : ∀ (i : Nat) (l : List α), delN i l = l.eraseIdx i
  | i, [] => by simp [delN]
  | 0, x :: l => by simp [delN]
  | i + 1, x :: l => by simp [delN, delN_eq i l]

section
variable {P : Program} {G : Γ} (hG : GOk P G) {ρ : Ren}

theorem EntR.oRel {es : List (V × V × Nat)} {es' : Array MapEntry} (h : EntR ρ es es'.toList) (clock : Nat) (L : Nat × Nat × Nat) : ORel ρ (.map es clock) L (.map es' clock) :=
  ⟨es', rfl, by simpa using h.1, fun i e e' he he' => h.2 i e e' he (by simpa using he')⟩
theorem EntR.modify {es : List (V × V × Nat)} {es' : Array MapEntry} (h : EntR ρ es es'.toList) {i : Nat} {f : V × V × Nat → V × V × Nat} {f' : MapEntry → MapEntry}
    (hf : ∀ e e', es[i]? = some e → es'[i]? = some e' → Rel ρ (f e).1 (f' e').key ∧ Rel ρ (f e).2.1 (f' e').val ∧ (f' e').born = (f e).2.2) : EntR ρ (modN f i es) (es'.modify i f').toList := by
  refine ⟨by rw [modN_len, Array.length_toList, Array.size_modify]; simpa using h.1, fun j e e' he he' => ?_⟩
  rw [modN_get] at he
  rw [Array.getElem?_toList, Array.getElem?_modify] at he'
  by_cases hj : j = i
  · subst hj
    rw [if_pos rfl] at he
    rw [if_pos rfl] at he'
    simp only [Option.map_eq_some_iff] at he he'
    obtain ⟨a, a1, rfl⟩ := he
    obtain ⟨b, b1, rfl⟩ := he'
    exact hf a b a1 b1
  · rw [if_neg hj] at he
    rw [if_neg (fun q => hj q.symm)] at he'
    exact h.2 j e e' he (by rw [Array.getElem?_toList]; exact he')
theorem EntR.push {es : List (V × V × Nat)} {es' : Array MapEntry} (h : EntR ρ es es'.toList) {k v : V} {ck cv : Value} (hk : Rel ρ k ck) (hv : Rel ρ v cv) (clock : Nat) :
    EntR ρ (es ++ [(k, v, clock)]) (es'.push { key := ck, val := cv, born := clock }).toList := by
  have hl : es'.size = es.length := by simpa using h.1
  refine ⟨by simp [hl], fun j e e' he he' => ?_⟩
  rw [Array.toList_push] at he'
  by_cases hj : j < es.length
  · rw [List.getElem?_append_left hj] at he
    rw [List.getElem?_append_left (by rw [Array.length_toList]; omega)] at he'
    exact h.2 j e e' he he'
  · rw [List.getElem?_append_right (by omega)] at he
    rw [List.getElem?_append_right (by rw [Array.length_toList]; omega), Array.length_toList, hl] at he'
    cases hq : j - es.length with
    | zero =>
      rw [hq] at he he'
      simp at he he'
      subst he; subst he'
      exact ⟨hk, hv, rfl⟩
    | succ q => rw [hq] at he; simp at he
theorem EntR.erase {es : List (V × V × Nat)} {es' : Array MapEntry} (h : EntR ρ es es'.toList) (i : Nat) : EntR ρ (delN i es) (es'.eraseIdxIfInBounds i).toList := by
  rw [delN_eq]
  have e : (es'.eraseIdxIfInBounds i).toList = es'.toList.eraseIdx i := by
    simp [Array.eraseIdxIfInBounds]
    split
    · simp
    · rename_i hi
      rw [List.eraseIdx_of_length_le]; simp; omega
  rw [e]
  have hl : es'.toList.length = es.length := h.1
  refine ⟨by simp only [List.length_eraseIdx, hl], fun j a a' ha ha' => ?_⟩
  rw [List.getElem?_eraseIdx] at ha ha'
  split at ha
  · rename_i hj
    rw [if_pos hj] at ha'
    exact h.2 j a a' ha ha'
  · rename_i hj
    rw [if_neg hj] at ha'
    exact h.2 (j + 1) a a' ha ha'

/-- is it a row of cells? -/
def isRow : Obj → Bool
  | .cells .. => true
  | _ => false
theorem getObj_run {w : World} {B : Nat} {c : Obj} (h : w.heap[B]? = some c) (hc : isRow c = false) : (getObj B).run P w = .ok c w := by
  cases c <;> first
    | (simp [isRow] at hc; done)
    | simp [getObj, Sem.run, h]
theorem setObj_run {w : World} {B : Nat} {c : Obj} (h : w.heap[B]? = some c) (hc : isRow c = false) (c' : Obj) : ∃ w', (setObj B c').run P w = .ok () w' ∧ WSet w w' B c' := by
  have hlt : B < w.heap.size := (Array.getElem?_eq_some_iff.1 h).1
  refine ⟨{ w with heap := w.heap.setIfInBounds B c' }, ?_, ⟨by simp [hlt], fun B' hB => by simp only; rw [Array.getElem?_setIfInBounds_ne (fun q => hB q.symm)], by simp, rfl, rfl, rfl⟩⟩
  cases c <;> first
    | (simp [isRow] at hc; done)
    | simp [setObj, Sem.run, h]
theorem setObj_sim {h : H} {w w0 : World} (hs : Sim ρ h w) {b : Nat} {L : Nat × Nat × Nat} (hb : ρ b = some L) {o o' : O} (ho : h.tr.get b = some o) (hw0 : w0.heap = w.heap) (ht : w0.tape = w.tape) (hos : w0.os = w.os) (hou : w0.output = w.output) {c c' : Obj} (hc : w.heap[L.1]? = some c) (hr : isRow c = false)
    (hor : ORel ρ o' L c') : ∃ w', (setObj L.1 c').run P w0 = .ok () w' ∧ Sim ρ (h.set b (some o')) w' ∧ Ext ρ h w ρ (h.set b (some o')) w' := by
  obtain ⟨w', e1, e2⟩ := setObj_run (P := P) (w := w0) (by rw [hw0]; exact hc) hr c'
  have hrw : o.rw = true := by
    obtain ⟨L', c1, l1, l2, l3⟩ := hs.live b o ho
    rw [hb] at l1; cases l1
    rw [hc] at l2; cases l2
    cases o <;> first
      | rfl
      | (obtain ⟨cs, el, fr, q, _⟩ := l3; subst q; simp [isRow] at hr)
  refine ⟨w', e1, hs.set ho hb e2.here hor fun B hB => by rw [e2.other B hB, hw0], Ext.set ho hb hrw (by rw [e2.size, hw0]) (fun B hB => by rw [e2.other B hB, hw0]) (by rw [e2.tape, ht]) (by rw [e2.os, hos]) (by rw [e2.output, hou])⟩

theorem keyStays (k : Value) (w : World) : ∃ w0, (Instr.keyThatStays k k).run P w = .ok k w0 ∧ w0.heap = w.heap ∧ w0.tape = w.tape ∧ w0.os = w.os ∧ w0.output = w.output := by
  unfold Instr.keyThatStays
  by_cases h : Instr.sameBits 10000 k k = true
  · exact ⟨w, by rw [if_pos h]; rfl, rfl, rfl, rfl, rfl⟩
  · refine ⟨w.drew, ?_, rfl, rfl, rfl, rfl⟩
    rw [if_neg h]
    simp [Question.forced]

theorem fUpdate_does (hG : GOk P G) {h h' : H} {w : World} (hs : Sim ρ h w) {t : TypeId} {m k x : Option V} {v : V} {cm ck cx : Value} (hf : fUpdate G h (G.ty t) m k x = some (v, h')) (hm : ∀ a, m = some a → Rel ρ a cm) (hk : ∀ a, k = some a → Rel ρ a ck) (hx : ∀ a, x = some a → Rel ρ a cx) :
    DoesU P (Instr.mapUpdate t cm ck cx) ρ h w v h' := by
  unfold fUpdate at hf
  split at hf
  · rename_i ty r k u hty
    have ht := hG.types _ _ hty
    have hm := hm _ rfl
    have hk := hk _ rfl
    have hx := hx _ rfl
    split at hf
    · rename_i kt et e1
      split at hf
      · rename_i es clock ho hok
        cases hm with
        | map hb =>
          rename_i B d z
          obtain ⟨es', m1, m2⟩ := map_of hs hb ho
          have hck := keyOk_check hG hok hk false w
          split at hf
          · rename_i i y hfk
            split at hf
            · rename_i hpl
              cases hf
              obtain ⟨r', r1, r2⟩ := findKey_run hG hk hok m2 hfk w
              cases r2 with
              | some h1 h2 =>
                rename_i j e'
                rw [Nat.zero_add] at *
                obtain ⟨q1, q2, q3⟩ := m2.2 _ _ _ h1 h2
                have hkk : ck = e'.key := eqPlain_eq hpl hk q1
                have hold : ((es'[j]?).map (·.key)).getD ck = ck := by
                  rw [Array.getElem?_toList] at h2
                  rw [h2]; simp [hkk]
                obtain ⟨w0, k1, k2, k3, k4, k5⟩ := keyStays (P := P) ck w
                obtain ⟨w', s1, s2, s3⟩ := setObj_sim (P := P) (w0 := w0) hs hb ho k2 k3 k4 k5 m1 rfl (EntR.oRel (m2.modify (f := fun y => (k, u, y.2.2)) (f' := fun e => { e with key := ck, val := cx }) (i := j) (fun a b ha hb => ⟨hk, hx, (m2.2 j a b ha (by rw [Array.getElem?_toList]; exact hb)).2.2⟩)) clock _)
                refine ⟨ρ, w', ?_, s2, s3, rfl⟩
                simp only [Instr.mapUpdate, Sem.run_bind, ht.run_underlying, e1, Result.andThen_ok, getObj_map m1, hck, r1, hold, k1]
                exact s1
            · cases hf
          · rename_i hfk
            cases hf
            obtain ⟨r', r1, r2⟩ := findKey_run hG hk hok m2 hfk w
            cases r2
            obtain ⟨w', s1, s2, s3⟩ := setObj_sim (P := P) (w0 := w) hs hb ho rfl rfl rfl rfl m1 rfl (EntR.oRel (m2.push hk hx clock) (clock + 1) _)
            refine ⟨ρ, w', ?_, s2, s3, rfl⟩
            simp only [Instr.mapUpdate, Sem.run_bind, ht.run_underlying, e1, Result.andThen_ok, getObj_map m1, hck, r1]
            exact s1
          · cases hf
      · cases hf
    · cases hf
  · cases hf
theorem fEntry_does (hG : GOk P G) {h h' : H} {w : World} (hs : Sim ρ h w) {t : TypeId} {m k : Option V} {v : V} {cm ck : Value} (hf : fEntry G h (G.ty t) m k = some (v, h')) (hm : ∀ a, m = some a → Rel ρ a cm) (hk : ∀ a, k = some a → Rel ρ a ck) :
    DoesV P (Instr.mapEntry t cm ck) ρ h w v h' := by
  unfold fEntry at hf
  split at hf
  · rename_i ty r k hty
    have ht := hG.types _ _ hty
    have hm := hm _ rfl
    have hk := hk _ rfl
    split at hf
    · rename_i kt et e1
      split at hf
      · rename_i es clock ho hok
        cases hm with
        | map hb =>
          rename_i B d z
          obtain ⟨es', m1, m2⟩ := map_of hs hb ho
          have hck := keyOk_check hG hok hk false w
          split at hf
          · rename_i i y hfk
            split at hf
            · rename_i hpl
              cases hf
              obtain ⟨r', r1, r2⟩ := findKey_run hG hk hok m2 hfk w
              cases r2 with
              | some h1 h2 =>
                rename_i j e'
                rw [Nat.zero_add] at *
                obtain ⟨q1, q2, q3⟩ := m2.2 _ _ _ h1 h2
                have hkk : ck = e'.key := eqPlain_eq hpl hk q1
                rw [Array.getElem?_toList] at h2
                have hold : ((es'[j]?).map (·.key)).getD ck = ck := by
                  rw [h2]; simp [hkk]
                obtain ⟨w0, k1, k2, k3, k4, k5⟩ := keyStays (P := P) ck w
                obtain ⟨w', s1, s2, s3⟩ := setObj_sim (P := P) (w0 := w0) hs hb ho k2 k3 k4 k5 m1 rfl (EntR.oRel (m2.modify (f := fun y => (k, y.2.1, y.2.2)) (f' := fun e => { e with key := ck }) (i := j) (fun a b ha hb =>
                  let q := m2.2 j a b ha (by rw [Array.getElem?_toList]; exact hb); ⟨hk, q.2.1, q.2.2⟩)) clock _)
                refine ⟨ρ, _, w', ?_, s2, s3, Rels.tup2 q2 (.int .i64 _)⟩
                simp only [Instr.mapEntry, Sem.run_bind, ht.run_underlying, e1, Result.andThen_ok, getObj_map m1, hck, r1, hold, k1]
                rw [show Sem.run P (setObj B (Obj.map (es'.modify j fun e => { key := ck, val := e.val, born := e.born }) clock)) w0 = Result.ok () w' from s1]
                simp [h2, q3, goInt]
            · cases hf
          · rename_i hfk
            split at hf
            · rename_i te hte
              split at hf
              · rename_i zv hz
                cases hf
                obtain ⟨c, c1, c2⟩ := (hG.types _ _ hte).run_zero hz
                obtain ⟨r', r1, r2⟩ := findKey_run hG hk hok m2 hfk w
                cases r2
                obtain ⟨w', s1, s2, s3⟩ := setObj_sim (P := P) (w0 := w) hs hb ho rfl rfl rfl rfl m1 rfl (EntR.oRel (m2.push hk (c2 ρ) clock) (clock + 1) _)
                refine ⟨ρ, _, w', ?_, s2, s3, Rels.tup2 (c2 ρ) (.int .i64 _)⟩
                simp only [Instr.mapEntry, Sem.run_bind, ht.run_underlying, e1, Result.andThen_ok, getObj_map m1, hck, r1, c1]
                rw [show Sem.run P (setObj B (Obj.map (es'.push { key := ck, val := c, born := clock }) (clock + 1))) w = Result.ok () w' from s1]
                simp [goInt]
              · cases hf
            · cases hf
          · cases hf
      · cases hf
    · cases hf
  · cases hf
theorem bornAt_run {st : Nat} : ∀ {es : List (V × V × Nat)} {es' : List MapEntry} {i0 i : Nat}, bornAt es st i0 = some i → EntR ρ es es' → ∃ j, i = i0 + j ∧ es'.findIdx? (fun e => (e.born : Int) == Int.ofNat st) = some j
  | [], _, _, _, h, _ => by simp [bornAt] at h
  | e :: es, es', i0, i, h, he => by
    obtain ⟨e', rest, rfl, ⟨h1, h2, h3⟩, hr⟩ := he.uncons
    simp only [bornAt] at h
    split at h
    · rename_i hb
      rw [T.beq_true] at hb
      cases h
      exact ⟨0, rfl, by simp [List.findIdx?_cons, h3, hb]⟩
    · rename_i hb
      have hb : e.2.2 ≠ st := fun q => by rw [q] at hb; simp at hb
      obtain ⟨j, j1, j2⟩ := bornAt_run h hr
      refine ⟨j + 1, by omega, ?_⟩
      have hne : ((e'.born : Int) == Int.ofNat st) = false := by
        rw [h3]; simp only [Int.ofNat_eq_natCast, beq_eq_false_iff_ne, ne_eq]; omega
      rw [List.findIdx?_cons, hne, j2]
      rfl
theorem fEntryStore_does {h h' : H} {w : World} (hs : Sim ρ h w) {t : TypeId} {m st x : Option V} {v : V} {cm cs cx : Value} (hf : fEntryStore h m st x = some (v, h')) (hm : ∀ a, m = some a → Rel ρ a cm) (hst : ∀ a, st = some a → Rel ρ a cs) (hx : ∀ a, x = some a → Rel ρ a cx) :
    DoesU P (Instr.entryStore t cm cs cx) ρ h w v h' := by
  unfold fEntryStore at hf
  split at hf
  · rename_i r kk born u
    have hm := hm _ rfl
    have hst := hst _ rfl
    have hx := hx _ rfl
    split at hf
    · rename_i es clock ho
      split at hf
      · rename_i i hi
        cases hf
        cases hst
        cases hm with
        | map hb =>
          rename_i B d z
          obtain ⟨es', m1, m2⟩ := map_of hs hb ho
          obtain ⟨j, rfl, j2⟩ := bornAt_run hi m2
          rw [Nat.zero_add] at *
          obtain ⟨w', s1, s2, s3⟩ := setObj_sim (P := P) (w0 := w) hs hb ho rfl rfl rfl rfl m1 rfl (EntR.oRel (m2.modify (f := fun y => (y.1, u, y.2.2)) (f' := fun e => { e with val := cx }) (i := j) (fun a b ha hb =>
            let q := m2.2 j a b ha (by rw [Array.getElem?_toList]; exact hb); ⟨q.1, hx, q.2.2⟩)) clock _)
          refine ⟨ρ, w', ?_, s2, s3, rfl⟩
          have j3 : es'.findIdx? (fun e => (e.born : Int) == Int.ofNat born) = some j := by
            have q := List.findIdx?_toArray (fun e : MapEntry => (e.born : Int) == Int.ofNat born) es'.toList
            rw [Array.toArray_toList] at q
            rw [q, j2]
          simp only [Instr.entryStore, Sem.run_bind, Result.andThen_ok, getObj_map m1, asInt, asIntOf, Sem.run_pure, j3]
          exact s1
      · cases hf
    · cases hf
  · cases hf
theorem fDelete_does (hG : GOk P G) {h h' : H} {w : World} (hs : Sim ρ h w) {t tx ty' : TypeId} {m k : Option V} {v : V} {cm ck : Value} (hf : fDelete G (G.ty t) h m k = some (v, h')) (hm : ∀ a, m = some a → Rel ρ a cm) (hk : ∀ a, k = some a → Rel ρ a ck) :
    DoesV P (Builtin.delete_ #[t, tx] ty' #[cm, ck]) ρ h w v h' := by
  unfold fDelete at hf
  split at hf
  · rename_i ty m k hty
    have ht := hG.types _ _ hty
    have hm := hm _ rfl
    have hk := hk _ rfl
    split at hf
    · rename_i kt et r e1 _
      split at hf
      · rename_i es clock ho hok
        cases hm with
        | map hb =>
          rename_i B d z
          obtain ⟨es', m1, m2⟩ := map_of hs hb ho
          have hck := keyOk_check hG hok hk es'.isEmpty w
          split at hf
          · rename_i i y hfk
            cases hf
            obtain ⟨r', r1, r2⟩ := findKey_run hG hk hok m2 hfk w
            cases r2 with
            | some h1 h2 =>
              rename_i j e'
              rw [Nat.zero_add] at *
              obtain ⟨w', s1, s2, s3⟩ := setObj_sim (P := P) (w0 := w) hs hb ho rfl rfl rfl rfl m1 rfl (EntR.oRel (m2.erase j) clock _)
              refine ⟨ρ, _, w', ?_, s2, s3, .undef⟩
              simp only [Builtin.delete_, List.getElem?_toArray, List.getElem?_cons_zero, List.getElem?_cons_succ, Sem.run_bind, ht.run_underlying, e1, Result.andThen_ok, getObj_map m1, hck, r1]
              rw [show Sem.run P (setObj B (Obj.map (es'.eraseIdxIfInBounds j) clock)) w = Result.ok () w' from s1]
              rfl
          · rename_i hfk
            cases hf
            obtain ⟨r', r1, r2⟩ := findKey_run hG hk hok m2 hfk w
            cases r2
            obtain ⟨w', s1, s2, s3⟩ := setObj_sim (P := P) (w0 := w) hs hb ho rfl rfl rfl rfl m1 rfl (EntR.oRel m2 clock _)
            refine ⟨ρ, _, w', ?_, ?_, ?_, .undef⟩
            · simp only [Builtin.delete_, List.getElem?_toArray, List.getElem?_cons_zero, List.getElem?_cons_succ, Sem.run_bind, ht.run_underlying, e1, Result.andThen_ok, getObj_map m1, hck, r1]
              rw [show Sem.run P (setObj B (Obj.map es' clock)) w = Result.ok () w' from s1]
              rfl
            · refine s2.sub (Nat.le_refl _) fun b o hbo => ?_
              simp only [H.set_get]
              split
              · rename_i q; rw [← ho, ← q]; exact hbo
              · exact hbo
            · exact s3.trans (Ext.drop rfl fun b o hbo => by
                simp only [H.set_get]
                split
                · rename_i q; rw [← ho, ← q]; exact hbo
                · exact hbo)
          · cases hf
      · cases hf
    · cases hf
  · cases hf
end
end Go.Ev
/- The operations that change memory, 6: iterators; all of them. -/
namespace Go.Ev
section
variable {P : Program} {G : Γ} (hG : GOk P G) {ρ : Ren}

/-- a new object that is no row -/
theorem newObj_sim {h : H} {w : World} (hs : Sim ρ h w) {ob : O} {c : Obj} (hor : ORel ρ ob (w.heap.size, 0, 0) c) :
    ∃ w', (newObj c).run P w = .ok w.heap.size w' ∧ Sim (ρ.with h.next (w.heap.size, 0, 0)) (h.add ob) w' ∧ Ext ρ h w (ρ.with h.next (w.heap.size, 0, 0)) (h.add ob) w' := by
  have hother : ∀ B, B < w.heap.size → (w.heap.push c)[B]? = w.heap[B]? := fun B hB => by
    rw [Array.getElem?_push, if_neg (by omega)]
  refine ⟨{ w with heap := w.heap.push c }, by simp [newObj, Sem.run], ?_, ?_⟩
  · exact hs.add (o' := ob) (L := (w.heap.size, 0, 0)) (c' := c) hs.fresh (by simp) (by simp) (fun x => H.add_get h _ x) rfl (by simp) (hor.mono (Ren.le_with ρ _ hs.fresh)) hother
  · exact Ext.add (o' := ob) (L := (w.heap.size, 0, 0)) (Nat.le_refl _) (by simp) (fun x => H.add_get h _ x) rfl (by simp) hother rfl rfl rfl

theorem fRange_does (hG : GOk P G) {h h' : H} {w : World} (hs : Sim ρ h w) {t : TypeId} {x : Option V} {v : V} {cx : Value} (hf : fRange (G.ty t) h x = some (v, h')) (hx : ∀ a, x = some a → Rel ρ a cx) : DoesV P (Instr.range t cx) ρ h w v h' := by
  unfold fRange at hf
  split at hf
  · rename_i ty u hty
    have ht := hG.types _ _ hty
    have hx := hx _ rfl
    have ptr : Rel (ρ.with h.next (w.heap.size, 0, 0)) (.ptr h.next 0) (.pointer (some ⟨w.heap.size, 0, none⟩)) := by
      have := Rel.ptr (ρ := ρ.with h.next (w.heap.size, 0, 0)) (b := h.next) (o := 0) (Ren.with_same ..)
      exact this
    split at hf
    · rename_i s e1 _
      cases hf
      cases hx
      obtain ⟨w', e2, e3, e4⟩ := newObj_sim (P := P) hs (ob := .strIter s 0) (c := .stringIter ⟨s.toArray⟩ 0) ⟨rfl, rfl⟩
      exact ⟨_, _, w', by simp only [Instr.range, Sem.run_bind, ht.run_underlying, e1, Result.andThen_ok, Sem.run_pure, e2], e3, e4, ptr⟩
    · rename_i e1 _
      cases hf
      cases hx
      obtain ⟨w', e2, e3, e4⟩ := newObj_sim (P := P) hs (ob := .mapIter none 0 [] 0) (c := .mapIter none 0 #[] 0) ⟨rfl, none, rfl, .inl ⟨rfl, rfl⟩⟩
      exact ⟨_, _, w', by simp only [Instr.range, Sem.run_bind, ht.run_underlying, e1, Result.andThen_ok, Sem.run_pure, e2], e3, e4, ptr⟩
    · rename_i m e1 _
      split at hf
      · rename_i es clock ho
        cases hf
        cases hx with
        | map hb =>
          rename_i B d z
          obtain ⟨es', m1, m2⟩ := map_of hs hb ho
          obtain ⟨w', e2, e3, e4⟩ := newObj_sim (P := P) hs (ob := .mapIter (some m) clock [] clock) (c := .mapIter (some B) clock #[] clock) ⟨rfl, some B, rfl, .inr ⟨m, B, d, z, rfl, hb, rfl⟩⟩
          exact ⟨_, _, w', by simp only [Instr.range, Sem.run_bind, ht.run_underlying, e1, Result.andThen_ok, Sem.run_pure, getObj_map m1, e2], e3, e4, ptr⟩
      · cases hf
    · cases hf
  · cases hf
theorem Rels.tup3 {v u t : V} {a b c : Value} (h : Rel ρ v a) (k : Rel ρ u b) (l : Rel ρ t c) : Rel ρ (.tuple [v, u, t]) (.tuple #[a, b, c]) := by
  refine .tuple rfl fun i x y h1 h2 => ?_
  match i with
  | 0 => simp at h1 h2; subst h1; subst h2; exact h
  | 1 => simp at h1 h2; subst h1; subst h2; exact k
  | 2 => simp at h1 h2; subst h1; subst h2; exact l
  | i + 3 => simp at h1
theorem Rels.tup1 {v : V} {a : Value} (h : Rel ρ v a) : Rel ρ (.tuple [v]) (.tuple #[a]) := by
  refine .tuple rfl fun i x y h1 h2 => ?_
  match i with
  | 0 => simp at h1 h2; subst h1; subst h2; exact h
  | i + 1 => simp at h1
theorem leftOf_run (seen : List Nat) : ∀ {es : List (V × V × Nat)} {es' : List MapEntry}, EntR ρ es es' → EntR ρ (leftOf seen es) (es'.filter fun e => !seen.reverse.toArray.contains e.born)
  | [], es', h => by rw [List.length_eq_zero_iff.1 h.1]; exact ⟨rfl, fun i a b q => by simp [leftOf] at q⟩
  | e :: es, es', h => by
    obtain ⟨e', rest, rfl, h0, hr⟩ := h.uncons
    have ih := leftOf_run seen hr
    have hc : seen.reverse.toArray.contains e'.born = seen.any (Nat.beq e.2.2) := by
      rw [h0.2.2]
      rw [Bool.eq_iff_iff]
      simp only [List.contains_toArray, List.contains_eq_mem, List.mem_reverse, decide_eq_true_eq, List.any_eq_true, T.beq_true]
      constructor
      · intro q; exact ⟨_, q, rfl⟩
      · rintro ⟨y, q, rfl⟩; exact q
    simp only [leftOf]
    split
    · rename_i q
      rw [List.filter_cons, hc, q]
      exact ih
    · rename_i q
      rw [List.filter_cons, hc, q]
      simp only [Bool.not_false, if_true]
      refine ⟨by rw [List.length_cons, List.length_cons, ih.1], fun i a b ha hb => ?_⟩
      cases i with
      | zero => simp at ha hb; subst ha; subst hb; exact h0
      | succ i => exact ih.2 i a b (by simpa using ha) (by simpa using hb)
theorem filter_old {l : List MapEntry} {e' : MapEntry} (h : l = [e']) {since : Nat} (hb : e'.born < since) : l.filter (fun e => decide (e.born < since)) = [e'] ∧ l.filter (fun e => decide (e.born ≥ since)) = [] := by
  subst h
  constructor
  · simp [hb]
  · simp; omega
theorem fNext_does {h h' : H} {w : World} (hs : Sim ρ h w) {ty' : TypeId} {it : Option V} {isS : Bool} {v : V} {ci : Value} (hf : fNext h it isS = some (v, h')) (hi : ∀ a, it = some a → Rel ρ a ci) : DoesV P (Instr.next ci isS ty') ρ h w v h' := by
  unfold fNext at hf
  split at hf
  · rename_i r
    have hi := hi _ rfl
    cases hi with
    | ptr hb =>
      rename_i B d z
      split at hf
      · rename_i s pos ho
        obtain ⟨L, c, l1, l2, l3⟩ := hs.live r _ ho
        rw [hb] at l1; cases l1
        obtain ⟨hd, rfl⟩ := l3
        simp only at hd l2
        subst hd
        have hg := getObj_run (P := P) l2 rfl
        have hsz : (⟨s.toArray⟩ : ByteArray).size = s.length := by simp [ByteArray.size]
        split at hf
        · rename_i hlt
          have hlt := blt_true hlt
          cases hd : Utf8.decode ⟨s.toArray⟩ pos with
          | mk c wd =>
            rw [hd] at hf
            simp only [Option.some.injEq, Prod.mk.injEq] at hf
            obtain ⟨rfl, rfl⟩ := hf
            obtain ⟨w', s1, s2, s3⟩ := setObj_sim (P := P) (w0 := w) (c' := .stringIter ⟨s.toArray⟩ (pos + wd)) (o' := .strIter s (Nat.add pos wd)) hs hb ho rfl rfl rfl rfl l2 rfl ⟨rfl, rfl⟩
            refine ⟨ρ, _, w', ?_, s2, s3, Rels.tup3 (.bool true) (.int .i64 _) (.int .i32 _)⟩
            simp only [Instr.next, Nat.add_zero, Sem.run_bind, hg, Result.andThen_ok, hsz]
            rw [if_pos hlt]
            simp only [hd, Sem.run_bind]
            rw [show Sem.run P (setObj B (Obj.stringIter ⟨s.toArray⟩ (pos + wd))) w = Result.ok () w' from s1]
            rfl
        · rename_i hlt
          have hlt : ¬ pos < s.length := fun q => by rw [show Nat.blt pos s.length = true by simpa [Nat.blt_eq] using q] at hlt; cases hlt
          cases hf
          refine ⟨ρ, _, w, ?_, hs, Ext.refl _ _ _, Rels.tup1 (.bool false)⟩
          simp only [Instr.next, Nat.add_zero, Sem.run_bind, hg, Result.andThen_ok, hsz]
          rw [if_neg hlt]
          rfl
      · rename_i since seen last ho
        obtain ⟨L, c, l1, l2, l3⟩ := hs.live r _ ho
        rw [hb] at l1; cases l1
        obtain ⟨hd, m', rfl, hm⟩ := l3
        simp only at hd l2
        subst hd
        have hm' : m' = none := by
          rcases hm with ⟨_, q⟩ | ⟨_, _, _, _, q, _⟩
          · exact q
          · cases q
        subst hm'
        have hg := getObj_run (P := P) l2 rfl
        cases hf
        refine ⟨ρ, _, w, ?_, hs, Ext.refl _ _ _, Rels.tup1 (.bool false)⟩
        simp only [Instr.next, Nat.add_zero, Sem.run_bind, hg, Result.andThen_ok]
        rfl
      · rename_i m since seen last ho
        obtain ⟨L, c, l1, l2, l3⟩ := hs.live r _ ho
        rw [hb] at l1; cases l1
        obtain ⟨hd, m', rfl, hm⟩ := l3
        simp only at hd l2
        subst hd
        have hg := getObj_run (P := P) l2 rfl
        rcases hm with ⟨q, _⟩ | ⟨r2, B2, d2, z2, q1, q2, q3⟩
        · cases q
        · cases q1
          subst q3
          split at hf
          · rename_i es clock hom
            obtain ⟨es', m1, m2⟩ := map_of hs q2 hom
            split at hf
            · cases hf
            · rename_i hbad
              have hlen : es'.size = es.length := by simpa using m2.1
              have hbad' : (!(seen.reverse.toArray).isEmpty && !es'.isEmpty && es'.all (fun e => decide (e.born ≥ last))) = false := by
                rw [← hbad]
                have a1 : seen.reverse.toArray.isEmpty = seen.isEmpty := by simp
                have a2 : es'.isEmpty = es.isEmpty := by
                  rw [Bool.eq_iff_iff]
                  simp only [Array.isEmpty_iff_size_eq_zero, hlen, List.isEmpty_iff_length_eq_zero]
                have a3 : es'.all (fun e => decide (e.born ≥ last)) = es.all (fun y => Nat.ble last y.2.2) := by
                  have : ∀ {l : List (V × V × Nat)} {l' : List MapEntry}, EntR ρ l l' → l'.all (fun e => decide (e.born ≥ last)) = l.all (fun y => Nat.ble last y.2.2) := by
                    intro l
                    induction l with
                    | nil => intro l' q; rw [List.length_eq_zero_iff.1 q.1]; rfl
                    | cons e l ih =>
                      intro l' q
                      obtain ⟨e', rest, rfl, q0, qr⟩ := q.uncons
                      rw [List.all_cons, List.all_cons, ih qr, q0.2.2]
                      congr 1
                      rw [Bool.eq_iff_iff, Nat.ble_eq]
                      simp
                  rw [← this m2, Array.all_toList]
                rw [a1, a2, a3]
              have hL := leftOf_run seen m2
              have hfl : (es'.filter fun e => !seen.reverse.toArray.contains e.born).toList = es'.toList.filter fun e => !seen.reverse.toArray.contains e.born := by simp
              split at hf
              · rename_i hl0
                rw [hl0] at hL
                cases hf
                have hnil := List.length_eq_zero_iff.1 hL.1
                have hf0 : (es'.filter fun e => !seen.reverse.toArray.contains e.born) = #[] := by
                  rw [← Array.toList_inj, hfl, hnil]
                refine ⟨ρ, _, w, ?_, hs, Ext.refl _ _ _, Rels.tup1 (.bool false)⟩
                simp only [Instr.next, Nat.add_zero, Sem.run_bind, hg, Result.andThen_ok, getObj_map m1, hbad', Bool.false_eq_true, if_false, hf0]
                simp [Question.forced]
              · rename_i x hl1
                rw [hl1] at hL
                split at hf
                · rename_i hold
                  have hold := blt_true hold
                  cases hf
                  obtain ⟨e', rest, e1, ⟨k1, k2, k3⟩, k4⟩ := hL.uncons
                  rw [List.length_eq_zero_iff.1 k4.1] at e1
                  have hf0 : (es'.filter fun e => !seen.reverse.toArray.contains e.born) = #[e'] := by
                    rw [← Array.toList_inj, hfl, e1]
                  have hb' : e'.born < since := by rw [k3]; exact hold
                  obtain ⟨w', s1, s2, s3⟩ := setObj_sim (P := P) (w0 := w) (c' := .mapIter (some B2) since (seen.reverse.toArray.push e'.born) clock) (o' := .mapIter (some m) since (x.2.2 :: seen) clock) hs hb ho rfl rfl rfl rfl l2 rfl ⟨rfl, some B2, by simp [k3], .inr ⟨m, B2, d2, z2, rfl, q2, rfl⟩⟩
                  refine ⟨ρ, _, w', ?_, s2, s3, Rels.tup3 (.bool true) k1 k2⟩
                  simp only [Instr.next, Nat.add_zero, Sem.run_bind, hg, Result.andThen_ok, getObj_map m1, hbad', Bool.false_eq_true, if_false, hf0]
                  have hno : ¬ since ≤ e'.born := by omega
                  simp [Question.forced, hb', hno]
                  simp only [List.push_toArray] at s1
                  rw [show Sem.run P (setObj B (Obj.mapIter (some B2) since (seen.reverse ++ [e'.born]).toArray clock)) w = Result.ok () w' from s1]
                  rfl
                · cases hf
              · cases hf
          · cases hf
      · cases hf
  · cases hf
end
end Go.Ev
/- All operations that change memory. -/
namespace Go.Ev
section
variable {P : Program} {G : Γ} (hG : GOk P G) {ρ : Ren}
theorem fClear_does (hG : GOk P G) {h h' : H} {w : World} (hs : Sim ρ h w) {t ty' : TypeId} {x : Option V} {v : V} {cx : Value} (hf : fClear G (G.ty t) h x = some (v, h')) (hx : ∀ a, x = some a → Rel ρ a cx) :
    DoesV P (Builtin.clear_ #[t] ty' #[cx]) ρ h w v h' := by
  unfold fClear at hf
  split at hf
  · rename_i ty u hty
    have ht := hG.types _ _ hty
    have hx := hx _ rfl
    split at hf
    · rename_i e1 _
      cases hf; cases hx
      exact ⟨ρ, _, w, by simp [Builtin.clear_, ht.run_underlying, e1]; rfl, hs, Ext.refl _ _ _, .undef⟩
    · rename_i e1 _
      cases hf; cases hx
      exact ⟨ρ, _, w, by simp [Builtin.clear_, ht.run_underlying, e1]; rfl, hs, Ext.refl _ _ _, .undef⟩
    · rename_i r e1 _
      split at hf
      · rename_i es clock ho
        cases hf
        cases hx with
        | map hb =>
          rename_i B d z
          obtain ⟨es', m1, m2⟩ := map_of hs hb ho
          obtain ⟨w', s1, s2, s3⟩ := setObj_sim (P := P) (w0 := w) (c' := .map #[] clock) (o' := .map [] clock) hs hb ho rfl rfl rfl rfl m1 rfl ⟨#[], rfl, rfl, fun i e e' q => by simp at q⟩
          refine ⟨ρ, _, w', ?_, s2, s3, .undef⟩
          have s1 : (setObj B (.map #[] clock)).run P w = .ok () w' := s1
          simp [Builtin.clear_, ht.run_underlying, e1, getObj_map m1, s1]
          rfl
      · cases hf
    · rename_i elem b o n c e1 _
      split at hf
      · rename_i te hte
        split at hf
        · rename_i zv hz
          split at hf
          · rename_i h'' hp
            cases hf
            obtain ⟨z1, y, c1, c2, c3, c4⟩ := zcells_run (hG.types _ _ hte) hz
            have hR : Rels ρ (rep n zv) (Builtin.zeroCells y.cells n).toList := by
              refine ⟨by rw [Array.length_toList, zeroCells_size, rep_len, c2, z1], fun j v x hv hx => ?_⟩
              rw [rep_get] at hv
              split at hv
              · have hx := zeroCells_get _ _ _ _ (by rw [Array.getElem?_toList] at hx; exact hx)
                rw [c2, ← z1] at hx
                exact (c3 ρ).2 _ v x hv (by rw [Array.getElem?_toList]; exact hx)
              · cases hv
            have hone : ∀ x ∈ (Builtin.zeroCells y.cells n).toList, one x = true := by
              intro x hx
              obtain ⟨j, hj⟩ := List.getElem?_of_mem hx
              have := zeroCells_get _ _ _ _ (by rw [Array.getElem?_toList] at hj; exact hj)
              exact c4 x (by
                have := Array.mem_of_getElem? this
                simpa using this)
            have main : ∀ (B d z k : Nat), ρ b = some (B, d, z) → DoesV P (Builtin.clear_ #[t] ty' #[.slice (some ⟨B, d + o, none⟩) n k]) ρ h w (.tuple []) h' := by
              intro B d z k hb
              obtain ⟨w', r1, r2, r3⟩ := putCells_run (P := P) hs hp hb hR hone
              refine ⟨ρ, _, w', ?_, r2, r3, .undef⟩
              cases n with
              | zero =>
                have : (Builtin.zeroCells y.cells 0).toList = [] := by simp [Builtin.zeroCells]
                rw [this] at r1
                simp [storeCells] at r1
                subst r1
                simp [Builtin.clear_, ht.run_underlying, e1]
                rfl
              | succ n =>
                simp [Builtin.clear_, ht.run_underlying, e1, c1, r1]
                rfl
            cases hx with
            | sliceK hb => exact main _ _ _ _ hb
            | sliceA hb _ _ => exact main _ _ _ _ hb
            | sliceZ a =>
              have hp' : putCells h b o [] = some h' := hp
              obtain ⟨r2, r3⟩ := putCells_nil hs hp'
              refine ⟨ρ, _, w, ?_, r2, r3, .undef⟩
              simp [Builtin.clear_, ht.run_underlying, e1]
              rfl
          · cases hf
        · cases hf
      · cases hf
    · cases hf
  · cases hf

theorem fString_does (hG : GOk P G) {h h' : H} {w : World} (hs : Sim ρ h w) {t t' ty' : TypeId} {x y : Option V} {v : V} {cx cy : Value} (hf : fString G (G.ty t) h x y = some (v, h')) (hx : ∀ a, x = some a → Rel ρ a cx) (hy : ∀ a, y = some a → Rel ρ a cy) :
    DoesV P (Builtin.unsafeString_ #[t, t'] ty' #[cx, cy]) ρ h w v h' := by
  unfold fString at hf
  split at hf
  · cases hf
    have hx := hx _ rfl
    have hy := hy _ rfl
    cases hx; cases hy
    exact ⟨ρ, _, w, Lib.run_unsafeString_none w t t' ty' _, hs, Ext.refl _ _ _, .str _⟩
  · cases hf
    have hx := hx _ rfl
    have hy := hy _ rfl
    cases hx; cases hy
    exact ⟨ρ, _, w, Lib.run_unsafeString_none w t t' ty' _, hs, Ext.refl _ _ _, .str _⟩
  · rename_i ty b o k hty
    have hx := hx _ rfl
    have hy := hy _ rfl
    have ht := hG.types _ _ hty
    split at hf
    · rename_i u l e n pat tr ed hl ho
      split at hf
      · rename_i s tu hsb htu hc
        split at hf
        · rename_i hsz
          cases hf
          rw [T.beq_true] at hsz
          simp only [Bool.and_eq_true, T.beq_true] at hc
          obtain ⟨⟨rfl, rfl⟩, hk⟩ := hc
          have hk := Nat.le_of_ble_eq_true hk
          have hu := hG.types _ _ htu
          cases hy
          cases hx with
          | ptr hb =>
            rename_i B d z
            obtain ⟨L, c, l1, l2, l3⟩ := hs.live b _ ho
            rw [hb] at l1; cases l1
            obtain ⟨cs, el, lo, hi, rfl, q1, q2, q3, q4, q5⟩ := l3
            simp only at q1 q2 q4 q5 l2
            obtain ⟨rfl, rfl⟩ := q4 _ rfl
            obtain ⟨olds, o1, o2, o3, o4⟩ := rGather_run (P := P) hs hl hb
            have hlen := rGather_len hl
            obtain ⟨t1, t2⟩ := toBytes_spec hsb
            unfold rGather at hl
            rw [ho] at hl
            obtain ⟨p1, p2⟩ := gather_spec hl
            have hkn : k + 1 ≤ n := by
              have := p2 k _ (List.getElem?_eq_getElem (by omega))
              have := cell_lt this
              omega
            have hsl : s.length = k + 1 := by omega
            have hB : B < w.heap.size := (Array.getElem?_eq_some_iff.1 l2).1
            have hrun := Lib.run_unsafeString_row (P := P) w t t' ty' el (by rw [ht.under, ed]) (by rw [hu.cellsOf, hsz]) B cs.size (by simp [World.shape?, l2]) s (by intro e; rw [e] at hsl; simp at hsl) (by omega) (by omega) (fun j x hx => by
              have hj := (List.getElem?_eq_some_iff.1 hx).1
              have r1 := p2 j _ (t2 j x hx)
              have hjc : j < cs.size := by omega
              have r2 := q5.2 (0 + j) _ cs[j] r1 (by simp [hjc])
              have rr : ∀ c, Rel ρ (.int .u8 x.toNat) c → c = .int .u8 x.toNat := fun c q => by cases q; rfl
              have r3 := rr _ r2
              simp [World.cell?, Addr.add_off, l2, hjc, r3])
            rw [hsl] at hrun
            refine ⟨ρ, _, _, hrun, hs.set ho hb (c' := .cells cs el (if lo == hi then (0, 0 + (k + 1)) else (min lo 0, max hi (0 + (k + 1))))) ?_ ⟨cs, el, _, rfl, q1, q2, fun _ q => (nomatch q), q5⟩ (fun B' hB' => ?_), Ext.set ho hb rfl ?_ (fun B' hB' => ?_) ?_ ?_ ?_, .str _⟩
            · simp only [World.freeze, if_neg (Nat.succ_ne_zero k), Array.getElem?_modify]
              rw [if_pos trivial, l2]
              rfl
            · simp only [World.freeze, if_neg (Nat.succ_ne_zero k), Array.getElem?_modify]
              rw [if_neg (fun q => hB' q.symm)]
            · simp [World.freeze]
            · simp only [World.freeze, if_neg (Nat.succ_ne_zero k), Array.getElem?_modify]
              rw [if_neg (fun q => hB' q.symm)]
            · simp [World.freeze]
            · simp [World.freeze]
            · simp [World.freeze]
        · cases hf
      · cases hf
    · cases hf
  · cases hf
theorem act_ef (hG : GOk P G) {e : Operand → Option V} {f : Operand → Value} (hef : OpR ρ e f) {o : Oper} {g : H → Option (V × H)} (h : act G e o.op = .ef g) {hh hh' : H} {w : World} (hs : Sim ρ hh w) {v : V} (hv : g hh = some (v, hh')) :
    Does P (execOp f o) ρ hh w v hh' := by
  cases ho : o.op <;> rw [ho] at h <;> simp only [act, reduceCtorEq, Ac.ef.injEq] at h
  case insert t m k x => subst h; exact (fUpdate_does hG hs hv (hef.opt m) (hef.opt k) (hef.opt x)).next (by simp only [execOp, ho])
  case store t a x => subst h; exact (fStore_does hG hs hv (hef.opt a) (hef.opt x)).next (by simp only [execOp, ho])
  case makeMap t r => cases r <;> simp at h
  case mapUpdate t m k x => subst h; exact (fUpdate_does hG hs hv (hef.opt m) (hef.opt k) (hef.opt x)).next (by simp only [execOp, ho])
  case mapEntry t m k => subst h; exact (fEntry_does hG hs hv (hef.opt m) (hef.opt k)).next (by simp only [execOp, ho])
  case entryStore t m st x => subst h; exact (fEntryStore_does (t := t) hs hv (hef.opt m) (hef.opt st) (hef.opt x)).next (by simp only [execOp, ho])
  case range t x => subst h; exact (fRange_does hG hs hv (hef.opt x)).next (by simp only [execOp, ho])
  case next it isS => subst h; exact (fNext_does (ty' := o.type) hs hv (hef.opt it)).next (by simp only [execOp, ho])
  case convert s d x => split at h <;> cases h
  case call c =>
    unfold actCall at h
    split at h
    · cases h
    · cases h
    · rename_i b hb
      unfold actBuiltin at h
      split at h <;> try (cases h; done)
      · rename_i t t' x y ht hx
        simp only [Ac.ef.injEq] at h
        subst h
        refine (fAppend_does (t := t) (tx := t') (ty' := o.type) hG hs hv (hef.opt x) (hef.opt y)).next ?_
        have h1 : c.argTypes = #[t, t'] := by rw [← Array.toArray_toList (xs := c.argTypes), ht]
        have h2 : c.args = #[x, y] := by rw [← Array.toArray_toList (xs := c.args), hx]
        simp only [execOp, ho, resolve, hb, pure_bind, invoke, builtin, h1, h2, List.map_toArray, List.map_cons, List.map_nil]
      · rename_i t t' x y ht hx
        simp only [Ac.ef.injEq] at h
        subst h
        refine (fCopy_does (t := t) (tx := t') (ty' := o.type) hG hs hv (hef.opt x) (hef.opt y)).next ?_
        have h1 : c.argTypes = #[t, t'] := by rw [← Array.toArray_toList (xs := c.argTypes), ht]
        have h2 : c.args = #[x, y] := by rw [← Array.toArray_toList (xs := c.args), hx]
        simp only [execOp, ho, resolve, hb, pure_bind, invoke, builtin, h1, h2, List.map_toArray, List.map_cons, List.map_nil]
      · rename_i t t' x y ht hx
        simp only [Ac.ef.injEq] at h
        subst h
        refine (fDelete_does (t := t) (tx := t') (ty' := o.type) hG hs hv (hef.opt x) (hef.opt y)).next ?_
        have h1 : c.argTypes = #[t, t'] := by rw [← Array.toArray_toList (xs := c.argTypes), ht]
        have h2 : c.args = #[x, y] := by rw [← Array.toArray_toList (xs := c.args), hx]
        simp only [execOp, ho, resolve, hb, pure_bind, invoke, builtin, h1, h2, List.map_toArray, List.map_cons, List.map_nil]
      · rename_i t t' x y ht hx
        simp only [Ac.ef.injEq] at h
        subst h
        refine (fString_does (t := t) (t' := t') (ty' := o.type) hG hs hv (hef.opt x) (hef.opt y)).next ?_
        have h1 : c.argTypes = #[t, t'] := by rw [← Array.toArray_toList (xs := c.argTypes), ht]
        have h2 : c.args = #[x, y] := by rw [← Array.toArray_toList (xs := c.args), hx]
        simp only [execOp, ho, resolve, hb, pure_bind, invoke, builtin, h1, h2, List.map_toArray, List.map_cons, List.map_nil]
      · rename_i t x ht hx
        simp only [Ac.ef.injEq] at h
        subst h
        refine (fClear_does (t := t) (ty' := o.type) hG hs hv (hef.opt x)).next ?_
        have h1 : c.argTypes = #[t] := by rw [← Array.toArray_toList (xs := c.argTypes), ht]
        have h2 : c.args = #[x] := by rw [← Array.toArray_toList (xs := c.args), hx]
        simp only [execOp, ho, resolve, hb, pure_bind, invoke, builtin, h1, h2, List.map_toArray, List.map_cons, List.map_nil]
end
end Go.Ev

/- Codes, calls, rounds; the tables of a program; how the evaluator is used. -/
import Derived.Test.YtemanejjmkjfnaaGreatDoorEvD
import Derived.RangeFuncRecord
import Derived.RangeFuncNested
import Derived.Laws.Externs
import Derived.Below
set_option maxHeartbeats 1000000
/- A function's results; the marks among its deferred calls. -/
namespace Go.Ev
def XE : X → Exit
  | .normal => .normal
  | .exit id => .exit id
  | .ret => .ret
def DRel (ρ : Ren) : List Nat → List Deferred → Prop
  | [], [] => True
  | b :: l, d :: ds => (∃ L, ρ b = some L ∧ d.target = .collected L.1) ∧ DRel ρ l ds
  | _, _ => False
theorem DRel.mono {ρ ρ' : Ren} (hle : ρ.le ρ') : ∀ {l : List Nat} {ds : List Deferred}, DRel ρ l ds → DRel ρ' l ds
  | [], [], _ => trivial
  | _ :: _, _ :: _, h => ⟨let ⟨L, a, b⟩ := h.1; ⟨L, hle _ _ a, b⟩, DRel.mono hle h.2⟩
  | [], _ :: _, h => h.elim
  | _ :: _, [], h => h.elim
/-- the fence of an activation, or of a round -/
def FRel (ρ : Ren) (rd : Option Nat) (F : Fence) : Prop :=
  match rd with
  | none => F = Fence.wide
  | some l => ∃ L, ρ l = some L ∧ F = Fence.wide.inRound L.1
theorem FRel.mono {ρ ρ' : Ren} (hle : ρ.le ρ') {rd : Option Nat} {F : Fence} (h : FRel ρ rd F) : FRel ρ' rd F := by
  cases rd with
  | none => exact h
  | some l => obtain ⟨L, a, b⟩ := h; exact ⟨L, hle _ _ a, b⟩
theorem FRel.wide {ρ : Ren} {rd : Option Nat} {F : Fence} (h : FRel ρ rd F) : Wide F := by
  cases rd with
  | none => exact .inl h
  | some l => obtain ⟨L, a, b⟩ := h; exact .inr ⟨_, b⟩
/-- what is asked of the evaluator of codes -/
def EvOK (P : Program) (ev : EvC) : Prop :=
  ∀ c rd fn st x st', ev c rd fn st = some (x, st') → okC c = true → ∀ ρ F a w k Q, FRel ρ rd F → Sim ρ st.h w → ERel ρ st.env a.tmps → DRel ρ st.defs a.defers →
    (∀ ρ' a' w', Sim ρ' st'.h w' → Ext ρ st.h w ρ' st'.h w' → ERel ρ' st'.env a'.tmps → DRel ρ' st'.defs a'.defers → Q (XE x) a' w') → c.wpIn F k P Q a w

def resSem (tmps : Array Value) : ResultVar → Sem Value
  | .tmp t => pure (tmps.getD t undef)
  | .cell a t => do loadVar t (← asAddr (tmps.getD a undef))
theorem results_eq (fn : Func) (tmps : Array Value) : results fn tmps = (do
    let vs ← fn.results.toList.mapM (resSem tmps)
    pure (if h : vs.toArray.size = 1 then vs.toArray[0] else .tuple vs.toArray)) := by
  have key : ∀ g : ResultVar → Sem Value, g = resSem tmps → (do
      let vs ← fn.results.mapM g
      pure (if h : vs.size = 1 then vs[0] else .tuple vs)) = (do
      let vs ← fn.results.toList.mapM (resSem tmps)
      pure (if h : vs.toArray.size = 1 then vs.toArray[0] else .tuple vs.toArray)) := by
    intro g hg
    rw [hg, Array.mapM_eq_mapM_toList]
    simp
  exact key _ (by funext r; cases r <;> rfl)
section
variable {P : Program} {G : Γ} (hG : GOk P G) {ρ : Ren}
theorem resultO_run (hG : GOk P G) {h : H} {w : World} {env : Env} {tmps : Array Value} (hS : Sim ρ h w) (he : ERel ρ env tmps) {r : ResultVar} {v : V} (hv : resultO G h env r = some v) :
    ∃ c, Rel ρ v c ∧ (resSem tmps r).run P w = .ok c w := by
  cases r with
  | tmp t =>
    obtain ⟨c, h1, h2⟩ := he.2 t v hv
    refine ⟨c, h2, ?_⟩
    simp [resSem, Array.getD_eq_getD_getElem?, h1]
  | cell a t =>
    simp only [resultO] at hv
    cases ha : env.tr.get a with
    | none => rw [ha] at hv; unfold rLoad at hv; split at hv <;> simp_all
    | some x =>
      obtain ⟨c, h1, h2⟩ := he.2 a x ha
      obtain ⟨c', r1, r2⟩ := rLoad_run hG hS (ca := c) hv (fun y hy => by rw [ha] at hy; cases hy; exact h2)
      refine ⟨c', r1, ?_⟩
      rw [ha] at hv
      unfold rLoad at hv
      split at hv
      · rename_i ty b o hty he
        cases he
        cases h2 with
        | ptr hb =>
          simp only [resSem, Array.getD_eq_getD_getElem?, h1, Option.getD_some]
          simpa [Instr.loadAt, Instr.sureAddr, asAddr] using r2
      · cases hv
theorem results_list (hG : GOk P G) {h : H} {w : World} {env : Env} {tmps : Array Value} (hS : Sim ρ h w) (he : ERel ρ env tmps) : ∀ {l : List ResultVar} {vs : List V}, optAll (resultO G h env) l = some vs →
    ∃ cs, Rels ρ vs cs ∧ (l.mapM (resSem tmps)).run P w = .ok cs w
  | [], vs, h => by
    simp [optAll] at h; subst h
    exact ⟨[], Rels.nil, by simp⟩
  | r :: l, vs, h => by
    simp only [optAll] at h
    split at h
    · rename_i v hv
      split at h
      · rename_i us hu
        cases h
        obtain ⟨c, c1, c2⟩ := resultO_run hG hS he hv
        obtain ⟨cs, s1, s2⟩ := results_list hG hS he hu
        refine ⟨c :: cs, Rels.cons c1 s1, ?_⟩
        rw [List.mapM_cons]
        simp only [Sem.run_bind, c2, Result.andThen_ok, s2, Sem.run_pure]
      · cases h
    · cases h
theorem results_run (hG : GOk P G) {h : H} {w : World} {env : Env} {tmps : Array Value} (hS : Sim ρ h w) (he : ERel ρ env tmps) {fn : Func} {v : V} (hv : resultsO G h env fn = some v) :
    ∃ c, Rel ρ v c ∧ (results fn tmps).run P w = .ok c w := by
  unfold resultsO at hv
  split at hv
  · rename_i u hu
    cases hv
    obtain ⟨cs, s1, s2⟩ := results_list hG hS he hu
    obtain ⟨c, cs', rfl, r1, r2⟩ := s1.uncons
    have := r2.of_nil
    subst this
    refine ⟨c, r1, ?_⟩
    rw [results_eq]
    simp only [Sem.run_bind, s2, Result.andThen_ok, Sem.run_pure]
    simp
  · rename_i vs hne hu
    cases hv
    obtain ⟨cs, s1, s2⟩ := results_list hG hS he hu
    refine ⟨.tuple cs.toArray, .tuple (by simp [s1.1]) (fun i v x a b => s1.2 i v x a (by simpa using b)), ?_⟩
    rw [results_eq]
    simp only [Sem.run_bind, s2, Result.andThen_ok, Sem.run_pure]
    have : cs.length ≠ 1 := fun q => by
      rw [s1.1] at q
      obtain ⟨a, ha⟩ := List.length_eq_one_iff.1 q
      exact hne a ha
    simp [this]
  · cases hv
theorem leaves_ok (hG : GOk P G) {F : Fence} {n : Nat} {fn : Func} {env : Env} {R : Ending → World → Prop} {v : V} {h2 : H} (hv : resultsO G h2 env fn = some v) :
    ∀ {defs : List Nat} {ds : List Deferred} {h : H} {w : World} {tmps : Array Value}, takeAll defs h = some h2 → DRel ρ defs ds → Sim ρ h w → ERel ρ env tmps → (∀ c w2, Rel ρ v c → Sim ρ h2 w2 → Ext ρ h w ρ h2 w2 → R (.returned c) w2) →
      LeavesInM F n P fn tmps R ds .returning w
  | [], [], h, w, tmps, ht, _, hS, he, hR => by
    simp [takeAll] at ht; subst ht
    obtain ⟨c, c1, c2⟩ := results_run hG hS he hv
    exact ⟨c, c2, hR c w c1 hS (Ext.refl _ _ _)⟩
  | b :: l, d :: ds, h, w, tmps, ht, hD, hS, he, hR => by
    simp only [takeAll] at ht
    split at ht
    · rename_i hb
      obtain ⟨⟨L, l1, l2⟩, hD⟩ := hD
      obtain ⟨L', c, q1, q2, q3⟩ := hS.live b _ hb
      rw [l1] at q1; cases q1
      simp only [ORel] at q3
      subst q3
      have hsub : ∀ x o, (h.set b none).tr.get x = some o → h.tr.get x = some o := fun x o q => by
        simp only [H.set_get] at q
        split at q
        · cases q
        · exact q
      have hother : ∀ B, B ≠ L.1 → (w.putObj L.1 (.deferred none)).heap[B]? = w.heap[B]? := fun B hB => World.putObj_heap_other hB
      have hS1 : Sim ρ (h.set b none) (w.putObj L.1 (.deferred none)) := by
        refine ⟨hS.glob, hS.dom, fun x o q => ?_, (hS.sub (h' := h.set b none) (Nat.le_refl _) hsub).inj⟩
        obtain ⟨Lx, cx, x1, x2, x3⟩ := hS.live x o (hsub x o q)
        refine ⟨Lx, cx, x1, ?_, x3⟩
        rw [hother Lx.1 fun e => ?_]
        · exact x2
        · have := hS.inj x b o _ Lx L (hsub x o q) hb x1 l1 e
          subst this
          simp at q
      have hX : Ext ρ h w ρ (h.set b none) (w.putObj L.1 (.deferred none)) :=
        ⟨Nat.le_refl _, fun _ _ => rfl, by simp, fun B _ hn => hother B fun e => hn b _ L hb rfl l1 e.symm, fun x o Lx q q' _ => ⟨x, o, Lx, hsub x o q, q', rfl, id⟩, rfl, rfl, rfl⟩
      refine ⟨by simp, .inl ⟨L.1, _, l2, run_takeDeferred q2, ?_⟩⟩
      exact leaves_ok hG hv ht hD hS1 he fun c w2 c1 c2 c3 => hR c w2 c1 c2 (hX.trans c3)
    · cases ht
  | [], _ :: _, _, _, _, _, hD, _, _, _ => hD.elim
  | _ :: _, [], _, _, _, _, hD, _, _, _ => hD.elim
end
end Go.Ev
/- Calls of functions. -/
namespace Go.Ev
section
variable {P : Program} {G : Γ} (hG : GOk P G)

/-- what is asked of functions whose calls are taken as known -/
def ExtOK (P : Program) (G : Γ) : Prop :=
  ∀ f args h v h', G.ext f args h = some (v, h') → ∀ ρ (cargs : Array Value) w, Rels ρ args cargs.toList → Sim ρ h w → ∀ n, CallsIn Fence.wide n P f cargs w (Ret (Post ρ h w v h'))

theorem putArgs_get : ∀ (l : List V) (i : Nat) (t : T V) (k : Nat), (putArgs i l t).get k = if i ≤ k then (match l[k - i]? with
    | some v => some v
    | none => t.get k) else t.get k
  | [], i, t, k => by simp [putArgs]
  | v :: l, i, t, k => by
    simp only [putArgs]
    rw [putArgs_get l (Nat.succ i) _ k]
    by_cases h : i ≤ k
    · rw [if_pos h]
      by_cases e : i = k
      · subst e
        rw [if_neg (by omega), T.get_put_same]
        simp
      · rw [if_pos (by omega), T.get_put_ne _ _ (by omega)]
        rw [show k - i = (k - Nat.succ i) + 1 by omega, List.getElem?_cons_succ]
    · rw [if_neg h, if_neg (by omega), T.get_put_ne _ _ (by omega)]
theorem args_rel {ρ : Ren} {args : List V} {cargs : Array Value} (h : Rels ρ args cargs.toList) {n : Nat} (hn : args.length ≤ n) :
    ERel ρ ⟨n, putArgs 0 args .leaf⟩ (cargs ++ Array.replicate (n - cargs.size) undef) := by
  have hs : cargs.size = args.length := by rw [← h.1, Array.length_toList]
  refine ⟨by simp; omega, fun t v hv => ?_⟩
  simp only [putArgs_get, Nat.zero_le, if_true, Nat.sub_zero] at hv
  split at hv
  · rename_i u hu
    cases hv
    obtain ⟨c, c1, c2⟩ := h.get hu
    refine ⟨c, ?_, c2⟩
    have c1 : cargs[t]? = some c := by simpa using c1
    rw [Array.getElem?_append_left (Array.getElem?_eq_some_iff.1 c1).1]
    exact c1
  · cases hv

theorem run_callFunc_go {f : FuncId} {fn : Func} {c : Code} (hf : P.funcs[f]? = some fn) (hname : fn.name ≠ "runtime.NumGoroutine") (hb : fn.body = some c) (args : Array Value) (w : World) :
    (callFunc f args).run P w = .ok (.enter f args) w := by
  simp [callFunc, hf, hname, hb]
theorem run_callFunc_row {f : FuncId} {fn : Func} {e : Array Value → Sem Value} (hf : P.funcs[f]? = some fn) (hname : fn.name ≠ "runtime.NumGoroutine")
    (hb : fn.body = none) (hn : Extern.findNext fn = none) (he : Extern.find fn = some e) (args : Array Value) (w : World) :
    (callFunc f args).run P w = ((e args).run P w).andThen fun v w' => .ok (.value v) w' := by
  simp [callFunc, hf, hname, hb, hn, he, mark, Sem.run]

/-- a function with a body -/
def GoOK (P : Program) (G : Γ) (ev : EvC) : Prop :=
  ∀ f args h v h', callGo G ev f args h = some (v, h') → ∃ fn c, P.funcs[f]? = some fn ∧ fn.name ≠ "runtime.NumGoroutine" ∧ fn.body = some c ∧
    ∀ ρ (cargs : Array Value) w, Rels ρ args cargs.toList → Sim ρ h w → ∀ n, CallsIn Fence.wide n P f cargs w (Ret (Post ρ h w v h'))
/-- the codes of all functions -/
def Codes (G : Γ) : Prop := ∀ f fn c, G.funcs.get f = some fn → fn.body = some c → okC c = true

theorem callBody_ok (hG : GOk P G) {ev : EvC} (hev : EvOK P ev) {f : FuncId} {fn : Func} {c : Code} (hf : P.funcs[f]? = some fn) (hb : fn.body = some c) (hok : okC c = true) {args : List V} {h h' : H} {v : V} (hc : callBody G ev f fn c args h = some (v, h'))
    {ρ : Ren} {cargs : Array Value} {w : World} (ha : Rels ρ args cargs.toList) (hS : Sim ρ h w) (n : Nat) : CallsIn Fence.wide n P f cargs w (Ret (Post ρ h w v h')) := by
  unfold callBody at hc
  split at hc
  · rename_i hn
    have hn : args.length ≤ fn.ntmps := Nat.le_of_ble_eq_true hn
    split at hc
    · rename_i x st hev'
      have main : ∀ h2, takeAll st.defs st.h = some h2 → resultsO G h2 st.env fn = some v → h2 = h' → (x = .normal ∨ x = .ret) → CallsIn Fence.wide n P f cargs w (Ret (Post ρ h w v h')) := by
        intro h2 ht hr he hx
        subst he
        refine callsIn_of_wp_marks hf hb trivial ?_
        refine hev c none f _ x st hev' hok ρ Fence.wide _ w n _ rfl hS (args_rel ha hn) trivial fun ρ' a' w' s1 s2 s3 s4 => ?_
        have : LeavesInM Fence.wide n P fn a'.tmps (Ret (Post ρ h w v h2)) a'.defers .returning w' :=
          leaves_ok hG hr ht s4 s1 s3 fun c w2 c1 c2 c3 => ⟨c, rfl, ρ', c2, s2.trans c3, c1⟩
        rcases hx with rfl | rfl
        · exact this
        · exact this
      split at hc
      · cases hc
      · rename_i hx
        split at hc
        · rename_i h2 ht
          split at hc
          · rename_i u hu
            cases hc
            refine main _ ht hu rfl ?_
            cases x with
            | normal => exact .inl rfl
            | ret => exact .inr rfl
            | exit id => exact absurd rfl (hx id)
          · cases hc
        · cases hc
    · cases hc
  · cases hc
theorem callGo_ok (hG : GOk P G) {ev : EvC} (hev : EvOK P ev) (hcodes : Codes G) (hext : ExtOK P G) : GoOK P G ev := by
  intro f args h v h' hc
  unfold callGo at hc
  split at hc
  · cases hc
  · rename_i fn hf
    obtain ⟨hf', hname⟩ := hG.funcs f fn hf
    split at hc
    · cases hc
    · rename_i c hb
      refine ⟨fn, c, hf', hname, hb, fun ρ cargs w ha hS n => ?_⟩
      split at hc
      · rename_i r hr
        cases hc
        exact hext f args h v h' hr ρ cargs w ha hS n
      · exact callBody_ok hG hev hf' hb (hcodes f fn c hf hb) hc ha hS n
theorem callRow_ok {r : Row} {args : List V} {h h' : H} {v : V} (hc : callRow r args h = some (v, h')) {ρ : Ren} {cargs : Array Value} {w : World} (ha : Rels ρ args cargs.toList) (hS : Sim ρ h w) :
    ∃ c w', (rowSem r cargs).run P w = .ok c w' ∧ Post ρ h w v h' c w' := by
  unfold callRow at hc
  split at hc
  · rename_i t m
    split at hc
    · rename_i es clock hm
      cases hc
      obtain ⟨c, cs, e1, r1, r2⟩ := ha.uncons
      have e2 := r2.of_nil
      subst e2
      have e1 : cargs = #[c] := by rw [← Array.toArray_toList (xs := cargs), e1]
      subst e1
      cases r1 with
      | iface _ q =>
        cases q with
        | map hb =>
          rename_i B d z
          obtain ⟨L, o, l1, l2, l3⟩ := hS.live m _ hm
          rw [hb] at l1; cases l1
          obtain ⟨es', rfl, s1, s2⟩ := l3
          have hid := hS.fresh
          have hother : ∀ B, B < w.heap.size → (w.alloc (.map es' clock)).heap[B]? = w.heap[B]? := fun B hB => by
            show (w.heap.push _)[B]? = _
            rw [Array.getElem?_push, if_neg (by omega)]
          have hS' := hS.add (h' := h.add (.map es clock)) (w' := w.alloc (.map es' clock)) (o' := .map es clock) (L := (w.heap.size, 0, 0)) (c' := .map es' clock) hid (by simp) (by simp) (fun x => H.add_get h _ x) rfl (World.alloc_heap_new w _)
            ⟨es', rfl, s1, fun i e e' a b => let ⟨x, y, z⟩ := s2 i e e' a b; ⟨x.mono (Ren.le_with ρ _ hid), y.mono (Ren.le_with ρ _ hid), z⟩⟩ hother
          have hX := Ext.add (ρ := ρ) (h := h) (h' := h.add (.map es clock)) (w := w) (w' := w.alloc (.map es' clock)) (o' := .map es clock) (L := (w.heap.size, 0, 0)) (Nat.le_refl _) (by simp) (fun x => H.add_get h _ x) rfl (by show _ ≤ (w.heap.push _).size; simp) hother rfl rfl rfl
          refine ⟨.iface t (.map (some w.heap.size)), w.alloc (.map es' clock), ?_, _, hS', hX, .iface t (.map (Ren.with_same ..))⟩
          have hg : (getObj B).run P w = .ok (.map es' clock) w := by simp [getObj, Sem.run, l2]
          have key : ∀ k : Obj → Sem Value, (∀ es clock, k (.map es clock) = (do pure (.iface t (.map (some (← newObj (.map es clock))))))) → (do let o ← getObj B; k o : Sem Value).run P w = .ok (.iface t (.map (some w.heap.size))) (w.alloc (.map es' clock)) := by
            intro k hk
            simp only [Sem.run_bind, hg, Result.andThen_ok, hk, run_newObj_alloc, Sem.run_pure]
          exact key _ fun _ _ => rfl
    · cases hc
  · cases hc
    obtain ⟨c, cs, e1, r1, r2⟩ := ha.uncons
    have e2 := r2.of_nil
    subst e2
    have e1 : cargs = #[c] := by rw [← Array.toArray_toList (xs := cargs), e1]
    subst e1
    exact ⟨c, w, rfl, ρ, hS, Ext.refl _ _ _, r1⟩
  · cases hc
end
end Go.Ev
/- Rounds of a loop over a function; calls. -/
namespace Go.Ev
section
variable {P : Program} {G : Γ}
theorem putTmps_rel {ρ : Ren} : ∀ {ps : List Tmp} {vs : List V} {cs : List Value} {e e' : Env} {tmps : Array Value}, putTmps ps vs e = some e' → ERel ρ e tmps → Rels ρ vs cs →
    cs.length = ps.length ∧ ERel ρ e' ((ps.zip cs).foldl (fun t p => t.setIfInBounds p.1 p.2) tmps)
  | [], [], cs, e, e', tmps, h, he, hr => by
    simp only [putTmps] at h; cases h
    have := hr.of_nil; subst this
    exact ⟨rfl, he⟩
  | p :: ps, v :: vs, cs, e, e', tmps, h, he, hr => by
    simp only [putTmps] at h
    split at h
    · rename_i e1 h1
      obtain ⟨c, cs', rfl, r1, r2⟩ := hr.uncons
      have := put_rel (a := ⟨tmps, []⟩) (d := some p) he h1 r1
      obtain ⟨a, b⟩ := putTmps_rel h this r2
      exact ⟨by simp [a], b⟩
    · cases h
  | [], _ :: _, _, _, _, _, h, _, _ => by simp [putTmps] at h
  | _ :: _, [], _, _, _, _, h, _, _ => by simp [putTmps] at h
theorem loop_live {ρ : Ren} {h : H} {w : World} (hS : Sim ρ h w) {l : Nat} {lp : Lp} (hl : h.tr.get l = some (.loop lp)) {B d z : Nat} (hb : ρ l = some (B, d, z)) :
    ∃ l' : Loop, w.heap[B]? = some (.loop l') ∧ l'.state = lp.state ∧ l'.pending = lp.pending ∧ l'.params.toList = lp.params ∧ l'.assign = lp.assign ∧ l'.body = lp.body ∧ ERel ρ lp.tmps l'.tmps ∧ okC lp.assign = true ∧ okC lp.body = true := by
  obtain ⟨L, c, l1, l2, l3⟩ := hS.live l _ hl
  rw [hb] at l1; cases l1
  obtain ⟨l', rfl, rest⟩ := l3
  exact ⟨l', l2, rest⟩
/-- a loop's record is turned -/
theorem loop_set {ρ : Ren} {h : H} {w : World} (hS : Sim ρ h w) {l : Nat} {lp lp' : Lp} (hl : h.tr.get l = some (.loop lp)) {B d z : Nat} (hb : ρ l = some (B, d, z)) {r : Loop} (ho : ORel ρ (.loop lp') (B, d, z) (.loop r)) :
    Sim ρ (h.set l (some (.loop lp'))) (w.putObj B (.loop r)) ∧ Ext ρ h w ρ (h.set l (some (.loop lp'))) (w.putObj B (.loop r)) := by
  have hlt : B < w.heap.size := hS.lt hl hb
  exact ⟨hS.set hl hb (World.putObj_heap_same hlt) ho fun B' hB' => World.putObj_heap_other hB', Ext.set hl hb rfl (by simp) (fun B' hB' => World.putObj_heap_other hB') rfl rfl rfl⟩
theorem isReady_eq {s : LoopState} (h : isReady s = true) : s = .ready := by cases s <;> simp_all [isReady]
theorem isBusy_ne {s : LoopState} (h : isBusy s = false) : s ≠ .busy := by cases s <;> simp_all [isBusy]

theorem callYield_ok {ev : EvC} (hev : EvOK P ev) {l : Nat} {args : List V} {h h' : H} {v : V} (hc : callYield ev l args h = some (v, h')) {ρ : Ren} {w : World} (hS : Sim ρ h w) {B d z : Nat} (hb : ρ l = some (B, d, z)) {cargs : Array Value} (ha : Rels ρ args cargs.toList) :
    NextOk P ((Instr.yield B cargs).run P w) (Post ρ h w v h') := by
  unfold callYield at hc
  split at hc
  · rename_i lp hl
    obtain ⟨r, r1, r2, r3, r4, r5, r6, r7, r8, r9⟩ := loop_live hS hl hb
    split at hc
    · rename_i env hput
      obtain ⟨p1, p2⟩ := putTmps_rel hput r7 ha
      have hsz : cargs.size = r.params.size := by rw [← Array.length_toList, p1, ← r4, Array.length_toList]
      rw [run_yield r1 hsz]
      have htm : (r.params.zip cargs).foldl (fun tmps x => tmps.setIfInBounds x.1 x.2) r.tmps = (lp.params.zip cargs.toList).foldl (fun t p => t.setIfInBounds p.1 p.2) r.tmps := by
        rw [← Array.foldl_toList, Array.toList_zip, r4]
      intro n
      refine roundIn_of_wpIn trivial ?_
      split at hc
      · rename_i st hst
        rw [r5]
        refine hev lp.assign (some l) lp.fn _ .normal st hst r8 ρ _ _ w n _ ⟨(B, d, z), hb, rfl⟩ hS (by rw [← htm] at p2; exact p2) trivial fun ρ1 a1 w1 s1 s2 s3 s4 => ?_
        have hb1 := s2.le hS _ _ hb
        split at hc
        · rename_i lp1 hl1 hd1
          rw [hd1] at s4
          split at hc
          · rename_i hrd
            obtain ⟨q, q1, q2, q3, q4, q5, q6, q7, q8, q9⟩ := loop_live s1 hl1 hb1
            refine ⟨_, run_beginRound q1 (by rw [q2]; exact isReady_eq hrd), ?_⟩
            obtain ⟨t1, t2⟩ := loop_set (lp' := { lp1 with state := .busy }) s1 hl1 hb1 (r := { q with state := .busy }) ⟨_, rfl, rfl, q3, q4, q5, q6, q7, q8, q9⟩
            split at hc
            · rename_i x st2 hst2
              rw [r6]
              refine hev lp.body (some l) lp.fn _ x st2 hst2 r9 ρ1 _ a1 _ n _ ⟨(B, d, z), hb1, rfl⟩ t1 s3 (by cases ha1 : a1.defers with
                | nil => trivial
                | cons d ds => rw [ha1] at s4; exact s4.elim) fun ρ2 a2 w2 u1 u2 u3 u4 => ?_
              have hb2 := u2.le t1 _ _ hb1
              split at hc
              · rename_i lp2 hl2 hd2
                obtain ⟨k, k1, k2, k3, k4, k5, k6, k7, k8, k9⟩ := loop_live u1 hl2 hb2
                have fin : ∀ (jump : Option Code) (lpe : Lp), lpe = { lp2 with state := if jump.isNone then .ready else .done, pending := jump } → v = .bool jump.isNone → h' = st2.h.set l (some (.loop lpe)) →
                    ∃ v' w', (Instr.endRound B jump).run P w2 = .ok v' w' ∧ Ret (Post ρ h w v h') (.returned v') w' := by
                  intro jump lpe e1 e2 e3
                  subst e1; subst e2; subst e3
                  obtain ⟨x1, x2⟩ := loop_set (lp' := { lp2 with state := if jump.isNone then .ready else .done, pending := jump }) u1 hl2 hb2 (r := { k with state := if jump.isNone then .ready else .done, pending := jump }) ⟨_, rfl, rfl, rfl, k4, k5, k6, k7, k8, k9⟩
                  exact ⟨_, _, run_endRound jump k1, _, rfl, ρ2, x1, ((s2.trans t2).trans u2).trans x2, .bool _⟩
                cases x with
                | normal =>
                  simp only [jumpOf] at hc
                  cases hc
                  exact fin none _ rfl rfl rfl
                | ret =>
                  simp only [jumpOf] at hc
                  cases hc
                  exact fin (some .ret) _ rfl rfl rfl
                | exit id =>
                  simp only [jumpOf] at hc
                  cases hc
                  exact fin (some (.exit id)) _ rfl rfl rfl
              · cases hc
            · cases hc
          · cases hc
        · cases hc
      · cases hc
    · cases hc
  · cases hc

theorem callT_ok (hG : GOk P G) {ev : EvC} (hev : EvOK P ev) (hcodes : Codes G) (hext : ExtOK P G) : CallS P (callT G ev) := by
  intro t s ρ h w v h' hT hS hc
  cases t with
  | fn f args =>
    obtain ⟨cargs, ha, rfl⟩ := hT
    simp only [callT, callFn] at hc
    split at hc
    · rename_i r hr
      obtain ⟨fn, f1, f2, f3, f4, f5⟩ := hG.rows f r hr
      obtain ⟨c, w', c1, c2⟩ := callRow_ok (P := P) hc ha hS
      rw [run_callFunc_row f1 f2 f3 f4 f5, c1]
      exact c2
    · obtain ⟨fn, c, f1, f2, f3, f4⟩ := callGo_ok hG hev hcodes hext f args h v h' hc
      rw [run_callFunc_go f1 f2 f3]
      exact f4 ρ cargs w ha hS
  | yield l args =>
    obtain ⟨B, d, z, cargs, hb, ha, rfl⟩ := hT
    exact callYield_ok hev hc hS hb ha
end
end Go.Ev
/- The evaluator of codes. -/
namespace Go.Ev
section
variable {P : Program} {G : Γ}

theorem least {p : Nat → Prop} (h : ∃ n, p n) : ∃ n, p n ∧ ∀ m, p m → n ≤ m := by
  obtain ⟨n, hn⟩ := h
  induction n using Nat.strongRecOn with
  | ind n ih =>
    by_cases q : ∃ m, m < n ∧ p m
    · obtain ⟨m, a, b⟩ := q
      exact ih m a b
    · exact ⟨n, hn, fun m hm => by
        rcases Nat.lt_or_ge m n with h | h
        · exact absurd ⟨m, h, hm⟩ q
        · exact h⟩
theorem wpIn_loop_down {F : Fence} {n : Nat} {Q : Exit → Act → World → Prop} {c : Code} (J : Nat → Act → World → Prop)
    (round : ∀ m a w, J m a w → c.wpIn F n P (Exit.then (fun a' w' => ∃ m', m' < m ∧ J m' a' w') Q) a w) {m : Nat} {a : Act} {w : World} (h0 : J m a w) : (Code.loop c).wpIn F n P Q a w := by
  have hl : ∀ a w, ∃ k, (∃ m, J m a w) → J k a w ∧ ∀ m, J m a w → k ≤ m := fun a w => by
    by_cases h : ∃ m, J m a w
    · obtain ⟨k, k1, k2⟩ := least h
      exact ⟨k, fun _ => ⟨k1, k2⟩⟩
    · exact ⟨0, fun q => absurd q h⟩
  let μ : Act → World → Nat := fun a w => Classical.choose (hl a w)
  have hμ : ∀ a w, (∃ m, J m a w) → J (μ a w) a w ∧ ∀ m, J m a w → μ a w ≤ m := fun a w => Classical.choose_spec (hl a w)
  refine wpIn_loop (fun a w => ∃ m, J m a w) μ ⟨m, h0⟩ fun a w hI => ?_
  obtain ⟨h1, _⟩ := hμ a w hI
  refine wpIn_mono (round _ a w h1) fun e a' w' he => ?_
  cases e with
  | normal =>
    obtain ⟨m', a1, a2⟩ := he
    exact ⟨⟨m', a2⟩, Nat.lt_of_le_of_lt ((hμ a' w' ⟨m', a2⟩).2 m' a2) a1⟩
  | exit _ => exact he
  | goto _ => exact he
  | ret => exact he
  | panic _ => exact he
  | outgrown => exact he

/-- a loop's record is laid -/
theorem loop_add {ρ : Ren} {h : H} {w : World} (hS : Sim ρ h w) {lp : Lp} {r : Loop} (ho : ∀ ρ', ρ.le ρ' → ORel ρ' (.loop lp) (w.heap.size, 0, 0) (.loop r)) :
    Sim (ρ.with h.next (w.heap.size, 0, 0)) (h.add (.loop lp)) (w.alloc (.loop r)) ∧ Ext ρ h w (ρ.with h.next (w.heap.size, 0, 0)) (h.add (.loop lp)) (w.alloc (.loop r)) := by
  have hother : ∀ B, B < w.heap.size → (w.alloc (.loop r)).heap[B]? = w.heap[B]? := fun B hB => by
    show (w.heap.push _)[B]? = _
    rw [Array.getElem?_push, if_neg (by omega)]
  exact ⟨hS.add (o' := .loop lp) (L := (w.heap.size, 0, 0)) hS.fresh (by simp) (by simp) (fun x => H.add_get h _ x) rfl (World.alloc_heap_new w _) (ho _ (Ren.le_with ρ _ hS.fresh)) hother,
    Ext.add (o' := .loop lp) (L := (w.heap.size, 0, 0)) (Nat.le_refl _) (by simp) (fun x => H.add_get h _ x) rfl (by show _ ≤ (w.heap.push _).size; simp) hother rfl rfl rfl⟩
theorem def_add {ρ : Ren} {h : H} {w : World} (hS : Sim ρ h w) :
    Sim (ρ.with h.next (w.heap.size, 0, 0)) (h.add .deferred) (w.alloc (.deferred (some []))) ∧ Ext ρ h w (ρ.with h.next (w.heap.size, 0, 0)) (h.add .deferred) (w.alloc (.deferred (some []))) := by
  have hother : ∀ B, B < w.heap.size → (w.alloc (.deferred (some []))).heap[B]? = w.heap[B]? := fun B hB => by
    show (w.heap.push _)[B]? = _
    rw [Array.getElem?_push, if_neg (by omega)]
  exact ⟨hS.add (o' := .deferred) (L := (w.heap.size, 0, 0)) hS.fresh (by simp) (by simp) (fun x => H.add_get h _ x) rfl (World.alloc_heap_new w _) rfl hother,
    Ext.add (o' := .deferred) (L := (w.heap.size, 0, 0)) (Nat.le_refl _) (by simp) (fun x => H.add_get h _ x) rfl (by show _ ≤ (w.heap.push _).size; simp) hother rfl rfl rfl⟩

theorem endRange_ok {F : Fence} {k : Nat} {l : Nat} {env : Env} {defs : List Nat} {h : H} {x : X} {st' : St} (he : endRange l env defs h = some (x, st')) {ρ ρ1 : Ren} {h0 : H} {w0 w : World} {a : Act} {Q : Exit → Act → World → Prop}
    (hX : Ext ρ h0 w0 ρ1 h w) (hS : Sim ρ1 h w) {B d z : Nat} (hb : ρ1 l = some (B, d, z)) (hE : ERel ρ1 env a.tmps) (hD : DRel ρ1 defs a.defers)
    (hQ : ∀ ρ' a' w', Sim ρ' st'.h w' → Ext ρ h0 w0 ρ' st'.h w' → ERel ρ' st'.env a'.tmps → DRel ρ' st'.defs a'.defers → Q (XE x) a' w') :
    ∃ jump w₄, (Instr.endLoop B).run P w = .ok jump w₄ ∧ (match jump with
       | none => Q .normal a w₄
       | some c => c.wpIn F k P Q a w₄) := by
  unfold endRange at he
  split at he
  · rename_i lp hl
    split at he
    · cases he
    · rename_i hbu
      obtain ⟨r, r1, r2, r3, r4, r5, r6, r7, r8, r9⟩ := loop_live hS hl hb
      obtain ⟨t1, t2⟩ := loop_set (lp' := { lp with state := .exhausted }) hS hl hb (r := { r with state := .exhausted }) ⟨_, rfl, rfl, r3, r4, r5, r6, r7, r8, r9⟩
      have hrun := run_endLoop (P := P) r1 (by rw [r2]; exact isBusy_ne hbu)
      obtain ⟨W, hW⟩ : ∃ W, w.putObj B (.loop { r with state := .exhausted }) = W := ⟨_, rfl⟩
      rw [hW] at t1 t2 hrun
      refine ⟨_, W, hrun, ?_⟩
      rw [r3]
      split at he
      · rename_i hp
        cases he
        rw [hp]
        exact hQ ρ1 a _ t1 (hX.trans t2) hE hD
      · rename_i hp
        cases he
        rw [hp]
        exact wpIn_ret (hQ ρ1 a _ t1 (hX.trans t2) hE hD)
      · rename_i id hp
        cases he
        rw [hp]
        exact wpIn_exit (hQ ρ1 a _ t1 (hX.trans t2) hE hD)
      · cases he
  · cases he

theorem rangeF_ok (hG : GOk P G) {ev : EvC} (hev : EvOK P ev) (hcodes : Codes G) (hext : ExtOK P G) {f : Operand} {params : Array Tmp} {assign body : Code} {rd : Option Nat} {fn : FuncId} {st st' : St} {x : X}
    (hr : rangeF G ev f params assign body rd fn st = some (x, st')) (hok1 : okC assign = true) (hok2 : okC body = true) {ρ : Ren} {F : Fence} {a : Act} {w : World} {k : Nat} {Q : Exit → Act → World → Prop}
    (hF : FRel ρ rd F) (hS : Sim ρ st.h w) (hE : ERel ρ st.env a.tmps) (hD : DRel ρ st.defs a.defers)
    (hQ : ∀ ρ' a' w', Sim ρ' st'.h w' → Ext ρ st.h w ρ' st'.h w' → ERel ρ' st'.env a'.tmps → DRel ρ' st'.defs a'.defers → Q (XE x) a' w') : (Code.rangeFunc f params assign body).wpIn F k P Q a w := by
  have hW := hF.wide
  have hev1 := eval_rel (a := a) hS.glob hE
  unfold rangeF at hr
  split at hr
  · rename_i g first captured hf
    have hF : F = Fence.wide := hF
    split at hr
    · rename_i v h1 hcall
      have hrel := hev1 _ _ hf
      generalize hcf : a.eval f = cf at hrel
      cases hrel with
      | func _ a1 a2 a3 a4 =>
        rename_i A C
        refine wpIn_rangeFunc fun fn' _ => ?_
        obtain ⟨S1, X1⟩ := def_add hS
        have hle1 := X1.le hS
        obtain ⟨S2, X2⟩ := loop_add (lp := ⟨.ready, none, fn, st.env, params.toList, assign, body, st.h.next⟩) (r := { state := .ready, pending := none, fn := fn', tmps := a.tmps, params, assign, body, defers := w.heap.size }) S1
          (fun ρ' hle => ⟨_, rfl, rfl, rfl, rfl, rfl, rfl, hE.mono (hle1.trans hle), hok1, hok2⟩)
        have hle2 := X2.le S1
        have hX := X1.trans X2
        have hle := hX.le hS
        rw [World.size_alloc] at S2 X2 hle2 hX hle
        obtain ⟨W2, hW2⟩ : ∃ W2, (w.alloc (.deferred (some []))).alloc (.loop { state := .ready, pending := none, fn := fn', tmps := a.tmps, params, assign, body, defers := w.heap.size }) = W2 := ⟨_, rfl⟩
        rw [hW2] at S2 X2 hX
        obtain ⟨fg, cg, g1, g2, g3, g4⟩ := callGo_ok hG hev hcodes hext _ _ _ _ _ hcall
        have hargs : Rels ((ρ.with st.h.next (w.heap.size, 0, 0)).with (st.h.add .deferred).next (w.heap.size + 1, 0, 0)) (first ++ [.func (.yield (Nat.succ st.h.next)) [] []] ++ captured) (A ++ #[Value.func (.yield (w.heap.size + 1)) #[] #[]] ++ C).toList := by
          simp only [Array.toList_append]
          refine Rels.append (Rels.append ⟨by simpa using a1, fun i v y p q => (a3 i v y p (by simpa using q)).mono hle⟩ ?_) ⟨by simpa using a2, fun i v y p q => (a4 i v y p (by simpa using q)).mono hle⟩
          exact Rels.cons (.yield (Ren.with_same _ (st.h.add .deferred).next _)) Rels.nil
        refine ⟨w.heap.size + 1, [{ target := .collected w.heap.size, args := #[] }], W2, { target := .fn (.func g) C, args := A ++ #[Value.func (.yield (w.heap.size + 1)) #[] #[]] }, W2, g, (A ++ #[Value.func (.yield (w.heap.size + 1)) #[] #[]]) ++ C, W2, ?_, ?_, ?_, ?_, ?_, ?_⟩
        · rw [hF, ← hW2]; exact run_enterLoop_outer _ _ _ _ _
        · have hy : a.eval (.const (.func (.yield (w.heap.size + 1)) #[] #[])) = .func (.yield (w.heap.size + 1)) #[] #[] := rfl
          simp [resolve, hcf, Deferred.ofValue, hy]
        · intro f' _; exact hW.fn f'
        · simp only [invoke]
          exact run_callFunc_go g1 g2 g3 _ _
        · intro q; rw [hW.depth] at q; simp at q
        · rw [hF]
          refine (g4 _ _ _ hargs S2 (k - 1)).mono fun e w3 he => ?_
          obtain ⟨c, rfl, ρ3, c1, c2, c3⟩ := he
          have hX3 := hX.trans c2
          have hle3 := hX3.le hS
          have hl3 : ρ3 (Nat.succ st.h.next) = some (w.heap.size + 1, 0, 0) := c2.le S2 _ _ (Ren.with_same _ (st.h.add .deferred).next _)
          have hd3 : ρ3 st.h.next = some (w.heap.size, 0, 0) := c2.le S2 _ _ (hle2 _ _ (Ren.with_same ..))
          exact endRange_ok (a := { a with defers := { target := .collected w.heap.size, args := #[] } :: a.defers }) hr hX3 c1 hl3 (hE.mono hle3) ⟨⟨_, hd3, rfl⟩, hD.mono hle3⟩ hQ
    · cases hr
  · rename_i g first captured l0 hf
    obtain ⟨L0, hL0, hF⟩ := hF
    split at hr
    · rename_i lp0 hl0
      obtain ⟨B0, d0, z0⟩ := L0
      obtain ⟨r0, q1, _⟩ := loop_live hS hl0 hL0
      split at hr
      · rename_i v h1 hcall
        have hrel := hev1 _ _ hf
        generalize hcf : a.eval f = cf at hrel
        cases hrel with
        | func _ a1 a2 a3 a4 =>
          rename_i A C
          refine wpIn_rangeFunc fun fn' _ => ?_
          obtain ⟨S2, X2⟩ := loop_add (lp := ⟨.ready, none, fn, st.env, params.toList, assign, body, lp0.defers⟩) (r := { state := .ready, pending := none, fn := fn', tmps := a.tmps, params, assign, body, defers := r0.defers }) hS
            (fun ρ' hle => ⟨_, rfl, rfl, rfl, rfl, rfl, rfl, hE.mono hle, hok1, hok2⟩)
          have hle := X2.le hS
          obtain ⟨W2, hW2⟩ : ∃ W2, w.alloc (.loop { state := .ready, pending := none, fn := fn', tmps := a.tmps, params, assign, body, defers := r0.defers }) = W2 := ⟨_, rfl⟩
          rw [hW2] at S2 X2
          obtain ⟨fg, cg, g1, g2, g3, g4⟩ := callGo_ok hG hev hcodes hext _ _ _ _ _ hcall
          have hargs : Rels (ρ.with st.h.next (w.heap.size, 0, 0)) (first ++ [.func (.yield st.h.next) [] []] ++ captured) (A ++ #[Value.func (.yield w.heap.size) #[] #[]] ++ C).toList := by
            simp only [Array.toList_append]
            refine Rels.append (Rels.append ⟨by simpa using a1, fun i v y p q => (a3 i v y p (by simpa using q)).mono hle⟩ ?_) ⟨by simpa using a2, fun i v y p q => (a4 i v y p (by simpa using q)).mono hle⟩
            exact Rels.cons (.yield (Ren.with_same ..)) Rels.nil
          refine ⟨w.heap.size, [], W2, { target := .fn (.func g) C, args := A ++ #[Value.func (.yield w.heap.size) #[] #[]] }, W2, g, (A ++ #[Value.func (.yield w.heap.size) #[] #[]]) ++ C, W2, ?_, ?_, ?_, ?_, ?_, ?_⟩
          · rw [hF, ← hW2]; exact run_enterLoop_inner q1 _ _ _ _ _
          · have hy : a.eval (.const (.func (.yield w.heap.size) #[] #[])) = .func (.yield w.heap.size) #[] #[] := rfl
            simp [resolve, hcf, Deferred.ofValue, hy]
          · intro f' _; exact hW.fn f'
          · simp only [invoke]
            exact run_callFunc_go g1 g2 g3 _ _
          · intro q; rw [hW.depth] at q; simp at q
          · rw [hF]
            refine CallsIn.inRound _ ((g4 _ _ _ hargs S2 (k - 1)).mono fun e w3 he => ?_)
            obtain ⟨c, rfl, ρ3, c1, c2, c3⟩ := he
            have hX3 := X2.trans c2
            have hle3 := hX3.le hS
            have hl3 : ρ3 st.h.next = some (w.heap.size, 0, 0) := c2.le S2 _ _ (Ren.with_same ..)
            exact endRange_ok (a := a) hr hX3 c1 hl3 (hE.mono hle3) (hD.mono hle3) hQ
      · cases hr
    · cases hr
  · cases hr

theorem evC_ok (hG : GOk P G) (hcodes : Codes G) (hext : ExtOK P G) : ∀ n, EvOK P (evC G n) := by
  intro n
  induction n using Nat.strongRecOn with
  | ind n ih =>
    intro c rd fn st x st' hr hok ρ F a w k Q hF hS hE hD hQ
    cases n with
    | zero => simp [evC] at hr
    | succ n =>
      obtain ⟨env, h, defs⟩ := st
      have ihn := ih n (Nat.lt_succ_self n)
      cases c <;> simp only [evC] at hr
      case skip =>
        cases hr
        exact wpIn_skip (hQ ρ a w hS (Ext.refl _ _ _) hE hD)
      case exit id =>
        cases hr
        exact wpIn_exit (hQ ρ a w hS (Ext.refl _ _ _) hE hD)
      case ret =>
        cases hr
        exact wpIn_ret (hQ ρ a w hS (Ext.refl _ _ _) hE hD)
      case region id ops draw =>
        have hcall := callT_ok hG ihn hcodes hext
        cases draw with
        | false =>
          simp only at hr
          split at hr
          · rename_i env' h' hreg
            cases hr
            refine wpIn_region ?_
            rw [List.range_eq_range']
            have := regS_ok hG hcall hF.wide (n := k) (ops := ops) (Q := Q) ops.toList 0 rfl ρ env env' h h' a w hreg hS hE fun ρ' a' w' q1 q2 q3 q4 => hQ ρ' a' w' q1 q2 q3 (by rw [q4]; exact hD.mono (q2.le hS))
            rwa [Array.length_toList] at this
          · cases hr
        | true =>
          simp only at hr
          split at hr
          · rename_i env' h' hreg
            cases hr
            exact regD_ok hG hcall hF.wide hok hG.mixed hreg hS hE fun ρ' a' w' q1 q2 q3 q4 => hQ ρ' a' w' q1 q2 q3 (by rw [q4]; exact hD.mono (q2.le hS))
          · cases hr
      case seq c1 c2 =>
        simp only [okC, Bool.and_eq_true] at hok
        refine wpIn_seq ?_
        split at hr
        · rename_i st1 h1
          refine ihn c1 rd fn _ .normal st1 h1 hok.1 ρ F a w k _ hF hS hE hD fun ρ1 a1 w1 s1 s2 s3 s4 => ?_
          exact ihn c2 rd fn st1 x st' hr hok.2 ρ1 F a1 w1 k Q (hF.mono (s2.le hS)) s1 s3 s4 fun ρ' a' w' q1 q2 q3 q4 => hQ ρ' a' w' q1 (s2.trans q2) q3 q4
        · rename_i r hne
          refine ihn c1 rd fn _ x st' hr hok.1 ρ F a w k _ hF hS hE hD fun ρ1 a1 w1 s1 s2 s3 s4 => ?_
          have := hQ ρ1 a1 w1 s1 s2 s3 s4
          cases x with
          | normal => exact absurd hr (hne st')
          | exit id => exact this
          | ret => exact this
      case cond c c1 c2 =>
        simp only [okC, Bool.and_eq_true] at hok
        have hev := eval_rel (a := a) hS.glob hE
        split at hr
        · rename_i hc
          have := hev _ _ hc
          generalize hcc : a.eval c = cc at this
          cases this
          exact wpIn_cond_true hcc (ihn c1 rd fn _ x st' hr hok.1 ρ F a w k Q hF hS hE hD hQ)
        · rename_i hc
          have := hev _ _ hc
          generalize hcc : a.eval c = cc at this
          cases this
          exact wpIn_cond_false hcc (ihn c2 rd fn _ x st' hr hok.2 ρ F a w k Q hF hS hE hD hQ)
        · cases hr
      case block id b =>
        simp only [okC] at hok
        refine wpIn_block ?_
        split at hr
        · rename_i id' st1 h1
          refine ihn b rd fn _ (.exit id') st1 h1 hok ρ F a w k _ hF hS hE hD fun ρ1 a1 w1 s1 s2 s3 s4 => ?_
          simp only [XE, Exit.inBlock]
          split at hr
          · rename_i he
            rw [T.beq_true] at he
            cases hr
            rw [if_pos he]
            exact hQ ρ1 a1 w1 s1 s2 s3 s4
          · rename_i he
            cases hr
            rw [if_neg (fun q => by rw [q] at he; simp at he)]
            exact hQ ρ1 a1 w1 s1 s2 s3 s4
        · rename_i r hne
          refine ihn b rd fn _ x st' hr hok ρ F a w k _ hF hS hE hD fun ρ1 a1 w1 s1 s2 s3 s4 => ?_
          have := hQ ρ1 a1 w1 s1 s2 s3 s4
          cases x with
          | normal => exact this
          | exit id' => exact absurd hr (hne id' st')
          | ret => exact this
      case loop b =>
        simp only [okC] at hok
        refine wpIn_loop_down (fun m a1 w1 => m ≤ n + 1 ∧ ∃ ρ1 st1, evC G m (.loop b) rd fn st1 = some (x, st') ∧ Sim ρ1 st1.h w1 ∧ Ext ρ h w ρ1 st1.h w1 ∧ ERel ρ1 st1.env a1.tmps ∧ DRel ρ1 st1.defs a1.defers) (fun m a1 w1 hJ => ?_)
          (m := n + 1) ⟨Nat.le_refl _, ρ, ⟨env, h, defs⟩, by simp only [evC]; exact hr, hS, Ext.refl _ _ _, hE, hD⟩
        obtain ⟨hm, ρ1, st1, e1, s1, s2, s3, s4⟩ := hJ
        cases m with
        | zero => simp [evC] at e1
        | succ m =>
          obtain ⟨env1, h1, defs1⟩ := st1
          simp only [evC] at e1
          have ihm := ih m (by omega)
          have hF1 := hF.mono (s2.le hS)
          split at e1
          · rename_i st2 h2
            refine ihm b rd fn _ .normal st2 h2 hok ρ1 F a1 w1 k _ hF1 s1 s3 s4 fun ρ2 a2 w2 t1 t2 t3 t4 => ?_
            exact ⟨m, Nat.lt_succ_self m, by omega, ρ2, st2, e1, t1, s2.trans t2, t3, t4⟩
          · rename_i r hne
            refine ihm b rd fn _ x st' e1 hok ρ1 F a1 w1 k _ hF1 s1 s3 s4 fun ρ2 a2 w2 t1 t2 t3 t4 => ?_
            have := hQ ρ2 a2 w2 t1 (s2.trans t2) t3 t4
            cases x with
            | normal => exact absurd e1 (hne st')
            | exit id => exact this
            | ret => exact this
      case rangeFunc f params assign body =>
        simp only [okC, Bool.and_eq_true] at hok
        exact rangeF_ok hG ihn hcodes hext hr hok.1 hok.2 hF hS hE hD hQ
      all_goals cases hr

/-- a call, by the evaluator -/
theorem evT_ok (hG : GOk P G) (hcodes : Codes G) (hext : ExtOK P G) {n : Nat} {f : FuncId} {args : List V} {h h' : H} {v : V} (hr : evT G n f args h = some (v, h')) {ρ : Ren} {cargs : Array Value} {w : World} (ha : Rels ρ args cargs.toList) (hS : Sim ρ h w) (k : Nat) :
    CallsIn Fence.wide k P f cargs w (Ret (Post ρ h w v h')) := by
  obtain ⟨_, _, _, _, _, h4⟩ := callGo_ok hG (evC_ok hG hcodes hext n) hcodes hext f args h v h' hr
  exact h4 ρ cargs w ha hS k
end
end Go.Ev
/- The evaluator's tables of a program; what they must be, as one computation. -/
namespace Go.Ev
noncomputable section
def mkG (P : Program) (eqs : List TypeId) (rows : List (FuncId × Row)) (ext : FuncId → List V → H → Option (V × H)) : Γ :=
  { funcs := T.ofList some P.funcs.size P.funcs.toList, types := T.ofList (mkTY (T.ofList some P.types.size P.types.toList)) P.types.size P.types.toList, eqs,
    rows := fun f => match rows.find? (fun r => Nat.beq r.1 f) with
      | some r => some r.2
      | none => none, ext }
def oneB : List Value → Bool
  | [] => true
  | v :: l => one v && oneB l
def chkField (G : Γ) (size : Nat) (f : Field) : Bool :=
  match G.ty f.type with
  | some ft => Nat.ble (Nat.add f.offset ft.size) size && (ft.agg || Nat.blt 0 ft.size)
  | none => false
def chkFields (G : Γ) (size : Nat) : List Field → Bool
  | [] => true
  | f :: l => chkField G size f && chkFields G size l
def chkType (G : Γ) (t : TypeId) (i : TypeInfo) : Bool :=
  match G.ty t with
  | none => true
  | some ty =>
    Nat.ble i.bytes 1048576 &&
    (match i.zero with
      | some z => Nat.beq z.cells.size i.size && oneB z.cells.toList
      | none => false) &&
    (match ty.desc with
      | .struct fs => chkFields G ty.size fs.toList
      | _ => true)
def chkTypes (G : Γ) : List TypeInfo → Nat → Bool
  | [], _ => true
  | i :: l, t => chkType G t i && chkTypes G l (Nat.succ t)
def chkFunc (fn : Func) : Bool :=
  !(fn.name == "runtime.NumGoroutine") && (match fn.body with
    | some c => okC c
    | none => true)
def chkFuncs : List Func → Bool
  | [] => true
  | fn :: l => chkFunc fn && chkFuncs l
def chkEqs (P : Program) : List TypeId → Bool
  | [] => true
  | t :: l => !P.eqGuardType P.depth t && !P.stoodInHeld t && chkEqs P l
end
section
variable {P : Program} {eqs : List TypeId} {rows : List (FuncId × Row)} {ext : FuncId → List V → H → Option (V × H)}
theorem oneB_eq : ∀ {l : List Value}, oneB l = true → ∀ x, x ∈ l → one x = true
  | [], _, x, h => by simp at h
  | v :: l, h, x, hx => by
    simp only [oneB, Bool.and_eq_true] at h
    rcases List.mem_cons.1 hx with rfl | hx
    · exact h.1
    · exact oneB_eq h.2 x hx
theorem chkFields_eq {G : Γ} {s : Nat} : ∀ {l : List Field}, chkFields G s l = true → ∀ f, f ∈ l → chkField G s f = true
  | [], _, x, h => by simp at h
  | v :: l, h, x, hx => by
    simp only [chkFields, Bool.and_eq_true] at h
    rcases List.mem_cons.1 hx with rfl | hx
    · exact h.1
    · exact chkFields_eq h.2 x hx
theorem chkTypes_eq {G : Γ} : ∀ {l : List TypeInfo} {k : Nat}, chkTypes G l k = true → ∀ t i, l[t]? = some i → chkType G (k + t) i = true
  | [], _, _, t, i, h => by simp at h
  | v :: l, k, h, t, i, ht => by
    simp only [chkTypes, Bool.and_eq_true] at h
    cases t with
    | zero => simp at ht; subst ht; exact h.1
    | succ t =>
      have := chkTypes_eq h.2 t i (by simpa using ht)
      rw [show k + (t + 1) = Nat.succ k + t by omega]
      exact this
theorem chkFuncs_eq : ∀ {l : List Func}, chkFuncs l = true → ∀ f, f ∈ l → chkFunc f = true
  | [], _, x, h => by simp at h
  | v :: l, h, x, hx => by
    simp only [chkFuncs, Bool.and_eq_true] at h
    rcases List.mem_cons.1 hx with rfl | hx
    · exact h.1
    · exact chkFuncs_eq h.2 x hx
theorem chkEqs_eq : ∀ {l : List TypeId}, chkEqs P l = true → ∀ t, t ∈ l → P.eqGuardType P.depth t = false ∧ P.stoodInHeld t = false
  | [], _, x, h => by simp at h
  | v :: l, h, x, hx => by
    simp only [chkEqs, Bool.and_eq_true, Bool.not_eq_true'] at h
    rcases List.mem_cons.1 hx with rfl | hx
    · exact h.1
    · exact chkEqs_eq h.2 x hx
theorem info_at {t : TypeId} {i : TypeInfo} (h : P.types[t]? = some i) : P.info? t = some i := by
  unfold Tables.info?
  rw [if_pos (Array.getElem?_eq_some_iff.1 h).1]
  exact h
theorem mkG_funcs (f : FuncId) : (mkG P eqs rows ext).funcs.get f = P.funcs[f]? := by
  show (T.ofList some P.funcs.size P.funcs.toList).get f = _
  rw [T.get_ofList _ _ _ _ (by simp)]
  simp
theorem mkG_ty (t : TypeId) : (mkG P eqs rows ext).ty t = (P.types[t]?).bind (mkTY (T.ofList some P.types.size P.types.toList)) := by
  show (T.ofList _ P.types.size P.types.toList).get t = _
  rw [T.get_ofList _ _ _ _ (by simp)]
  simp
theorem mkG_tyOK {t : TypeId} {ty : TY} (h : (mkG P eqs rows ext).ty t = some ty) : TYOk P t ty ∧ ∃ i, P.types[t]? = some i ∧ ty.size = i.size := by
  rw [mkG_ty] at h
  obtain ⟨i, ht, h⟩ := Option.bind_eq_some_iff.1 h
  · have hu : ∀ u, (T.ofList some P.types.size P.types.toList).get u = P.types[u]? := fun u => by
      rw [T.get_ofList _ _ _ _ (by simp)]; simp
    have h : mkTY (T.ofList some P.types.size P.types.toList) i = some ty := h
    have go : ∀ d, P.underlying t = some d → ty = ⟨d, i.size, (match d with | .struct _ => true | .array _ _ => true | _ => false), (match i.zero with | some z => ofValue z | none => none), i.methods⟩ → TYOk P t ty ∧ ∃ i, P.types[t]? = some i ∧ ty.size = i.size := by
      intro d hd e
      subst e
      refine ⟨⟨hd, ⟨i, info_at ht, rfl, rfl, fun z hz => ?_⟩, rfl⟩, i, ht, rfl⟩
      simp only at hz
      split at hz
      · rename_i c hc
        exact ⟨c, hc, fun ρ => ofValue_rel hz⟩
      · cases hz
    unfold mkTY at h
    simp only at h
    split at h
    · rename_i u hd
      split at h
      · rename_i j hj
        rw [hu] at hj
        cases h
        refine go _ ?_ rfl
        have ht' : P.info? t = some i := info_at ht
        have hj' := info_at hj
        unfold Program.underlying
        rw [ht']
        split
        · rename_i i' a u' he
          cases he
          cases hd
          rw [hj']
          rfl
        · rename_i i' hne he
          cases he
          obtain ⟨d1, d2, d3, d4, d5, d6, d7, d8, d9, d10⟩ := i
          simp only at hd
          subst hd
          exact (hne _ _ _ _ _ _ _ _ _ _ _ rfl).elim
        · rename_i he; cases he
      · cases h
    · cases h
    · rename_i d hne _
      cases h
      refine go _ ?_ rfl
      have ht' : P.info? t = some i := info_at ht
      unfold Program.underlying
      rw [ht']
      split
      · rename_i i' a u he
        cases he
        exact absurd rfl (hne _ _)
      · rename_i i' hne' he
        cases he
        rfl
      · rename_i he; cases he

theorem chkTypes_any {ext' : FuncId → List V → H → Option (V × H)} : ∀ {l : List TypeInfo} {k : Nat}, chkTypes (mkG P eqs rows ext) l k = chkTypes (mkG P eqs rows ext') l k
  | [], _ => rfl
  | i :: l, k => by
    have h0 : chkTypes (mkG P eqs rows ext) l (Nat.succ k) = chkTypes (mkG P eqs rows ext') l (Nat.succ k) := chkTypes_any
    simp only [chkTypes]
    have h1 : chkType (mkG P eqs rows ext) k i = chkType (mkG P eqs rows ext') k i := by
      have hty : ∀ t, (mkG P eqs rows ext).ty t = (mkG P eqs rows ext').ty t := fun _ => rfl
      have hf : ∀ s (l : List Field), chkFields (mkG P eqs rows ext) s l = chkFields (mkG P eqs rows ext') s l := fun s l => by
        induction l with
        | nil => rfl
        | cons f l ih =>
          have h2 : chkField (mkG P eqs rows ext) s f = chkField (mkG P eqs rows ext') s f := rfl
          simp only [chkFields, ih, h2]
      unfold chkType
      rw [hty]
      simp only [hf]
    rw [h1, h0]
theorem mkG_ok (hf : chkFuncs P.funcs.toList = true) (ht' : chkTypes (mkG P eqs rows fun _ _ _ => none) P.types.toList 0 = true) (he : chkEqs P eqs = true)
    (hr : ∀ r, r ∈ rows → ∃ fn, P.funcs[r.1]? = some fn ∧ fn.name ≠ "runtime.NumGoroutine" ∧ fn.body = none ∧ Extern.findNext fn = none ∧ Extern.find fn = some (rowSem r.2)) (hm : P.follows .mixedOrders = true) :
    GOk P (mkG P eqs rows ext) ∧ Codes (mkG P eqs rows ext) := by
  have ht : chkTypes (mkG P eqs rows ext) P.types.toList 0 = true := chkTypes_any.trans ht'
  have hfn : ∀ f fn, (mkG P eqs rows ext).funcs.get f = some fn → P.funcs[f]? = some fn ∧ chkFunc fn = true := fun f fn h => by
    rw [mkG_funcs] at h
    exact ⟨h, chkFuncs_eq hf fn (by simpa using Array.mem_of_getElem? h)⟩
  refine ⟨⟨fun f fn h => ?_, fun t ty h => (mkG_tyOK h).1, fun t h => ?_, fun f r h => ?_, fun t ty fs h hd f hfs => ?_, fun t ty h => ?_, hm⟩, fun f fn c h hb => ?_⟩
  · obtain ⟨a, b⟩ := hfn f fn h
    simp only [chkFunc, Bool.and_eq_true, Bool.not_eq_true'] at b
    exact ⟨a, fun q => by have := b.1; rw [q] at this; simp at this⟩
  · exact chkEqs_eq he t (by simpa [mkG] using h)
  · simp only [mkG] at h
    split at h
    · rename_i r' hr'
      cases h
      have h1 := List.find?_some hr'
      have h2 := List.mem_of_find?_eq_some hr'
      rw [T.beq_true] at h1
      subst h1
      exact hr r' h2
    · cases h
  · obtain ⟨i, hi, hs⟩ := (mkG_tyOK h).2
    have := chkTypes_eq ht t i (by simpa using hi)
    rw [Nat.zero_add] at this
    simp only [chkType, h, hd, Bool.and_eq_true] at this
    have := chkFields_eq this.2 f hfs
    simp only [chkField] at this
    split at this
    · rename_i ft hft
      simp only [Bool.and_eq_true, Bool.or_eq_true] at this
      refine ⟨ft, hft, Nat.le_of_ble_eq_true this.1, fun q => ?_⟩
      rcases this.2 with a | a
      · rw [q] at a; cases a
      · exact blt_true a
    · cases this
  · obtain ⟨i, hi, hs⟩ := (mkG_tyOK h).2
    have := chkTypes_eq ht t i (by simpa using hi)
    rw [Nat.zero_add] at this
    simp only [chkType, h, Bool.and_eq_true] at this
    obtain ⟨⟨h1, h2⟩, _⟩ := this
    split at h2
    · rename_i z hz
      simp only [Bool.and_eq_true] at h2
      exact ⟨i, z, info_at hi, Nat.le_of_ble_eq_true h1, hz, (T.beq_true).1 h2.1, oneB_eq h2.2⟩
    · cases h2
  · obtain ⟨a, b⟩ := hfn f fn h
    simp only [chkFunc, Bool.and_eq_true, hb] at b
    exact b.2
theorem ext_none : ExtOK P (mkG P eqs rows fun _ _ _ => none) := fun f args h v h' q => by cases q
end
end Go.Ev
/- How the evaluator is used: contracts that say nothing of the evaluator's memory. -/
namespace Go.Ev
open Go.RowKit
/-- nothing that the memory knows can be written -/
def AllRo (h : H) : Prop := ∀ b o, h.tr.get b = some o → o.rw = false
section
variable {P : Program} {G : Γ}
theorem Ext.below {ρ ρ' : Ren} {h h' : H} {w w' : World} (e : Ext ρ h w ρ' h' w') (hr : AllRo h) : Below w.heap.size w w' :=
  ⟨e.os, e.tape, e.output, e.size, fun k hk => e.frame k hk fun b o L hb hrw _ => by rw [hr b o hb] at hrw; cases hrw⟩
theorem below_post {ρ : Ren} {h : H} {w w' : World} (hS : Sim ρ h w) (hb : Below w.heap.size w w') : Sim ρ h w' ∧ Ext ρ h w ρ h w' :=
  ⟨⟨hS.glob, hS.dom, fun b o hbo => let ⟨L, c, l1, l2, l3⟩ := hS.live b o hbo; ⟨L, c, l1, by rw [hb.block _ (hS.lt hbo l1)]; exact l2, l3⟩, hS.inj⟩,
   ⟨Nat.le_refl _, fun _ _ => rfl, hb.size, fun B hB _ => hb.block B hB, fun b o L x y _ => ⟨b, o, L, x, y, rfl, fun q => q⟩, hb.tape, hb.os, hb.output⟩⟩

/-- memory that knows nothing but what may be read -/
theorem call_below (hG : GOk P G) (hcodes : Codes G) (hext : ExtOK P G) {n : Nat} {f : FuncId} {args : List V} {h h' : H} {v : V} (hr : evT G n f args h = some (v, h')) (hro : AllRo h) {ρ : Ren} {cargs : Array Value} {w : World} (ha : Rels ρ args cargs.toList) (hS : Sim ρ h w) (k : Nat) :
    CallsIn Fence.wide k P f cargs w (fun e w' => ∃ c, e = .returned c ∧ Below w.heap.size w w' ∧ ∃ ρ', ρ.le ρ' ∧ Rel ρ' v c) :=
  (evT_ok hG hcodes hext hr ha hS k).mono fun _ _ ⟨c, he, ρ', _, x2, x3⟩ => ⟨c, he, x2.below hro, ρ', x2.le hS, x3⟩

/-- a code, by the evaluator -/
theorem code_use (hG : GOk P G) (hcodes : Codes G) (hext : ExtOK P G) {n : Nat} {c : Code} {rd : Option Nat} {fn : FuncId} {st st' : St} {x : X} (he : evC G n c rd fn st = some (x, st')) (hok : okC c = true) {ρ : Ren} {F : Fence} {a : Act} {w : World} {k : Nat} {Q : Exit → Act → World → Prop}
    (hF : FRel ρ rd F) (hS : Sim ρ st.h w) (hE : ERel ρ st.env a.tmps) (hD : DRel ρ st.defs a.defers)
    (hQ : ∀ ρ' a' w', Sim ρ' st'.h w' → Ext ρ st.h w ρ' st'.h w' → ERel ρ' st'.env a'.tmps → DRel ρ' st'.defs a'.defers → Q (XE x) a' w') : c.wpIn F k P Q a w :=
  evC_ok hG hcodes hext n c rd fn st x st' he hok ρ F a w k Q hF hS hE hD hQ

/-- the way out of a function -/
theorem body_out (hG : GOk P G) {fn : Func} {n : Nat} {ρ ρ' : Ren} {h h' h2 : H} {w w' : World} {env : Env} {defs : List Nat} {a' : Act} {v : V} {R : Ending → World → Prop} (ht : takeAll defs h' = some h2) (hv : resultsO G h2 env fn = some v) (hX : Ext ρ h w ρ' h' w')
    (hS : Sim ρ' h' w') (hE : ERel ρ' env a'.tmps) (hD : DRel ρ' defs a'.defers) (hR : ∀ c w2, Rel ρ' v c → Sim ρ' h2 w2 → Ext ρ h w ρ' h2 w2 → R (.returned c) w2) : LeavesInM Fence.wide n P fn a'.tmps R a'.defers .returning w' :=
  leaves_ok hG hv ht hD hS hE fun c w2 c1 c2 c3 => hR c w2 c1 c2 (hX.trans c3)

/-- is it a way out with such a result? -/
noncomputable def outIs (G : Γ) (fn : Func) (ok : V → Bool) (r : Option (X × St)) : Bool :=
  match r with
  | some (x, st) => (match x with
    | .exit _ => false
    | _ => true) && (match takeAll st.defs st.h with
    | some h2 => match resultsO G h2 st.env fn with
      | some v => ok v
      | none => false
    | none => false)
  | none => false
theorem outIs_eq {G : Γ} {fn : Func} {ok : V → Bool} {r : Option (X × St)} (h : outIs G fn ok r = true) : ∃ x st h2 v, r = some (x, st) ∧ (x = .normal ∨ x = .ret) ∧ takeAll st.defs st.h = some h2 ∧ resultsO G h2 st.env fn = some v ∧ ok v = true := by
  unfold outIs at h
  split at h
  · rename_i x st
    simp only [Bool.and_eq_true] at h
    obtain ⟨h1, h3⟩ := h
    split at h3
    · rename_i h2 ht
      split at h3
      · rename_i v hv
        refine ⟨x, st, h2, v, rfl, ?_, ht, hv, h3⟩
        cases x with
        | normal => exact .inl rfl
        | ret => exact .inr rfl
        | exit id => cases h1
      · cases h3
    · cases h3
  · cases h
/-- a code that leaves the function with such a result -/
theorem code_out (hG : GOk P G) (hcodes : Codes G) (hext : ExtOK P G) {n : Nat} {c : Code} {f : FuncId} {fn : Func} {st : St} {ok : V → Bool} (he : outIs G fn ok (evC G n c none f st) = true) (hok : okC c = true) {ρ : Ren} {a : Act} {w : World} {k : Nat} {R : Ending → World → Prop}
    (hS : Sim ρ st.h w) (hE : ERel ρ st.env a.tmps) (hD : DRel ρ st.defs a.defers)
    (hR : ∀ ρ' v h2 c w2, ok v = true → Rel ρ' v c → Sim ρ' h2 w2 → Ext ρ st.h w ρ' h2 w2 → R (.returned c) w2) : c.wpIn Fence.wide k P (bodyPostM Fence.wide k P fn R) a w := by
  obtain ⟨x, st', h2, v, e1, e2, e3, e4, e5⟩ := outIs_eq he
  refine code_use hG hcodes hext e1 hok rfl hS hE hD fun ρ' a' w' s1 s2 s3 s4 => ?_
  have := body_out (n := k) (R := R) hG e3 e4 s2 s1 s3 s4 fun c w2 c1 c2 c3 => hR ρ' v h2 c w2 e5 c1 c2 c3
  rcases e2 with rfl | rfl
  · exact this
  · exact this
end

/-! ### a memory that knows one package-level variable of bytes -/
def bytesV (l : List Nat) : List V := l.map fun n => .int .u8 (.ofNat n)
noncomputable def hLet (l : List Nat) (next : Nat) : H := ⟨T.put .leaf 0 (some (.ro none l.length (bytesV l) .leaf)), next⟩
def rLet (z : Nat) : Ren := fun g => if g < 1000 then some (g, 0, z) else none
/-- the variable is as its initialiser lays it -/
def LetOk (l : List Nat) (w : World) : Prop := ∃ cs el fr, w.heap[0]? = some (.cells cs el fr) ∧ ∀ i, i < l.length → cs[i]? = some (.int .u8 (.ofNat (l.getD i 0)))
theorem hLet_get {l : List Nat} {next b : Nat} {o : O} (h : (hLet l next).tr.get b = some o) : b = 0 ∧ o = .ro none l.length (bytesV l) .leaf := by
  simp only [hLet, T.get_put] at h
  split at h
  · rename_i e; cases h; exact ⟨e, rfl⟩
  · rw [T.get_leaf] at h; cases h
theorem hLet_ro (l : List Nat) (next : Nat) : AllRo (hLet l next) := fun b o h => by rw [(hLet_get h).2]; rfl
theorem bytes_crel (ρ : Ren) {l : List Nat} {cs : Array Value} (get : ∀ i, i < l.length → cs[i]? = some (.int .u8 (.ofNat (l.getD i 0)))) : CRel ρ l.length (bytesV l) .leaf cs 0 := by
  refine ⟨fun i x hi hx => ?_, fun i v x hv hx => ?_⟩
  · rw [Nat.zero_add, get i hi] at hx; cases hx; rfl
  · have hi := cell_lt hv
    rw [Nat.zero_add, get i hi] at hx; cases hx
    have hb : Nat.blt i l.length = true := Nat.ble_eq_true_of_le hi
    have hn : nth (bytesV l) i = some (.int .u8 (.ofNat (l.getD i 0))) := by rw [nth_eq]; simp [bytesV, hi]
    simp only [cell, hb, T.get_leaf, patAt, hn] at hv
    cases hv
    exact .int _ _
theorem sim_let {l : List Nat} {w : World} (h : LetOk l w) : ∃ z, ∀ next, 1000 ≤ next → Sim (rLet z) (hLet l next) w := by
  obtain ⟨cs, el, fr, hw, hc⟩ := h
  refine ⟨cs.size, fun next hn => ⟨fun g hg => ⟨cs.size, by simp [rLet, hg]⟩, fun b L hb => ?_, fun b o hb => ?_, fun b b' o o' L L' hb hb' _ _ _ => ?_⟩⟩
  · simp only [rLet] at hb
    split at hb
    · show b < next
      omega
    · cases hb
  · obtain ⟨rfl, rfl⟩ := hLet_get hb
    have hle : l.length ≤ cs.size := by
      cases hl : l.length with
      | zero => omega
      | succ n =>
        have := (Array.getElem?_eq_some_iff.1 (hc n (by omega))).1
        omega
    exact ⟨(0, 0, cs.size), _, by simp [rLet], hw, cs, el, fr, rfl, rfl, by simpa using hle, fun e' he => by simp at he, bytes_crel _ hc⟩
  · rw [(hLet_get hb).1, (hLet_get hb').1]
theorem LetOk.kept {l : List Nat} {w w' : World} (h : LetOk l w) (hb : Below w.heap.size w w') : LetOk l w' := by
  obtain ⟨cs, el, fr, hw, hc⟩ := h
  exact ⟨cs, el, fr, by rw [hb.block 0 (Array.getElem?_eq_some_iff.1 hw).1]; exact hw, hc⟩
/-- does the memory know the variable? -/
def eqNats : List V → List Nat → Bool
  | [], [] => true
  | .int .u8 (.ofNat a) :: l, n :: m => Nat.beq a n && eqNats l m
  | _, _ => false
noncomputable def knows (l : List Nat) (h : H) : Bool :=
  match h.tr.get 0 with
  | some (.ro _ n pat .leaf) => Nat.beq n l.length && eqNats pat l
  | _ => false
theorem eqNats_eq : ∀ {a : List V} {b : List Nat}, eqNats a b = true → a = bytesV b
  | [], [], _ => rfl
  | .int .u8 (.ofNat a) :: l, n :: m, h => by
    simp only [eqNats, Bool.and_eq_true, T.beq_true] at h
    obtain ⟨rfl, h⟩ := h
    rw [eqNats_eq h]; rfl
theorem knows_let {l : List Nat} {h : H} (hk : knows l h = true) {ρ : Ren} {w : World} (hS : Sim ρ h w) : LetOk l w := by
  unfold knows at hk
  split at hk
  · rename_i e n pat h0
    simp only [Bool.and_eq_true, T.beq_true] at hk
    obtain ⟨rfl, hp⟩ := hk
    have hp := eqNats_eq hp
    subst hp
    obtain ⟨L, c, l1, l2, l3⟩ := hS.live 0 _ h0
    obtain ⟨z, hz⟩ := hS.glob 0 (by decide)
    rw [hz] at l1; cases l1
    obtain ⟨cs, el, fr, rfl, s1, s2, _, s3⟩ := l3
    refine ⟨cs, el, fr, l2, fun i hi => ?_⟩
    simp only [Nat.zero_add] at s1 s2 s3
    have hlt : i < cs.size := by omega
    have hc : cs[i]? = some cs[i] := Array.getElem?_eq_getElem hlt
    have hb : Nat.blt i l.length = true := Nat.ble_eq_true_of_le hi
    have hn : nth (bytesV l) i = some (.int .u8 (.ofNat (l.getD i 0))) := by rw [nth_eq]; simp [bytesV, hi]
    have hv : cell l.length (bytesV l) .leaf i = some (.int .u8 (.ofNat (l.getD i 0))) := by simp only [cell, hb, T.get_leaf, patAt, hn]
    have := s3.2 i _ cs[i] hv (by rw [Nat.zero_add]; exact hc)
    rw [hc]
    generalize cs[i] = x at this
    cases this
    rfl
  · cases hk
end Go.Ev
/- Memory that knows several package-level variables, each laid by its initialiser and never written again. -/
namespace Go.Ev
open Go.RowKit
noncomputable def varsT (gs : List (Nat × List V)) : T O := gs.foldr (fun p t => T.put t p.1 (some (.ro (some 0) p.2.length p.2 .leaf))) .leaf
noncomputable def hVars (gs : List (Nat × List V)) (next : Nat) : H := ⟨varsT gs, next⟩
def rVars (z : Nat → Nat) : Ren := fun g => if g < 1000 then some (g, 0, z g) else none
/-- the cells of each variable, in whatever naming of the blocks -/
def VarsOk (gs : List (Nat × List V)) (w : World) : Prop := ∀ (g : Nat) (l : List V), (g, l) ∈ gs → g < 1000 ∧ ∃ cs el fr, w.heap[g]? = some (.cells cs el fr) ∧ cs.size = l.length ∧ ∀ (i : Nat) (v : V), l[i]? = some v → ∃ x : Value, cs[i]? = some x ∧ one x = true ∧ ∀ ρ, Rel ρ v x
theorem varsT_get : ∀ {gs : List (Nat × List V)} {b : Nat} {o : O}, (varsT gs).get b = some o → ∃ l, (b, l) ∈ gs ∧ o = .ro (some 0) l.length l .leaf
  | [], b, o, h => by simp only [varsT, List.foldr_nil, T.get_leaf] at h; cases h
  | (g, l) :: gs, b, o, h => by
    have h : (T.put (varsT gs) g (some (.ro (some 0) l.length l .leaf))).get b = some o := h
    rw [T.get_put] at h
    split at h
    · rename_i e
      cases h; subst e
      exact ⟨l, by simp, rfl⟩
    · obtain ⟨l', a, c⟩ := varsT_get h
      exact ⟨l', by simp [a], c⟩
theorem hVars_ro (gs : List (Nat × List V)) (next : Nat) : AllRo (hVars gs next) := fun b o h => by
  obtain ⟨l, _, rfl⟩ := varsT_get h
  rfl
def roomOf (w : World) (g : Nat) : Nat :=
  match w.heap[g]? with
  | some (.cells cs _ _) => cs.size
  | _ => 0
theorem sim_vars {gs : List (Nat × List V)} {w : World} (h : VarsOk gs w) {next : Nat} (hn : 1000 ≤ next) : Sim (rVars (roomOf w)) (hVars gs next) w := by
  refine ⟨fun g hg => ⟨roomOf w g, by simp [rVars, hg]⟩, fun b L hb => ?_, fun b o hb => ?_, fun b b' o o' L L' hb hb' hL hL' he => ?_⟩
  · simp only [rVars] at hb
    split at hb
    · show b < next
      omega
    · cases hb
  · obtain ⟨l, hm, rfl⟩ := varsT_get hb
    obtain ⟨hg, cs, el, fr, hw, hsz, hc⟩ := h b l hm
    have hle : l.length ≤ cs.size := by omega
    refine ⟨(b, 0, roomOf w b), _, by simp [rVars, hg], hw, cs, el, fr, rfl, by simp [roomOf, hw], by simpa [roomOf, hw] using hle, fun e' _ => ⟨rfl, by simpa [roomOf, hw] using hsz⟩, fun i x hi hx => ?_, fun i v x hv hx => ?_⟩
    · obtain ⟨y, y1, y2, _⟩ := hc i _ (List.getElem?_eq_getElem hi)
      simp only [Nat.zero_add] at hx
      rw [y1] at hx; cases hx
      exact y2
    · have hi := cell_lt hv
      have hb' : Nat.blt i l.length = true := Nat.ble_eq_true_of_le hi
      have hn' : nth l i = some l[i] := by rw [nth_eq]; exact List.getElem?_eq_getElem hi
      simp only [cell, hb', T.get_leaf, patAt, hn'] at hv
      cases hv
      obtain ⟨y, y1, _, y3⟩ := hc i _ (List.getElem?_eq_getElem hi)
      simp only [Nat.zero_add] at hx
      rw [y1] at hx; cases hx
      exact y3 _
  · simp only [rVars] at hL hL'
    split at hL
    · split at hL'
      · cases hL; cases hL'; exact he
      · cases hL'
    · cases hL
theorem VarsOk.kept {gs : List (Nat × List V)} {w w' : World} (h : VarsOk gs w) (hb : Below w.heap.size w w') : VarsOk gs w' := fun g l hm => by
  obtain ⟨hg, cs, el, fr, hw, hsz, hc⟩ := h g l hm
  exact ⟨hg, cs, el, fr, by rw [hb.block g (Array.getElem?_eq_some_iff.1 hw).1]; exact hw, hsz, hc⟩
/-- whole numbers of one kind, as an initialiser lays them -/
def intsV (k : IntKind) (l : List Nat) : List V := l.map fun n => .int k (.ofNat n)
theorem ints_one {k : IntKind} {l : List Nat} {cs : Array Value} (h : ∀ i, i < l.length → cs[i]? = some (.int k (.ofNat (l.getD i 0)))) : ∀ (i : Nat) (v : V), (intsV k l)[i]? = some v → ∃ x : Value, cs[i]? = some x ∧ one x = true ∧ ∀ ρ, Rel ρ v x := fun i v hv => by
  have hi := (List.getElem?_eq_some_iff.1 hv).1
  have hi : i < l.length := by simpa [intsV] using hi
  refine ⟨_, h i hi, rfl, fun ρ => ?_⟩
  have : v = .int k (.ofNat (l.getD i 0)) := by
    simp [intsV, hi] at hv
    simp [hi, hv]
  rw [this]
  exact .int _ _
end Go.Ev
/- A region in parts; conditions whose outcome is not known; a loop, round by round. -/
namespace Go.Ev
section
variable {P : Program} {G : Γ}
/-- the operations of a region from i on, n of them -/
def opsPart (ops : Array Oper) (i n : Nat) : List Oper := (ops.toList.drop i).take n
theorem regS_part (hG : GOk P G) {call : CallF} (hcall : CallS P call) {F : Fence} (hF : Wide F) {k : Nat} {ops : Array Oper} {Q : Exit → Act → World → Prop} {m : Nat} :
    ∀ (seg : List Oper) (i : Nat), (∀ j o, seg[j]? = some o → ops[i + j]? = some o) → ∀ (ρ : Ren) (env env' : Env) (h h' : H) (a : Act) (w : World), regS G call ops seg env h = some (env', h') → Sim ρ h w → ERel ρ env a.tmps →
      (∀ ρ' a' w', Sim ρ' h' w' → Ext ρ h w ρ' h' w' → ERel ρ' env' a'.tmps → a'.defers = a.defers → wpOpsIn F k P ops Q (List.range' (i + seg.length) m) a' w') → wpOpsIn F k P ops Q (List.range' i (seg.length + m)) a w
  | [], i, _, ρ, env, env', h, h', a, w, hr, hS, he, hQ => by
    simp only [regS] at hr
    cases hr
    have := hQ ρ a w hS (Ext.refl _ _ _) he rfl
    simpa using this
  | o :: rest, i, hi, ρ, env, env', h, h', a, w, hr, hS, he, hQ => by
    have hoi : ops[i]? = some o := hi 0 o rfl
    have hi' : ∀ j o', rest[j]? = some o' → ops[i + 1 + j]? = some o' := fun j o' h => by
      have := hi (j + 1) o' (by simpa using h)
      rw [show i + 1 + j = i + (j + 1) by omega]
      exact this
    have hlen : (o :: rest).length + m = (rest.length + m) + 1 := by simp only [List.length_cons]; omega
    rw [hlen, List.range'_succ]
    simp only [wpOpsIn, hoi]
    have hQ' : ∀ ρ' a' w', Sim ρ' h' w' → Ext ρ h w ρ' h' w' → ERel ρ' env' a'.tmps → a'.defers = a.defers → wpOpsIn F k P ops Q (List.range' (i + 1 + rest.length) m) a' w' := fun ρ' a' w' q1 q2 q3 q4 => by
      have := hQ ρ' a' w' q1 q2 q3 q4
      rw [show i + 1 + rest.length = i + (o :: rest).length by simp only [List.length_cons]; omega]
      exact this
    simp only [regS] at hr
    split at hr
    · rename_i hw
      rw [wanted_rel he hw, if_pos rfl]
      split at hr
      · rename_i v h1 hst
        split at hr
        · rename_i env1 hput
          refine ⟨fun f _ => hF.fn f, (step1_ok hG hcall hst hS he F.round).upon hF fun c w1 hp => ?_⟩
          obtain ⟨ρ1, p1, p2, p3⟩ := hp
          have hle := p2.le hS
          refine regS_part hG hcall hF rest (i + 1) hi' ρ1 env1 env' h1 h' _ w1 hr p1 (put_rel (he.mono hle) hput p3) fun ρ' a' w' q1 q2 q3 q4 => hQ' ρ' a' w' q1 (p2.trans q2) q3 ?_
          rw [q4]
          cases o.dst <;> rfl
        · cases hr
      · cases hr
    · rename_i hw
      rw [wanted_rel he hw]
      simp only [Bool.false_eq_true, if_false]
      split at hr
      · rename_i env1 hput
        refine ⟨fun f _ => hF.fn f, ?_⟩
        refine regS_part hG hcall hF rest (i + 1) hi' ρ env1 env' h h' _ w hr hS (put_rel he hput .undef) fun ρ' a' w' q1 q2 q3 q4 => hQ' ρ' a' w' q1 q2 q3 ?_
        rw [q4]
        cases o.dst <;> rfl
      · cases hr
    · cases hr
theorem part_at {ops : Array Oper} {i n : Nat} (j : Nat) (o : Oper) (h : (opsPart ops i n)[j]? = some o) : ops[i + j]? = some o := by
  unfold opsPart at h
  rw [List.getElem?_take] at h
  split at h
  · rw [List.getElem?_drop] at h
    simpa using h
  · cases h
theorem part_len {ops : Array Oper} {i n : Nat} (h : i + n ≤ ops.size) : (opsPart ops i n).length = n := by
  unfold opsPart
  simp
  omega
/-- a part of a region -/
theorem part_use (hG : GOk P G) (hcodes : Codes G) (hext : ExtOK P G) {N : Nat} {F : Fence} (hF : Wide F) {k : Nat} {ops : Array Oper} {Q : Exit → Act → World → Prop} {i n m : Nat} (hle : i + n ≤ ops.size) {ρ : Ren} {env env' : Env} {h h' : H} {a : Act} {w : World}
    (hr : regS G (callT G (evC G N)) ops (opsPart ops i n) env h = some (env', h')) (hS : Sim ρ h w) (he : ERel ρ env a.tmps)
    (hQ : ∀ ρ' a' w', Sim ρ' h' w' → Ext ρ h w ρ' h' w' → ERel ρ' env' a'.tmps → a'.defers = a.defers → wpOpsIn F k P ops Q (List.range' (i + n) m) a' w') : wpOpsIn F k P ops Q (List.range' i (n + m)) a w := by
  have hl := part_len hle
  have := regS_part (m := m) (Q := Q) (k := k) hG (callT_ok hG (evC_ok hG hcodes hext N) hcodes hext) hF (opsPart ops i n) i part_at ρ env env' h h' a w hr hS he (by rw [hl]; exact hQ)
  rw [hl] at this
  exact this
/-- a region, its parts one after the other -/
theorem region_parts {F : Fence} {k id : Nat} {ops : Array Oper} {Q : Exit → Act → World → Prop} {a : Act} {w : World} (h : wpOpsIn F k P ops Q (List.range' 0 ops.size) a w) : (Code.region id ops false).wpIn F k P Q a w :=
  wpIn_region (by rw [List.range_eq_range']; exact h)
/-- a condition of which only that it is a bool is known -/
theorem cond_split {F : Fence} {k : Nat} {Q : Exit → Act → World → Prop} {ρ : Ren} {env : Env} {a : Act} {w : World} {c : Operand} {x y : Code} {b : Bool} (hg : Glob ρ) (he : ERel ρ env a.tmps) (hc : env.get c = some (.bool b))
    (h1 : b = true → x.wpIn F k P Q a w) (h2 : b = false → y.wpIn F k P Q a w) : (Code.cond c x y).wpIn F k P Q a w := by
  have := eval_rel hg he c _ hc
  generalize hcc : a.eval c = cc at this
  cases this
  cases b
  · exact wpIn_cond_false hcc (h2 rfl)
  · exact wpIn_cond_true hcc (h1 rfl)
end
noncomputable section
/-- parts of a code -/
def cFst : Code → Code
  | .seq a _ => a
  | .block _ b => b
  | .loop b => b
  | .cond _ a _ => a
  | c => c
def cSnd : Code → Code
  | .seq _ b => b
  | .cond _ _ b => b
  | c => c
def cOps : Code → Array Oper
  | .region _ ops _ => ops
  | _ => #[]
def stOf (r : Option (X × St)) : St :=
  match r with
  | some (_, st) => st
  | none => ⟨⟨0, .leaf⟩, ⟨.leaf, 0⟩, []⟩
def envOf (r : Option (Env × H)) : Env :=
  match r with
  | some (e, _) => e
  | none => ⟨0, .leaf⟩
def memOf (r : Option (Env × H)) : H :=
  match r with
  | some (_, h) => h
  | none => ⟨.leaf, 0⟩
def putOf (r : Option Env) : Env :=
  match r with
  | some e => e
  | none => ⟨0, .leaf⟩
def goes (x : X) (r : Option (X × St)) : Bool :=
  match r, x with
  | some (.normal, _), .normal => true
  | some (.exit a, _), .exit b => Nat.beq a b
  | some (.ret, _), .ret => true
  | _, _ => false
theorem goes_eq {x : X} {r : Option (X × St)} (h : goes x r = true) : r = some (x, stOf r) := by
  unfold goes at h
  split at h
  · rfl
  · rw [T.beq_true] at h; subst h; rfl
  · rfl
  · cases h
def some? (r : Option (Env × H)) : Bool :=
  match r with
  | some _ => true
  | none => false
theorem some?_eq {r : Option (Env × H)} (h : some? r = true) : r = some (envOf r, memOf r) := by
  unfold some? at h
  split at h
  · rfl
  · cases h
end
end Go.Ev
/- A walk by the evaluator, state by state. -/
namespace Go.Ev
open Go.RowKit
/-- an activation's state stands as the evaluator has it; what has turned since the beginning -/
def At (ρ0 : Ren) (h0 : H) (w0 : World) (st : St) (a : Act) (w : World) : Prop :=
  ∃ ρ, Sim ρ st.h w ∧ Ext ρ0 h0 w0 ρ st.h w ∧ ERel ρ st.env a.tmps ∧ DRel ρ st.defs a.defers
section
variable {P : Program} {G : Γ} (hG : GOk P G) (hcodes : Codes G) (hext : ExtOK P G) {ρ0 : Ren} {h0 : H} {w0 : World} {st : St} {a : Act} {w : World} {k : Nat} {Q : Exit → Act → World → Prop}
theorem at_code (hG : GOk P G) (hcodes : Codes G) (hext : ExtOK P G) {N : Nat} {c : Code} {fn : FuncId} {x : X} (hA : At ρ0 h0 w0 st a w) (he : goes x (evC G N c none fn st) = true) (hok : okC c = true)
    (hQ : ∀ a' w', At ρ0 h0 w0 (stOf (evC G N c none fn st)) a' w' → Q (XE x) a' w') : c.wpIn Fence.wide k P Q a w := by
  obtain ⟨ρ, s1, s2, s3, s4⟩ := hA
  exact code_use hG hcodes hext (goes_eq he) hok rfl s1 s3 s4 fun ρ' a' w' t1 t2 t3 t4 => hQ a' w' ⟨ρ', t1, s2.trans t2, t3, t4⟩
theorem at_seq (hG : GOk P G) (hcodes : Codes G) (hext : ExtOK P G) {N : Nat} {c d : Code} {fn : FuncId} (hA : At ρ0 h0 w0 st a w) (he : goes .normal (evC G N c none fn st) = true) (hok : okC c = true)
    (hQ : ∀ a' w', At ρ0 h0 w0 (stOf (evC G N c none fn st)) a' w' → d.wpIn Fence.wide k P Q a' w') : (Code.seq c d).wpIn Fence.wide k P Q a w :=
  wpIn_seq (at_code hG hcodes hext hA he hok hQ)
theorem at_out (hG : GOk P G) (hcodes : Codes G) (hext : ExtOK P G) {N : Nat} {c : Code} {f : FuncId} {fn : Func} {ok : V → Bool} {R : Ending → World → Prop} (hA : At ρ0 h0 w0 st a w) (he : outIs G fn ok (evC G N c none f st) = true) (hok : okC c = true)
    (hR : ∀ ρ' v h2 c w2, ok v = true → Rel ρ' v c → Sim ρ' h2 w2 → Ext ρ0 h0 w0 ρ' h2 w2 → R (.returned c) w2) : c.wpIn Fence.wide k P (bodyPostM Fence.wide k P fn R) a w := by
  obtain ⟨ρ, s1, s2, s3, s4⟩ := hA
  exact code_out hG hcodes hext he hok s1 s3 s4 fun ρ' v h2 c w2 t1 t2 t3 t4 => hR ρ' v h2 c w2 t1 t2 t3 (s2.trans t4)
/-- a code that returns -/
theorem at_ret (hG : GOk P G) (hcodes : Codes G) (hext : ExtOK P G) {N : Nat} {c : Code} {f : FuncId} {fn : Func} {ok : V → Bool} {R : Ending → World → Prop} (hA : At ρ0 h0 w0 st a w) (hg : goes .ret (evC G N c none f st) = true) (he : outIs G fn ok (evC G N c none f st) = true) (hok : okC c = true)
    (hR : ∀ ρ' v h2 c w2, ok v = true → Rel ρ' v c → Sim ρ' h2 w2 → Ext ρ0 h0 w0 ρ' h2 w2 → R (.returned c) w2)
    (hQ : ∀ a' w', LeavesInM Fence.wide k P fn a'.tmps R a'.defers .returning w' → Q .ret a' w') : c.wpIn Fence.wide k P Q a w := by
  refine at_code hG hcodes hext hA hg hok fun a' w' hA' => hQ a' w' ?_
  obtain ⟨x, st', h2, v, e1, _, e3, e4, e5⟩ := outIs_eq he
  rw [e1] at hA'
  obtain ⟨ρ', s1, s2, s3, s4⟩ := hA'
  exact body_out (n := k) (R := R) hG e3 e4 s2 s1 s3 s4 fun c w2 c1 c2 c3 => hR ρ' v h2 c w2 e5 c1 c2 c3
theorem at_part (hG : GOk P G) (hcodes : Codes G) (hext : ExtOK P G) {N i n m : Nat} {ops : Array Oper} (hA : At ρ0 h0 w0 st a w) (hle : i + n ≤ ops.size) {env' : Env} {h' : H} (hr : regS G (callT G (evC G N)) ops (opsPart ops i n) st.env st.h = some (env', h'))
    (hQ : ∀ a' w', At ρ0 h0 w0 ⟨env', h', st.defs⟩ a' w' → wpOpsIn Fence.wide k P ops Q (List.range' (i + n) m) a' w') : wpOpsIn Fence.wide k P ops Q (List.range' i (n + m)) a w := by
  obtain ⟨ρ, s1, s2, s3, s4⟩ := hA
  exact part_use hG hcodes hext (.inl rfl) hle hr s1 s3 fun ρ' a' w' t1 t2 t3 t4 => hQ a' w' ⟨ρ', t1, s2.trans t2, t3, by rw [t4]; exact s4.mono (t2.le s1)⟩
/-- a call whose contract is known -/
theorem at_call (hG : GOk P G) {i m : Nat} {ops : Array Oper} {o : Oper} (hA : At ρ0 h0 w0 st a w) (ho : ops[i]? = some o) (hgd : o.guard = none) {f : FuncId} {args : List V} (hact : act G st.env.get o.op = .call (some (.fn f args)))
    {fn : Func} {c : Code} (hf : P.funcs[f]? = some fn) (hname : fn.name ≠ "runtime.NumGoroutine") (hb : fn.body = some c) {Good : V → Prop}
    (hcall : ∀ ρ (cargs : Array Value), Sim ρ st.h w → Rels ρ args cargs.toList → ∀ k, CallsIn Fence.wide k P f cargs w (fun e w' => ∃ v, Good v ∧ Below w.heap.size w w' ∧ ∃ c, e = .returned c ∧ ∀ ρ, Rel ρ v c))
    (hput : ∀ v, ∃ env', st.env.put o.dst v = some env')
    (hQ : ∀ v env' a' w', Good v → st.env.put o.dst v = some env' → At ρ0 h0 w0 ⟨env', st.h, st.defs⟩ a' w' → wpOpsIn Fence.wide k P ops Q (List.range' (i + 1) m) a' w') : wpOpsIn Fence.wide k P ops Q (List.range' i (m + 1)) a w := by
  obtain ⟨ρ, s1, s2, s3, s4⟩ := hA
  rw [List.range'_succ]
  simp only [wpOpsIn, ho]
  have hw : Region.wanted o (yielded ops a.tmps) = true := by simp [Region.wanted, hgd]
  rw [hw, if_pos rfl]
  have hnd : ∀ c, o.op ≠ .defer c := fun c q => by rw [q] at hact; simp [act] at hact
  obtain ⟨sm, t1, t2⟩ := act_call (P := P) hG (eval_rel s1.glob s3) hact
  obtain ⟨cargs, ha, rfl⟩ := t1
  refine ⟨fun _ _ => trivial, ?_⟩
  rw [Oper.semAt_eq _ _ _ hnd, t2, run_callFunc_go hf hname hb]
  refine NextOk.upon (P := P) (.inl rfl) (R := fun c w' => ∃ v, Good v ∧ Below w.heap.size w w' ∧ ∀ ρ, Rel ρ v c) (fun n => (hcall ρ cargs s1 ha n).mono fun e w' ⟨v, g1, g2, c, g3, g4⟩ => ⟨c, g3, v, g1, g2, g4⟩) fun c w' hp => ?_
  obtain ⟨v, g1, g2, g3⟩ := hp
  obtain ⟨env', he⟩ := hput v
  obtain ⟨b1, b2⟩ := below_post s1 g2
  exact hQ v env' _ w' g1 he ⟨ρ, b1, s2.trans b2, put_rel s3 he (g3 ρ), by cases o.dst <;> exact s4⟩
theorem at_cond {c : Operand} {x y : Code} {b : Bool} (hA : At ρ0 h0 w0 st a w) (hc : st.env.get c = some (.bool b))
    (h1 : b = true → x.wpIn Fence.wide k P Q a w) (h2 : b = false → y.wpIn Fence.wide k P Q a w) : (Code.cond c x y).wpIn Fence.wide k P Q a w := by
  obtain ⟨ρ, s1, s2, s3, s4⟩ := hA
  exact cond_split s1.glob s3 hc h1 h2
/-- the beginning of a function -/
theorem at_enter {ρ : Ren} {h : H} (hS : Sim ρ h w) {args : List V} {cargs : Array Value} (ha : Rels ρ args cargs.toList) {n : Nat} (hn : args.length ≤ n) :
    At ρ h w ⟨⟨n, putArgs 0 args .leaf⟩, h, []⟩ { tmps := cargs ++ Array.replicate (n - cargs.size) undef, defers := [] } w :=
  ⟨ρ, hS, Ext.refl _ _ _, args_rel ha hn, trivial⟩
end
end Go.Ev
/- Calls that are known: a great run cut into parts, each computed by itself. -/
namespace Go.Ev
/-- a memory that knows no more than another -/
structure Wk (h' h : H) : Prop where
  next : h'.next = h.next
  get : ∀ x o, h'.tr.get x = some o → ∃ o1, h.tr.get x = some o1 ∧ o1.rw = o.rw ∧ ∀ ρ L c, ORel ρ o1 L c → ORel ρ o L c
theorem Sim.wk {ρ : Ren} {h h' : H} {w : World} (hS : Sim ρ h w) (hk : Wk h' h) : Sim ρ h' w := by
  refine ⟨hS.glob, fun b L hb => by rw [hk.next]; exact hS.dom b L hb, fun b o hb => ?_, fun b b' o o' L L' hb hb' e e' q => ?_⟩
  · obtain ⟨o1, h1, _, h3⟩ := hk.get b o hb
    obtain ⟨L, c, l1, l2, l3⟩ := hS.live b o1 h1
    exact ⟨L, c, l1, l2, h3 ρ L c l3⟩
  · obtain ⟨o1, h1, _⟩ := hk.get b o hb
    obtain ⟨o2, h2, _⟩ := hk.get b' o' hb'
    exact hS.inj b b' o1 o2 L L' h1 h2 e e' q
theorem Ext.wkR {ρ ρ' : Ren} {h h1 h1' : H} {w w' : World} (e : Ext ρ h w ρ' h1 w') (hk : Wk h1' h1) : Ext ρ h w ρ' h1' w' :=
  ⟨by rw [hk.next]; exact e.next, e.agree, e.size, e.frame, fun b o L hb hL hlt => by
    obtain ⟨o1, x1, x2, _⟩ := hk.get b o hb
    obtain ⟨b0, o0, L0, y1, y2, y3, y4⟩ := e.origin b o1 L x1 hL hlt
    exact ⟨b0, o0, L0, y1, y2, y3, fun q => y4 (by rw [x2]; exact q)⟩, e.tape, e.os, e.output⟩
theorem Ext.wkL {ρ ρ' : Ren} {h h2 h1 : H} {w w' : World} (e : Ext ρ h2 w ρ' h1 w') (hk : Wk h2 h) : Ext ρ h w ρ' h1 w' :=
  ⟨by rw [← hk.next]; exact e.next, fun b hb => e.agree b (by rw [hk.next]; exact hb), e.size, fun B hB hn => e.frame B hB fun b o L hb hrw hL => by
    obtain ⟨o1, x1, x2, _⟩ := hk.get b o hb
    exact hn b o1 L x1 (by rw [x2]; exact hrw) hL, fun b o L hb hL hlt => by
    obtain ⟨b0, o0, L0, y1, y2, y3, y4⟩ := e.origin b o L hb hL hlt
    obtain ⟨o1, x1, x2, _⟩ := hk.get b0 o0 y1
    exact ⟨b0, o1, L0, x1, y2, y3, fun q => by rw [x2]; exact y4 q⟩, e.tape, e.os, e.output⟩

/-! ### objects that stand for the same -/
def beqT : Option TypeId → Option TypeId → Bool
  | none, none => true
  | some a, some b => Nat.beq a b
  | _, _ => false
noncomputable def beqMap : List (V × V × Nat) → List (V × V × Nat) → Bool
  | [], [] => true
  | a :: l, b :: m => V.beq 6 a.1 b.1 && V.beq 6 a.2.1 b.2.1 && Nat.beq a.2.2 b.2.2 && beqMap l m
  | _, _ => false
noncomputable def O.beq : O → O → Bool
  | .cells e n pat tr, .cells e' n' pat' tr' => beqT e e' && Nat.beq n n' && beqCells (V.beq 6) n pat tr pat' tr' 0 n
  | .ro e n pat tr, .ro e' n' pat' tr' => beqT e e' && Nat.beq n n' && beqCells (V.beq 6) n pat tr pat' tr' 0 n
  | .map es c, .map es' c' => Nat.beq c c' && beqMap es es'
  | .deferred, .deferred => true
  | _, _ => false
theorem beqT_eq {a b : Option TypeId} (h : beqT a b = true) : a = b := by
  cases a <;> cases b <;> simp_all [beqT]
theorem beqMap_get : ∀ {a b : List (V × V × Nat)}, beqMap a b = true → b.length = a.length ∧ ∀ (i : Nat) (y : V × V × Nat), b[i]? = some y → ∃ x, a[i]? = some x ∧ V.beq 6 x.1 y.1 = true ∧ V.beq 6 x.2.1 y.2.1 = true ∧ x.2.2 = y.2.2
  | [], [], _ => ⟨rfl, fun i y h => by simp at h⟩
  | x :: a, y :: b, h => by
    simp only [beqMap, Bool.and_eq_true, T.beq_true] at h
    obtain ⟨⟨⟨h1, h2⟩, h3⟩, h4⟩ := h
    obtain ⟨l1, l2⟩ := beqMap_get h4
    refine ⟨by simp [l1], fun i z hz => ?_⟩
    cases i with
    | zero => simp at hz; subst hz; exact ⟨x, rfl, h1, h2, h3⟩
    | succ i => simp at hz; obtain ⟨u, u1, u2⟩ := l2 i z hz; exact ⟨u, by simpa using u1, u2⟩
  | [], _ :: _, h => by simp [beqMap] at h
  | _ :: _, [], h => by simp [beqMap] at h
theorem crel_beq {ρ : Ren} {n : Nat} {pat pat' : List V} {tr tr' : T V} {cs : Array Value} {d : Nat} (h : beqCells (V.beq 6) n pat tr pat' tr' 0 n = true) (hr : CRel ρ n pat tr cs d) : CRel ρ n pat' tr' cs d := by
  refine ⟨hr.1, fun i v x hv hx => ?_⟩
  obtain ⟨u, y, u1, u2, u3⟩ := beqCells_get h i (Nat.zero_le _) (by have := cell_lt hv; omega)
  rw [hv] at u2; cases u2
  exact beq_rel u3 (hr.2 i u x u1 hx)
theorem O.beq_rel {a b : O} (h : O.beq a b = true) : a.rw = b.rw ∧ ∀ ρ L c, ORel ρ a L c → ORel ρ b L c := by
  unfold O.beq at h
  split at h
  · simp only [Bool.and_eq_true, T.beq_true] at h
    obtain ⟨⟨h1, rfl⟩, h3⟩ := h
    have := beqT_eq h1
    subst this
    refine ⟨rfl, fun ρ L c hr => ?_⟩
    obtain ⟨cs, el, lo, hi, q1, q2, q3, q4, q5, q6⟩ := hr
    exact ⟨cs, el, lo, hi, q1, q2, q3, q4, q5, crel_beq h3 q6⟩
  · simp only [Bool.and_eq_true, T.beq_true] at h
    obtain ⟨⟨h1, rfl⟩, h3⟩ := h
    have := beqT_eq h1
    subst this
    refine ⟨rfl, fun ρ L c hr => ?_⟩
    obtain ⟨cs, el, fr, q1, q2, q3, q5, q6⟩ := hr
    exact ⟨cs, el, fr, q1, q2, q3, q5, crel_beq h3 q6⟩
  · simp only [Bool.and_eq_true, T.beq_true] at h
    obtain ⟨rfl, h2⟩ := h
    refine ⟨rfl, fun ρ L c hr => ?_⟩
    obtain ⟨es', q1, q2, q3⟩ := hr
    obtain ⟨l1, l2⟩ := beqMap_get h2
    refine ⟨es', q1, by rw [q2, l1], fun i e e' he he' => ?_⟩
    obtain ⟨u, u1, u2, u3, u4⟩ := l2 i e he
    obtain ⟨r1, r2, r3⟩ := q3 i u e' u1 he'
    exact ⟨Ev.beq_rel u2 r1, Ev.beq_rel u3 r2, by rw [r3, u4]⟩
  · exact ⟨rfl, fun _ _ _ hr => hr⟩
  · cases h

/-- 'frame', to a memory that knows no more -/
theorem frameW {ρ ρ' : Ren} {h1 h2 h' h2' : H} {w w' : World} (hS2 : Sim ρ h2 w) (hn : h1.next = h2.next) (hsub : ∀ b o, h1.tr.get b = some o → h2.tr.get b = some o) (hS' : Sim ρ' h' w') (hE : Ext ρ h1 w ρ' h' w') (hn' : h2'.next = h'.next)
    (hget : ∀ b o, h2'.tr.get b = some o → (h1.tr.get b = none ∧ h2.tr.get b = some o) ∨ ∃ o1, h'.tr.get b = some o1 ∧ o1.rw = o.rw ∧ ∀ ρ L c, ORel ρ o1 L c → ORel ρ o L c) :
    Sim ρ' h2' w' ∧ Ext ρ h2 w ρ' h2' w' := by
  have hS1 := hS2.sub (Nat.le_of_eq hn.symm) hsub
  have hle := hE.le hS1
  have lost : ∀ x o y o' L L', h1.tr.get x = none → h2.tr.get x = some o → ρ x = some L → h'.tr.get y = some o' → ρ' y = some L' → L.1 ≠ L'.1 := fun x o y o' L L' e1 e2 e3 e4 e5 q => by
    obtain ⟨b0, o0, L0, a, b, c, _⟩ := hE.origin y o' L' e4 e5 (by rw [← q]; exact hS2.lt e2 e3)
    have := hS2.inj b0 x o0 o L0 L (hsub _ _ a) e2 b e3 (by rw [c, q])
    subst this
    rw [e1] at a; cases a
  refine ⟨⟨hS'.glob, fun b L h => by rw [hn']; exact hS'.dom b L h, fun b o h => ?_, fun b b' o o' L L' h h' e e' q => ?_⟩, ⟨by rw [hn', ← hn]; exact hE.next, fun b hb => hE.agree b (by rw [hn]; exact hb), hE.size, fun B hB hno => ?_, fun b o L h e hlt => ?_, hE.tape, hE.os, hE.output⟩⟩
  · rcases hget b o h with ⟨e1, e2⟩ | ⟨o1, e, _, e3⟩
    · obtain ⟨L, c, x, y, z⟩ := hS2.live b o e2
      refine ⟨L, c, hle _ _ x, ?_, z.mono hle⟩
      rw [hE.frame L.1 (hS2.lt e2 x) fun b' o' L' p _ q r => ?_]
      · exact y
      · have := hS2.inj b' b o' o L' L (hsub _ _ p) e2 q x r
        subst this
        rw [e1] at p; cases p
    · obtain ⟨L, c, x, y, z⟩ := hS'.live b o1 e
      exact ⟨L, c, x, y, e3 _ L c z⟩
  · rcases hget b o h with ⟨x1, x2⟩ | ⟨o1, x, _, _⟩ <;> rcases hget b' o' h' with ⟨y1, y2⟩ | ⟨o2, y, _, _⟩
    · obtain ⟨M, _, m1, _⟩ := hS2.live b o x2
      obtain ⟨M', _, m1', _⟩ := hS2.live b' o' y2
      have a := hle _ _ m1; rw [e] at a; cases a
      have a := hle _ _ m1'; rw [e'] at a; cases a
      exact hS2.inj b b' o o' _ _ x2 y2 m1 m1' q
    · obtain ⟨M, _, m1, _⟩ := hS2.live b o x2
      have a := hle _ _ m1; rw [e] at a; cases a
      exact absurd q (lost b o b' o2 _ _ x1 x2 m1 y e')
    · obtain ⟨M, _, m1, _⟩ := hS2.live b' o' y2
      have a := hle _ _ m1; rw [e'] at a; cases a
      exact absurd q.symm (lost b' o' b o1 _ _ y1 y2 m1 x e)
    · exact hS'.inj b b' o1 o2 L L' x y e e' q
  · exact hE.frame B hB fun b o L p u q => hno b o L (hsub _ _ p) u q
  · rcases hget b o h with ⟨e1, e2⟩ | ⟨o1, e3, e4, _⟩
    · obtain ⟨M, _, m1, _⟩ := hS2.live b o e2
      have a := hle _ _ m1; rw [e] at a; cases a
      exact ⟨b, o, _, e2, m1, rfl, fun q => q⟩
    · obtain ⟨b0, o0, L0, x, y, z, u⟩ := hE.origin b o1 L e3 e hlt
      exact ⟨b0, o0, L0, hsub _ _ x, y, z, fun q => u (by rw [e4]; exact q)⟩

/-! ### records of calls -/
structure Rec where
  f : FuncId
  args : List V
  pre : List (Nat × O)
  n0 : Nat
  v : V
  post : List (Nat × Option O)
  n1 : Nat
noncomputable section
def putPre : List (Nat × O) → T O → T O
  | [], t => t
  | p :: l, t => (putPre l t).put p.1 (some p.2)
def putPost : List (Nat × Option O) → T O → T O
  | [], t => t
  | p :: l, t => (putPost l t).put p.1 p.2
def Rec.start (r : Rec) : H := ⟨putPre r.pre .leaf, r.n0⟩
def Rec.apply (r : Rec) (h : H) : H := ⟨putPost r.post (putPre r.pre h.tr), r.n1⟩
def has (h : H) : List (Nat × O) → Bool
  | [] => true
  | p :: l => (match h.tr.get p.1 with
    | some o => O.beq o p.2
    | none => false) && has h l
def Rec.hit (r : Rec) (f : FuncId) (args : List V) (h : H) : Bool :=
  Nat.beq f r.f && (Nat.beq h.next r.n0 && (beqList (V.beq 6) args r.args && has h r.pre))
/-- what is left behind is as the record says -/
def leaves (h1 : H) : List (Nat × Option O) → Bool
  | [] => true
  | p :: l => (match p.2 with
    | some o => (match h1.tr.get p.1 with
      | some o1 => O.beq o1 o
      | none => false)
    | none => true) && leaves h1 l
def inPost (x : Nat) : List (Nat × Option O) → Bool
  | [] => false
  | p :: l => Nat.beq p.1 x || inPost x l
def stays (h1 : H) (post : List (Nat × Option O)) : List (Nat × O) → Bool
  | [] => true
  | p :: l => (inPost p.1 post || (match h1.tr.get p.1 with
    | some o1 => O.beq o1 p.2
    | none => false)) && stays h1 post l
def Rec.ok (r : Rec) (res : Option (V × H)) : Bool :=
  match res with
  | some (v, h1) => V.beq 6 v r.v && Nat.beq h1.next r.n1 && leaves h1 r.post && stays h1 r.post r.pre
  | none => false
def extR (l : T Rec) (f : FuncId) (args : List V) (h : H) : Option (V × H) :=
  match l.get h.next with
  | some r => match r.hit f args h with
    | true => some (r.v, r.apply h)
    | false => none
  | none => none
end
theorem putPre_get : ∀ (l : List (Nat × O)) (t : T O) (x : Nat), (putPre l t).get x = match l.find? (fun p => Nat.beq p.1 x) with
    | some p => some p.2
    | none => t.get x
  | [], _, _ => rfl
  | p :: l, t, x => by
    simp only [putPre, T.get_put, List.find?_cons]
    cases h : Nat.beq p.1 x with
    | true => rw [T.beq_true] at h; rw [if_pos h.symm]
    | false => rw [if_neg (fun q => by rw [q] at h; simp at h)]; exact putPre_get l t x
theorem putPost_get : ∀ (l : List (Nat × Option O)) (t : T O) (x : Nat), (putPost l t).get x = match l.find? (fun p => Nat.beq p.1 x) with
    | some p => p.2
    | none => t.get x
  | [], _, _ => rfl
  | p :: l, t, x => by
    simp only [putPost, T.get_put, List.find?_cons]
    cases h : Nat.beq p.1 x with
    | true => rw [T.beq_true] at h; rw [if_pos h.symm]
    | false => rw [if_neg (fun q => by rw [q] at h; simp at h)]; exact putPost_get l t x
theorem has_get {h : H} : ∀ {l : List (Nat × O)}, has h l = true → ∀ p, p ∈ l → ∃ o, h.tr.get p.1 = some o ∧ O.beq o p.2 = true
  | [], _, p, hp => by simp at hp
  | q :: l, hh, p, hp => by
    simp only [has, Bool.and_eq_true] at hh
    rcases List.mem_cons.1 hp with rfl | hp
    · have := hh.1
      split at this
      · rename_i o ho; exact ⟨o, ho, this⟩
      · cases this
    · exact has_get hh.2 p hp
theorem leaves_get {h : H} : ∀ {l : List (Nat × Option O)}, leaves h l = true → ∀ p o, p ∈ l → p.2 = some o → ∃ o1, h.tr.get p.1 = some o1 ∧ O.beq o1 o = true
  | [], _, p, _, hp, _ => by simp at hp
  | q :: l, hh, p, o, hp, ho => by
    simp only [leaves, Bool.and_eq_true] at hh
    rcases List.mem_cons.1 hp with rfl | hp
    · have := hh.1
      rw [ho] at this
      simp only at this
      split at this
      · rename_i o1 h1; exact ⟨o1, h1, this⟩
      · cases this
    · exact leaves_get hh.2 p o hp ho
theorem stays_get {h : H} {post : List (Nat × Option O)} : ∀ {l : List (Nat × O)}, stays h post l = true → ∀ p, p ∈ l → inPost p.1 post = true ∨ ∃ o1, h.tr.get p.1 = some o1 ∧ O.beq o1 p.2 = true
  | [], _, p, hp => by simp at hp
  | q :: l, hh, p, hp => by
    simp only [stays, Bool.and_eq_true, Bool.or_eq_true] at hh
    rcases List.mem_cons.1 hp with rfl | hp
    · rcases hh.1 with h1 | h1
      · exact .inl h1
      · split at h1
        · rename_i o1 ho; exact .inr ⟨o1, ho, h1⟩
        · cases h1
    · exact stays_get hh.2 p hp
theorem inPost_find : ∀ {l : List (Nat × Option O)} {x : Nat}, inPost x l = true → l.find? (fun p => Nat.beq p.1 x) ≠ none
  | [], _, h => by simp [inPost] at h
  | p :: l, x, h => by
    simp only [inPost, Bool.or_eq_true] at h
    rw [List.find?_cons]
    cases q : Nat.beq p.1 x with
    | true => simp
    | false =>
      rcases h with h | h
      · rw [q] at h; cases h
      · exact inPost_find h

section
variable {P : Program} {G : Γ}
theorem Rec.sound (hG : GOk P G) (hcodes : Codes G) (hext : ExtOK P G) {r : Rec} {N : Nat} (hr : r.ok (evT G N r.f r.args r.start) = true) {f : FuncId} {args : List V} {h : H} (hh : r.hit f args h = true)
    {ρ : Ren} {cargs : Array Value} {w : World} (ha : Rels ρ args cargs.toList) (hS : Sim ρ h w) (n : Nat) : CallsIn Fence.wide n P f cargs w (Ret (Post ρ h w r.v (r.apply h))) := by
  simp only [Rec.hit, Bool.and_eq_true, T.beq_true] at hh
  obtain ⟨rfl, hn, hargs, hpre⟩ := hh
  unfold Rec.ok at hr
  split at hr
  · rename_i v1 h1 hrun
    simp only [Bool.and_eq_true, T.beq_true] at hr
    obtain ⟨⟨⟨hv, hn1⟩, hl⟩, hst⟩ := hr
    obtain ⟨a1, a2⟩ := beqList_get hargs
    have ha' : Rels ρ r.args cargs.toList := ⟨by rw [ha.1, a1], fun i v x p q => by
      obtain ⟨u, u1, u2⟩ := a2 i v p
      exact Ev.beq_rel u2 (ha.2 i u x u1 q)⟩
    -- the memory with the record's words for its blocks
    have hk2 : Wk ⟨putPre r.pre h.tr, h.next⟩ h := by
      refine ⟨rfl, fun x o hx => ?_⟩
      simp only [putPre_get] at hx
      split at hx
      · rename_i p hp
        cases hx
        have hm := List.mem_of_find?_eq_some hp
        have he := List.find?_some hp
        rw [T.beq_true] at he
        obtain ⟨o1, b1, b2⟩ := has_get hpre p hm
        subst he
        obtain ⟨c1, c2⟩ := O.beq_rel b2
        exact ⟨o1, b1, c1, c2⟩
      · exact ⟨o, hx, rfl, fun _ _ _ q => q⟩
    have hS2 := hS.wk hk2
    have hsub : ∀ b o, r.start.tr.get b = some o → (⟨putPre r.pre h.tr, h.next⟩ : H).tr.get b = some o := fun b o hb => by
      simp only [Rec.start, putPre_get] at hb ⊢
      split at hb
      · exact hb
      · rw [T.get_leaf] at hb; cases hb
    have hS1 : Sim ρ r.start w := hS2.sub (by simp only [Rec.start]; omega) hsub
    refine (evT_ok hG hcodes hext hrun ha' hS1 n).mono fun e w' ⟨c, he, ρ', x1, x2, x3⟩ => ⟨c, he, ρ', ?_⟩
    obtain ⟨f1, f2⟩ := frameW (h2' := r.apply h) hS2 (by simp only [Rec.start]; omega) hsub x1 x2 (by simp only [Rec.apply]; omega) fun x o hx => by
      simp only [Rec.apply, putPost_get] at hx
      split at hx
      · rename_i p hp
        have hm := List.mem_of_find?_eq_some hp
        have he := List.find?_some hp
        rw [T.beq_true] at he
        subst he
        obtain ⟨o1, b1, b2⟩ := leaves_get hl p o hm hx
        obtain ⟨c1, c2⟩ := O.beq_rel b2
        exact .inr ⟨o1, b1, c1, c2⟩
      · rename_i hp
        simp only [putPre_get] at hx
        split at hx
        · rename_i p hq
          cases hx
          have hm := List.mem_of_find?_eq_some hq
          have he := List.find?_some hq
          rw [T.beq_true] at he
          subst he
          rcases stays_get hst p hm with h3 | ⟨o1, b1, b2⟩
          · exact absurd hp (inPost_find h3)
          · obtain ⟨c1, c2⟩ := O.beq_rel b2
            exact .inr ⟨o1, b1, c1, c2⟩
        · rename_i hq
          refine .inl ⟨?_, ?_⟩
          · simp only [Rec.start, putPre_get, hq, T.get_leaf]
          · simp only [putPre_get, hq]; exact hx
    exact ⟨f1, f2.wkL hk2, Ev.beq_rel hv x3⟩
  · cases hr
/-- records, one after the other -/
theorem ext_recs {l : T Rec} (h : ∀ n r, l.get n = some r → ∀ f args h, r.hit f args h = true → ∀ ρ (cargs : Array Value) w, Rels ρ args cargs.toList → Sim ρ h w → ∀ n, CallsIn Fence.wide n P f cargs w (Ret (Post ρ h w r.v (r.apply h)))) {eqs : List TypeId} {rows : List (FuncId × Row)} :
    ExtOK P (mkG P eqs rows (extR l)) := by
  intro f args h0 v h' he ρ cargs w ha hS n
  have he : extR l f args h0 = some (v, h') := he
  unfold extR at he
  split at he
  · rename_i r hr
    split at he
    · rename_i hh
      cases he
      exact h _ r hr f args h0 hh ρ cargs w ha hS n
    · cases he
  · cases he
end
/-- a record's word holds wherever its call is met -/
def Snd (P : Program) (r : Rec) : Prop :=
  ∀ f args h, r.hit f args h = true → ∀ ρ (cargs : Array Value) w, Rels ρ args cargs.toList → Sim ρ h w → ∀ n, CallsIn Fence.wide n P f cargs w (Ret (Post ρ h w r.v (r.apply h)))
def TabOk (P : Program) (t : T Rec) : Prop := ∀ n r, t.get n = some r → Snd P r
theorem TabOk.leaf {P : Program} : TabOk P .leaf := fun n r h => by rw [T.get_leaf] at h; cases h
theorem TabOk.put {P : Program} {t : T Rec} (ht : TabOk P t) {n : Nat} {r : Rec} (hr : Snd P r) : TabOk P (T.put t n (some r)) := fun m q h => by
  rw [T.get_put] at h
  split at h
  · cases h; exact hr
  · exact ht m q h
end Go.Ev

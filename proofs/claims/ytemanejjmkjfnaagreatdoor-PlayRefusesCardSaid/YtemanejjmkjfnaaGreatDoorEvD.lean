/- One operation; a region in the order of the text; a region that draws its order. -/
import Derived.Test.YtemanejjmkjfnaaGreatDoorEvC
import Derived.RangeFuncLeaves
import Derived.RangeFuncCalls
import Derived.OrdersIn
set_option maxHeartbeats 1000000
/- One operation of a region, carried out. -/
namespace Go.Ev
section
variable {ρ : Ren}

theorem ofScalar_rel {v : Value} {x : V} (h : ofScalar v = some x) : Rel ρ x v ∧ one v = true := by
  unfold ofScalar at h
  split at h <;> try (cases h; done)
  · cases h; exact ⟨.bool _, rfl⟩
  · cases h; exact ⟨.int _ _, rfl⟩
  · rename_i s
    cases h
    have := Rel.str (ρ := ρ) s.data.toList
    rw [Array.toArray_toList] at this
    exact ⟨this, rfl⟩
  · cases h; exact ⟨.nilp, rfl⟩
  · cases h; exact ⟨.nils, rfl⟩
  · cases h; exact ⟨.nilm, rfl⟩
  · cases h; exact ⟨.nilf, rfl⟩
  · cases h; exact ⟨.nili, rfl⟩
  · rename_i f a b
    split at h
    · rename_i ha hb
      cases h
      have h1 : a = #[] := by rw [← Array.toArray_toList (xs := a), ha]
      have h2 : b = #[] := by rw [← Array.toArray_toList (xs := b), hb]
      subst h1; subst h2
      exact ⟨.func f rfl rfl (fun i v x q => by simp at q) (fun i v x q => by simp at q), rfl⟩
    · cases h
theorem ofValue_rel {v : Value} {x : V} (h : ofValue v = some x) : Rel ρ x v := by
  unfold ofValue at h
  split at h
  · rename_i cs
    split at h
    · rename_i l hl
      cases h
      obtain ⟨a1, a2⟩ := optAll_eq hl
      obtain ⟨pat, tr, q1, q2⟩ := mkA_eq l
      rw [q1]
      have get : ∀ (i : Nat) (y : Value), cs[i]? = some y → ∃ u, l[i]? = some u ∧ ofScalar y = some u := by
        intro i y hy
        have hi : i < l.length := by
          have := (Array.getElem?_eq_some_iff.1 hy).1
          rw [a1, Array.length_toList]; exact this
        exact ⟨l[i], List.getElem?_eq_getElem hi, a2 i y _ (by rw [Array.getElem?_toList]; exact hy) (List.getElem?_eq_getElem hi)⟩
      refine .agg (by rw [a1, Array.length_toList]) (fun i y hy => ?_) (fun i u y hu hy => ?_)
      · obtain ⟨u, _, hu⟩ := get i y hy
        exact (ofScalar_rel (ρ := ρ) hu).2
      · obtain ⟨u', h1, h2⟩ := get i y hy
        have := q2 i u hu
        rw [h1] at this; cases this
        exact (ofScalar_rel h2).1
    · cases h
  · exact (ofScalar_rel h).1
theorem eval_rel (hg : Glob ρ) {env : Env} {a : Act} (he : ERel ρ env a.tmps) : OpR ρ env.get a.eval := by
  intro x v h
  cases x with
  | tmp t =>
    obtain ⟨c, h1, h2⟩ := he.2 t v h
    have : a.eval (.tmp t) = c := by simp [Act.eval, Array.getD_eq_getD_getElem?, h1]
    rw [this]; exact h2
  | const v' => exact ofValue_rel h
  | global g =>
    simp only [Env.get] at h
    split at h
    · rename_i hb
      cases h
      obtain ⟨z, hz⟩ := hg g (blt_true hb)
      have := Rel.ptr (ρ := ρ) (b := g) (o := 0) hz
      exact this
    · cases h
  | func f =>
    cases h
    exact .func f rfl rfl (fun i v x q => by simp at q) (fun i v x q => by simp at q)
theorem put_rel {env env' : Env} {a : Act} {d : Option Tmp} {v : V} {c : Value} (he : ERel ρ env a.tmps) (hp : env.put d v = some env') (hv : Rel ρ v c) : ERel ρ env' (a.put d c).tmps := by
  unfold Env.put at hp
  cases d with
  | none => cases hp; exact he
  | some t =>
    simp only at hp
    split at hp
    · rename_i hb
      have hb := blt_true hb
      cases hp
      refine ⟨by simp only [Act.put, Array.size_setIfInBounds]; exact he.1, fun t' v' hg => ?_⟩
      simp only [T.get_put] at hg
      simp only [Act.put]
      by_cases e : t' = t
      · subst e
        rw [if_pos rfl] at hg; cases hg
        have hlt : t' < a.tmps.size := Nat.lt_of_lt_of_le hb he.1
        exact ⟨c, by simp [hlt], hv⟩
      · rw [if_neg e] at hg
        obtain ⟨c', h1, h2⟩ := he.2 t' v' hg
        exact ⟨c', by rw [Array.getElem?_setIfInBounds_ne (fun q => e q.symm)]; exact h1, h2⟩
    · cases hp
theorem wanted_rel {env : Env} {a : Act} (he : ERel ρ env a.tmps) {ops : Array Oper} {o : Oper} {b : Bool} (h : wantedO ops env o = some b) : Region.wanted o (yielded ops a.tmps) = b := by
  unfold wantedO at h
  unfold Region.wanted
  split at h
  · rename_i hg; cases h; simp [hg]
  · rename_i j want hg
    split at h
    · rename_i p hp
      split at h
      · rename_i d hd
        have hp : ops[j]? = some p := by simpa using hp
        split at h
        · rename_i b' hb
          cases h
          obtain ⟨c, h1, h2⟩ := he.2 d _ hb
          cases h2
          simp [hg, yielded, hp, hd, h1]
        · rename_i u hne hb
          cases h
          obtain ⟨c, h1, h2⟩ := he.2 d _ hb
          have : yielded ops a.tmps j = none := by
            simp only [yielded, hp, Option.bind_some, hd, h1]
            cases h2 <;> first
              | rfl
              | exact absurd rfl (hne _)
          simp [hg, this]
        · cases h
      · cases h
    · cases h
end
end Go.Ev
/- One operation of a region; a region in the order of the text. -/
namespace Go.Ev

def Ret (R : Value → World → Prop) : Ending → World → Prop := fun e w => ∃ c, e = .returned c ∧ R c w
/-- an operation's outcome: what it yields, or what is entered, comes to R -/
def NextOk (P : Program) (r : Result Next) (R : Value → World → Prop) : Prop :=
  match r with
  | .ok (.value c) w' => R c w'
  | .ok .skip w' => R undef w'
  | .ok (.enter f args) w' => ∀ n, CallsIn Fence.wide n P f args w' (Ret R)
  | .ok (.round l f tmps assign body) w' => ∀ n, RoundIn Fence.wide n P l f tmps assign body w' (Ret R)
  | _ => False
/-- the fences under which code is walked -/
def Wide (F : Fence) : Prop := F = Fence.wide ∨ ∃ l, F = Fence.wide.inRound l
theorem Wide.fn {F : Fence} (h : Wide F) (f : FuncId) : F.fn f := by
  rcases h with rfl | ⟨l, rfl⟩ <;> trivial
theorem Wide.depth {F : Fence} (h : Wide F) : F.depth = none := by
  rcases h with rfl | ⟨l, rfl⟩ <;> rfl

section
variable {P : Program}
theorem NextOk.mono {r : Result Next} {R R' : Value → World → Prop} (h : NextOk P r R) (hr : ∀ c w, R c w → R' c w) : NextOk P r R' := by
  unfold NextOk at *
  split <;> simp_all
  · rename_i f args w'
    exact fun n => (h n).mono fun e w'' ⟨c, a, b⟩ => ⟨c, a, hr _ _ b⟩
  · exact fun n => (h n).mono fun e w'' ⟨c, a, b⟩ => ⟨c, a, hr _ _ b⟩
theorem NextOk.upon {F : Fence} (hF : Wide F) {n : Nat} {o : Oper} {a : Act} {r : Result Next} {R : Value → World → Prop} {next : Act → World → Prop} {Q : Exit → Act → World → Prop} (h : NextOk P r R)
    (hn : ∀ c w', R c w' → next (a.put o.dst c) w') : o.uponIn F n P a next Q r := by
  have hd := hF.depth
  unfold NextOk at h
  split at h
  · exact hn _ _ h
  · exact hn _ _ h
  · rename_i f args w'
    refine ⟨fun q => by rw [hd] at q; simp at q, ?_⟩
    have h1 : CallsIn F (n - 1) P f args w' (Ret R) := by
      rcases hF with rfl | ⟨l, rfl⟩
      · exact h _
      · exact CallsIn.inRound l (h _)
    exact h1.mono fun e w'' ⟨c, e1, e2⟩ => by subst e1; exact hn _ _ e2
  · rename_i l f tmps assign body w'
    refine ⟨fun q => by rw [hd] at q; simp at q, ?_⟩
    have h1 : RoundIn F (n - 1) P l f tmps assign body w' (Ret R) := by
      rcases hF with rfl | ⟨l, rfl⟩
      · exact h _
      · exact h _
    exact h1.mono fun e w'' ⟨c, e1, e2⟩ => by subst e1; exact hn _ _ e2
  · exact h.elim

def Post (ρ : Ren) (h : H) (w : World) (v : V) (h' : H) : Value → World → Prop := fun c w' => ∃ ρ', Sim ρ' h' w' ∧ Ext ρ h w ρ' h' w' ∧ Rel ρ' v c
/-- what a target stands for -/
def TgtOk (ρ : Ren) (t : Tgt) (s : Sem Next) : Prop :=
  match t with
  | .fn f args => ∃ cargs : Array Value, Rels ρ args cargs.toList ∧ s = callFunc f cargs
  | .yield l args => ∃ (B d z : Nat) (cargs : Array Value), ρ l = some (B, d, z) ∧ Rels ρ args cargs.toList ∧ s = Instr.yield B cargs
def CallS (P : Program) (call : CallF) : Prop := ∀ (t : Tgt) (s : Sem Next) (ρ : Ren) (h : H) (w : World) (v : V) (h' : H), TgtOk ρ t s → Sim ρ h w → call t h = some (v, h') → NextOk P (s.run P w) (Post ρ h w v h')
end
end Go.Ev
/- The calls of a region's operations; one operation. -/
namespace Go.Ev
section
variable {P : Program} {G : Γ} (hG : GOk P G) {ρ : Ren}

theorem findM_eq (name : String) : ∀ (l : List Method) (m : Method), findM name l = some m → l.find? (fun m => m.name == name) = some m
  | [], m, h => by simp [findM] at h
  | x :: l, m, h => by
    simp only [findM] at h
    split at h
    · rename_i hb
      cases h
      have := of_decide_eq_true hb
      simp [this]
    · rename_i hb
      have hb : x.name ≠ name := of_decide_eq_false hb
      rw [List.find?_cons]
      have : (x.name == name) = false := by simpa using hb
      rw [this]
      exact findM_eq name l m h
theorem act_call (hG : GOk P G) {e : Operand → Option V} {f : Operand → Value} (hef : OpR ρ e f) {o : Oper} {t : Tgt} (h : act G e o.op = .call (some t)) :
    ∃ s, TgtOk ρ t s ∧ ∀ w, (execOp f o).run P w = s.run P w := by
  cases ho : o.op <;> rw [ho] at h <;> simp only [act, reduceCtorEq] at h
  case makeMap t r => cases r <;> simp at h
  case convert s d x => split at h <;> cases h
  case call c =>
    unfold actCall at h
    split at h
    · -- a function value
      rename_i x hc
      simp only [Ac.call.injEq] at h
      unfold tgtValue at h
      split at h
      · rename_i fn first captured args hx hargs
        cases h
        have hr := hef _ _ hx
        have ha := optAll_rels hef hargs
        generalize hfx : f x = cf at hr
        cases hr with
        | func _ a1 a2 a3 a4 =>
          rename_i A B
          refine ⟨_, ⟨(A ++ c.args.map f) ++ B, ?_, rfl⟩, fun w => ?_⟩
          · simp only [Array.toList_append, Array.toList_map]
            exact Rels.append (Rels.append ⟨by simpa using a1, fun i v y p q => a3 i v y p (by simpa using q)⟩ ha) ⟨by simpa using a2, fun i v y p q => a4 i v y p (by simpa using q)⟩
          · simp only [execOp, ho, resolve, hc, hfx, Deferred.ofValue, pure_bind, invoke]
      · rename_i l first cap args hx hargs
        cases h
        have hr := hef _ _ hx
        have ha := optAll_rels hef hargs
        generalize hfx : f x = cf at hr
        cases hr with
        | yield hb =>
          rename_i B d z
          refine ⟨_, ⟨B, d, z, #[] ++ c.args.map f, hb, ?_, rfl⟩, fun w => ?_⟩
          · simpa using ha
          · simp only [execOp, ho, resolve, hc, hfx, Deferred.ofValue, pure_bind, invoke]
      · cases h
    · -- a method of an interface value
      rename_i x name hc
      simp only [Ac.call.injEq] at h
      unfold tgtInvoke at h
      split at h
      · rename_i it u args hx hargs
        split at h
        · rename_i ty hty
          split at h
          · rename_i m hm
            split at h
            · rename_i fn elem hp hfn he
              cases h
              have ht := hG.types _ _ hty
              have hr := hef _ _ hx
              have ha := optAll_rels hef hargs
              generalize hfx : f x = cf at hr
              cases hr with
              | iface _ hu =>
                rename_i cu
                refine ⟨_, ⟨#[cu] ++ c.args.map f, ?_, rfl⟩, fun w => ?_⟩
                · simp only [Array.toList_append, Array.toList_map]
                  exact Rels.cons hu ha
                · obtain ⟨i, i1, i2, i3, _⟩ := ht.info
                  have hfind : i.methods.find? (fun m => m.name == name) = some m := by
                    have := findM_eq name _ _ hm
                    rw [← i3] at this
                    rw [← this, Array.find?_toList]
                  have hpos : ∃ k, P.types.size + Made.depth = k + 1 := by
                    have : 0 < Made.depth := by decide
                    exact ⟨P.types.size + Made.depth - 1, by omega⟩
                  obtain ⟨k, hk⟩ := hpos
                  have hmeth : (method (P.types.size + Made.depth) it cu name).run P w = .ok (fn, cu) w := by
                    rw [hk]
                    simp only [method, Sem.run_bind, typeInfo, run_program, Result.andThen_ok, i1, hfind, hp, follow, hfn, receiverAt, ht.run_underlying, he, Place.get, Sem.run_pure]
                  have e2 : (#[cu] ++ c.args.map f) = #[cu] ++ (#[Value.iface it cu] ++ c.args.map f).extract 1 (#[Value.iface it cu] ++ c.args.map f).size := by
                    apply Array.ext'
                    simp
                    rw [List.take_of_length_le (by simp)]
                  simp only [execOp, ho, resolve, hc, hfx, pure_bind, invoke]
                  have e3 : (#[Value.iface it cu] ++ c.args.map f)[0]? = some (.iface it cu) := by
                    rw [Array.getElem?_append_left (by simp)]; rfl
                  simp only [e3, callMethod, Sem.run_bind, run_program, Result.andThen_ok, hmeth]
                  rw [← e2]
            · cases h
          · cases h
        · cases h
      · cases h
    · rename_i b hb
      unfold actBuiltin at h
      split at h <;> cases h
end
end Go.Ev
/- One operation; a region in the order of the text. -/
namespace Go.Ev
section
variable {P : Program} {G : Γ} (hG : GOk P G) {ρ : Ren}

theorem step1_ok (hG : GOk P G) {call : CallF} (hcall : CallS P call) {env : Env} {a : Act} {h h' : H} {w : World} {o : Oper} {v : V} (hst : step1 G call env h o = some (v, h')) (hS : Sim ρ h w) (he : ERel ρ env a.tmps) (ro : Option Nat) :
    NextOk P ((o.semAt ro a.eval).run P w) (Post ρ h w v h') := by
  have hef := eval_rel hS.glob he
  have hnd : ∀ c, o.op ≠ .defer c := fun c q => by
    unfold step1 at hst
    rw [q] at hst
    simp [act] at hst
  rw [Oper.semAt_eq _ _ _ hnd]
  unfold step1 at hst
  split at hst
  · rename_i x hact
    split at hst
    · cases hst
      obtain ⟨c, r, s⟩ := act_val hG hef hact
      rw [s w]
      exact ⟨ρ, hS, Ext.refl _ _ _, r⟩
    · cases hst
  · rename_i f hact
    split at hst
    · rename_i x hf
      cases hst
      obtain ⟨c, r, s⟩ := act_rd hG hef hact hS hf
      rw [s]
      exact ⟨ρ, hS, Ext.refl _ _ _, r⟩
    · cases hst
  · rename_i f hact
    split at hst
    · rename_i obj x hf
      cases hst
      obtain ⟨c, c', L, w', e1, e2, e3, e4, e5⟩ := act_al hG hef hact hS.fresh hf w
      rw [e1]
      have hother : ∀ B, B < w.heap.size → w'.heap[B]? = w.heap[B]? := fun B hB => by
        rw [e2.heap, Array.getElem?_push, if_neg (by omega)]
      refine ⟨ρ.with h.next L, ?_, ?_, e5⟩
      · exact hS.add (o' := obj) (L := L) (c' := c') hS.fresh (by simp) (by simp) (fun x => H.add_get h _ x) e3 (by rw [e2.heap, e3]; simp) e4 hother
      · exact Ext.add (o' := obj) (L := L) (Nat.le_refl _) (by simp) (fun x => H.add_get h _ x) e3 (by rw [e2.heap]; simp) hother e2.tape e2.os e2.output
    · cases hst
  · rename_i f hact
    obtain ⟨ρ', c, w', e1, e2, e3, e4⟩ := act_ef hG hef hact hS hst
    rcases e1 with e1 | ⟨e1, rfl⟩
    · rw [e1]; exact ⟨ρ', e2, e3, e4⟩
    · rw [e1]; exact ⟨ρ', e2, e3, e4⟩
  · rename_i t hact
    split at hst
    · rename_i t
      obtain ⟨s, s1, s2⟩ := act_call (P := P) hG hef hact
      rw [s2]
      exact hcall t s ρ h w v h' s1 hS hst
    · cases hst

/-- a region in the order of the text -/
theorem regS_ok (hG : GOk P G) {call : CallF} (hcall : CallS P call) {F : Fence} (hF : Wide F) {n : Nat} {ops : Array Oper} {Q : Exit → Act → World → Prop} :
    ∀ (rest : List Oper) (i : Nat), ops.toList.drop i = rest → ∀ (ρ : Ren) (env env' : Env) (h h' : H) (a : Act) (w : World), regS G call ops rest env h = some (env', h') → Sim ρ h w → ERel ρ env a.tmps →
      (∀ ρ' a' w', Sim ρ' h' w' → Ext ρ h w ρ' h' w' → ERel ρ' env' a'.tmps → a'.defers = a.defers → Q .normal a' w') → wpOpsIn F n P ops Q (List.range' i rest.length) a w
  | [], i, _, ρ, env, env', h, h', a, w, hr, hS, he, hQ => by
    simp only [regS] at hr
    cases hr
    exact hQ ρ a w hS (Ext.refl _ _ _) he rfl
  | o :: rest, i, hi, ρ, env, env', h, h', a, w, hr, hS, he, hQ => by
    have hoi : ops[i]? = some o := by
      have : ops.toList[i]? = some o := by
        have := List.getElem?_drop (xs := ops.toList) (i := i) (j := 0)
        rw [hi] at this
        simpa using this.symm
      simpa using this
    have hi' : ops.toList.drop (i + 1) = rest := by
      have : ops.toList.drop (i + 1) = (ops.toList.drop i).drop 1 := by rw [List.drop_drop]
      rw [this, hi]; rfl
    simp only [List.length_cons, List.range'_succ, wpOpsIn, hoi]
    simp only [regS] at hr
    split at hr
    · rename_i hw
      rw [wanted_rel he hw, if_pos rfl]
      split at hr
      · rename_i v h1 hst
        split at hr
        · rename_i env1 hput
          refine ⟨fun f _ => hF.fn f, (step1_ok hG hcall hst hS he F.round).upon hF fun c w1 hp => ?_⟩
          obtain ⟨ρ1, p1, p2, p3⟩ := hp
          have hle := p2.le hS
          refine regS_ok hG hcall hF rest (i + 1) hi' ρ1 env1 env' h1 h' _ w1 hr p1 (put_rel (he.mono hle) hput p3) fun ρ' a' w' q1 q2 q3 q4 => hQ ρ' a' w' q1 (p2.trans q2) q3 ?_
          rw [q4]
          cases o.dst <;> rfl
        · cases hr
      · cases hr
    · rename_i hw
      rw [wanted_rel he hw]
      simp only [Bool.false_eq_true, if_false]
      split at hr
      · rename_i env1 hput
        refine ⟨fun f _ => hF.fn f, ?_⟩
        refine regS_ok hG hcall hF rest (i + 1) hi' ρ env1 env' h h' _ w hr hS (put_rel he hput .undef) fun ρ' a' w' q1 q2 q3 q4 => hQ ρ' a' w' q1 q2 q3 ?_
        rw [q4]
        cases o.dst <;> rfl
      · cases hr
    · cases hr
end
end Go.Ev
/- What an operation reads; the static check of a region that draws its order. -/
namespace Go.Ev

section
variable {e e' : Operand → Option V}
theorem optAll_congr : ∀ {l : List Operand}, (∀ x ∈ l, e x = e' x) → optAll e l = optAll e' l
  | [], _ => rfl
  | x :: l, h => by simp only [optAll, h x (by simp), optAll_congr (l := l) fun y hy => h y (by simp [hy])]
theorem fillA_congr {pl : Nat → Option (Nat × Nat)} {n : Nat} : ∀ {l : List (Nat × Operand)} {tr : T V}, (∀ x ∈ l.map (·.2), e x = e' x) → fillA pl e n l tr = fillA pl e' n l tr
  | [], tr, _ => rfl
  | p :: l, tr, h => by
    simp only [fillA, h p.2 (by simp)]
    repeat' split
    all_goals first
      | rfl
      | exact fillA_congr fun y hy => h y (by simp at hy ⊢; right; exact hy)
theorem bnd_congr {x : Option Operand} {d hi : Nat} (h : ∀ y ∈ x.toList, e y = e' y) : bnd x e d hi = bnd x e' d hi := by
  cases x with
  | none => rfl
  | some y => simp only [bnd, h y (by simp)]
theorem bnds_congr {lo hi mx : Option Operand} {l c : Nat} (h1 : ∀ y ∈ lo.toList, e y = e' y) (h2 : ∀ y ∈ hi.toList, e y = e' y) (h3 : ∀ y ∈ mx.toList, e y = e' y) : bnds e lo hi mx l c = bnds e' lo hi mx l c := by
  unfold bnds
  rw [bnd_congr h3]
  split
  · rw [bnd_congr h2]
    split
    · rw [bnd_congr h1]
    · rfl
  · rfl
theorem pSlice_congr {G : Γ} {ty : Option TY} {x : Operand} {lo hi mx : Option Operand} (h0 : e x = e' x) (h1 : ∀ y ∈ lo.toList, e y = e' y) (h2 : ∀ y ∈ hi.toList, e y = e' y) (h3 : ∀ y ∈ mx.toList, e y = e' y) :
    pSlice G ty e x lo hi mx = pSlice G ty e' x lo hi mx := by
  have hb : ∀ l c, bnds e lo hi mx l c = bnds e' lo hi mx l c := fun l c => bnds_congr h1 h2 h3
  have hb' : ∀ l c, bnds e lo hi none l c = bnds e' lo hi none l c := fun l c => bnds_congr h1 h2 fun y hy => by simp at hy
  unfold pSlice
  rw [h0]
  simp only [hb, hb']
theorem pBuild_congr {G : Γ} {ty : Option TY} {l : List (Nat × Operand)} (h : ∀ x ∈ l.map (·.2), e x = e' x) : pBuild G ty e l = pBuild G ty e' l := by
  unfold pBuild
  split
  · split
    · rw [fillA_congr h]
    · rfl
  · rfl
theorem aBuildSlice_congr {G : Γ} {ty : Option TY} {n : Nat} {l : List (Nat × Operand)} (h : ∀ x ∈ l.map (·.2), e x = e' x) : aBuildSlice G ty n e l = aBuildSlice G ty n e' l := by
  funext id
  unfold aBuildSlice
  split
  · split
    · split
      · split
        · rw [fillA_congr h]
        · rfl
      · rfl
    · rfl
  · rfl
theorem pFunc_congr {fn : Fn} {a b : List Operand} (ha : ∀ x ∈ a, e x = e' x) (hb : ∀ x ∈ b, e x = e' x) : pFunc e fn a b = pFunc e' fn a b := by
  unfold pFunc
  rw [optAll_congr ha, optAll_congr hb]
theorem actBuiltin_congr {G : Γ} {b : Builtin} {ts : List TypeId} {args : List Operand} (h : ∀ x ∈ args, e x = e' x) : actBuiltin G e b ts args = actBuiltin G e' b ts args := by
  unfold actBuiltin
  split <;> first
    | rfl
    | (rw [optAll_congr h])
    | (rename_i x y; rw [h x (by simp), h y (by simp)])
    | (rename_i x; rw [h x (by simp)])
theorem act_congr {G : Γ} {op : Op} (h : ∀ x ∈ opnds op, e x = e' x) : act G e op = act G e' op := by
  cases op <;> simp only [opnds, List.mem_cons, List.not_mem_nil, or_false, forall_eq_or_imp, forall_eq] at h
  case build t ps => simp only [act, pBuild_congr h]
  case buildSlice t n ps => simp only [act, aBuildSlice_congr h]
  case makeFunc fn a b => simp only [act]; rw [pFunc_congr (fun x hx => h x (by simp [hx])) (fun x hx => h x (by simp [hx]))]
  case slice t x lo hi mx =>
    simp only [act]
    rw [pSlice_congr h.1 (fun y hy => h.2 y (by simp [hy])) (fun y hy => h.2 y (by simp [hy])) (fun y hy => h.2 y (by simp [hy]))]
  case call c =>
    simp only [act, actCall]
    split
    · rename_i f hc
      rw [hc] at h
      simp only [List.mem_append, List.mem_cons, List.not_mem_nil, or_false] at h
      rw [h f (.inl rfl), optAll_congr fun x hx => h x (.inr hx)]
    · rename_i r name hc
      rw [hc] at h
      simp only [List.mem_append, List.mem_cons, List.not_mem_nil, or_false] at h
      rw [h r (.inl rfl), optAll_congr fun x hx => h x (.inr hx)]
    · rename_i b hc
      rw [hc] at h
      simp only [List.nil_append] at h
      exact actBuiltin_congr h
  all_goals simp only [act, h]
end
end Go.Ev
/- Values that the evaluator finds equal stand for the same. -/
namespace Go.Ev
section
variable {ρ : Ren}
theorem beqList_get {eq : V → V → Bool} : ∀ {a b : List V}, beqList eq a b = true → b.length = a.length ∧ ∀ (i : Nat) (y : V), b[i]? = some y → ∃ x, a[i]? = some x ∧ eq x y = true
  | [], [], _ => ⟨rfl, fun i y h => by simp at h⟩
  | x :: a, y :: b, h => by
    simp only [beqList, Bool.and_eq_true] at h
    obtain ⟨h1, h2⟩ := beqList_get h.2
    refine ⟨by simp [h1], fun i z hz => ?_⟩
    cases i with
    | zero => simp at hz; subst hz; exact ⟨x, rfl, h.1⟩
    | succ i => simp at hz; obtain ⟨u, u1, u2⟩ := h2 i z hz; exact ⟨u, by simpa using u1, u2⟩
  | [], _ :: _, h => by simp [beqList] at h
  | _ :: _, [], h => by simp [beqList] at h
theorem beqCells_get {eq : V → V → Bool} {n : Nat} {pat pat' : List V} {tr tr' : T V} : ∀ {k i : Nat}, beqCells eq n pat tr pat' tr' i k = true → ∀ j, i ≤ j → j < i + k → ∃ x y, cell n pat tr j = some x ∧ cell n pat' tr' j = some y ∧ eq x y = true
  | 0, i, _, j, h1, h2 => by omega
  | k + 1, i, h, j, h1, h2 => by
    simp only [beqCells] at h
    split at h
    · rename_i x y hx hy
      simp only [Bool.and_eq_true] at h
      by_cases e : j = i
      · subst e; exact ⟨x, y, hx, hy, h.1⟩
      · exact beqCells_get h.2 j (by omega) (by omega)
    · cases h
theorem beq_rel : ∀ {d : Nat} {x y : V} {c : Value}, V.beq d x y = true → Rel ρ x c → Rel ρ y c
  | 0, x, y, c, h, _ => by simp [V.beq] at h
  | d + 1, x, y, c, h, hr => by
    simp only [V.beq] at h
    split at h
    · simp at h; subst h; exact hr
    · simp only [Bool.and_eq_true, decide_eq_true_eq] at h
      obtain ⟨rfl, h⟩ := h
      rw [ieq_eq] at h; simp at h; subst h; exact hr
    · simp at h; subst h; exact hr
    · exact hr
    · simp only [Bool.and_eq_true, T.beq_true] at h
      obtain ⟨rfl, rfl⟩ := h; exact hr
    · exact hr
    · simp only [Bool.and_eq_true, T.beq_true, decide_eq_true_eq] at h
      obtain ⟨⟨⟨rfl, rfl⟩, rfl⟩, rfl⟩ := h; exact hr
    · exact hr
    · rw [T.beq_true] at h; subst h; exact hr
    · simp only [Bool.and_eq_true, decide_eq_true_eq] at h
      obtain ⟨⟨rfl, h1⟩, h2⟩ := h
      obtain ⟨a1, a2⟩ := beqList_get h1
      obtain ⟨b1, b2⟩ := beqList_get h2
      cases hr with
      | func f q1 q2 q3 q4 =>
        refine .func f (by rw [q1, a1]) (by rw [q2, b1]) (fun i v x hv hx => ?_) (fun i v x hv hx => ?_)
        · obtain ⟨u, u1, u2⟩ := a2 i v hv
          exact beq_rel u2 (q3 i u x u1 hx)
        · obtain ⟨u, u1, u2⟩ := b2 i v hv
          exact beq_rel u2 (q4 i u x u1 hx)
      | yield hb =>
        have e1 := List.length_eq_zero_iff.1 a1
        have e2 := List.length_eq_zero_iff.1 b1
        subst e1; subst e2
        exact .yield hb
    · exact hr
    · simp only [Bool.and_eq_true, T.beq_true] at h
      obtain ⟨rfl, h⟩ := h
      cases hr with
      | iface _ q => exact .iface _ (beq_rel h q)
    · exact hr
    · simp only [Bool.and_eq_true, T.beq_true] at h
      obtain ⟨rfl, h⟩ := h
      obtain ⟨cs, rfl, a⟩ := hr.ar
      refine .agg a.size a.one fun i v x hv hx => ?_
      obtain ⟨u, y, u1, u2, u3⟩ := beqCells_get h i (Nat.zero_le _) (by have := cell_lt hv; omega)
      rw [hv] at u2; cases u2
      exact beq_rel u3 (a.rel i u x u1 hx)
    · obtain ⟨a1, a2⟩ := beqList_get h
      cases hr with
      | tuple q1 q2 =>
        refine .tuple (by rw [q1, a1]) fun i v x hv hx => ?_
        obtain ⟨u, u1, u2⟩ := a2 i v hv
        exact beq_rel u2 (q2 i u x u1 hx)
    · cases h
end
end Go.Ev
/- Memory as an operation of a drawn region may see it. -/
namespace Go.Ev
theorem hv_next (B : Bs) (m : Nat) : ∀ (l : List (Nat × Nat × O)), (hv B m l).next = B.h.next
  | [] => rfl
  | a :: l => by
    simp only [hv]
    split
    · rw [H.set_next, hv_next B m l]
    · exact hv_next B m l
theorem hv_get (B : Bs) (m : Nat) : ∀ (l : List (Nat × Nat × O)) (x : Nat), (hv B m l).tr.get x = match l.find? (fun a => (bit m a.1 && !bit B.mask a.1) && Nat.beq a.2.1 x) with
    | some a => some a.2.2
    | none => B.h.tr.get x
  | [], x => rfl
  | a :: l, x => by
    simp only [hv, List.find?_cons]
    cases hc : (bit m a.1 && !bit B.mask a.1) with
    | false => simp only [Bool.false_and]; exact hv_get B m l x
    | true =>
      simp only [Bool.true_and, H.set_get]
      cases hx : Nat.beq a.2.1 x with
      | true =>
        rw [T.beq_true] at hx
        rw [if_pos hx.symm]
      | false =>
        have hx : x ≠ a.2.1 := fun q => by rw [q] at hx; simp at hx
        rw [if_neg hx]
        exact hv_get B m l x
end Go.Ev
/- The states of a drawn region's run in the order of the text. -/
namespace Go.Ev
noncomputable def stepAt (G : Γ) (call : CallF) (ops : Array Oper) (n0 : Nat) (p : Oper × Nat) (i : Nat) (s : DS) : Option DS :=
  match wantedO ops s.env p.1 with
  | some true => stepD G call n0 i p.2 s.env s.base s.allocs s.effs s.reads p.1
  | some false => match s.env.put p.1.dst (.tuple []) with
    | some env' => some ⟨env', s.base, s.allocs, s.effs, s.reads⟩
    | none => none
  | none => none
theorem runD_trace {G : Γ} {call : CallF} {ops : Array Oper} {n0 : Nat} : ∀ {l : List (Oper × Nat)} {i : Nat} {s s' : DS}, runD G call ops n0 l i s = some s' →
    ∃ f : Nat → DS, f i = s ∧ f (i + l.length) = s' ∧ ∀ k p, l[k]? = some p → stepAt G call ops n0 p (i + k) (f (i + k)) = some (f (i + k + 1))
  | [], i, s, s', h => by
    simp only [runD] at h
    cases h
    exact ⟨fun _ => s, rfl, rfl, fun k p q => by simp at q⟩
  | p :: rest, i, ⟨env, base, allocs, effs, reads⟩, s', h => by
    have main : ∀ s1, stepAt G call ops n0 p i ⟨env, base, allocs, effs, reads⟩ = some s1 → runD G call ops n0 rest (Nat.succ i) s1 = some s' →
        ∃ f : Nat → DS, f i = ⟨env, base, allocs, effs, reads⟩ ∧ f (i + (p :: rest).length) = s' ∧ ∀ k q, (p :: rest)[k]? = some q → stepAt G call ops n0 q (i + k) (f (i + k)) = some (f (i + k + 1)) := by
      intro s1 h1 h2
      obtain ⟨f, f1, f2, f3⟩ := runD_trace h2
      refine ⟨fun j => if j = i then ⟨env, base, allocs, effs, reads⟩ else f j, by simp, ?_, fun k q hq => ?_⟩
      · simp only [List.length_cons]
        rw [if_neg (by omega), show i + (rest.length + 1) = Nat.succ i + rest.length by omega]
        exact f2
      · cases k with
        | zero =>
          simp at hq; subst hq
          simp only [Nat.add_zero, if_true]
          rw [if_neg (by omega)]
          rw [h1]
          rw [← f1]
        | succ k =>
          have := f3 k q (by simpa using hq)
          simp only
          rw [if_neg (by omega), if_neg (by omega), show i + (k + 1) = Nat.succ i + k by omega]
          exact this
    simp only [runD] at h
    split at h
    · rename_i hw
      split at h
      · rename_i s1 hs
        exact main s1 (by simp only [stepAt, hw]; exact hs) h
      · cases h
    · rename_i hw
      split at h
      · rename_i env1 he
        exact main _ (by simp only [stepAt, hw, he]) h
      · cases h
    · cases h
end Go.Ev
/- The sets of operations that must come before an operation. -/
namespace Go.Ev
theorem bit_eq (m i : Nat) : bit m i = m.testBit i := by
  unfold bit
  rw [Bool.eq_iff_iff, T.beq_true]
  show m / 2 ^ i % 2 = 1 ↔ _
  rw [Nat.testBit_eq_decide_div_mod_eq]
  simp
theorem bit_or (a b i : Nat) : bit (Nat.lor a b) i = (bit a i || bit b i) := by
  rw [bit_eq, bit_eq, bit_eq]
  exact Nat.testBit_or ..
theorem bit_pow (a i : Nat) : bit (Nat.pow 2 a) i = decide (a = i) := by
  rw [bit_eq]
  exact Nat.testBit_two_pow
theorem bit_zero (i : Nat) : bit 0 i = false := by rw [bit_eq]; exact Nat.zero_testBit i
theorem ancOf_bit (tab : T Nat) (j : Nat) : ∀ (l : List Edge), bit (ancOf tab l) j = true ↔ ∃ e ∈ l, Region.binds .any e = true ∧ (e.on = j ∨ ∃ m, tab.get e.on = some m ∧ bit m j = true)
  | [] => by simp [ancOf, bit_zero]
  | e :: l => by
    simp only [ancOf]
    cases hb : Region.binds .any e with
    | false =>
      simp only
      rw [ancOf_bit tab j l]
      simp [hb]
    | true =>
      simp only
      rw [bit_or, bit_or, bit_pow, Bool.or_eq_true, Bool.or_eq_true, ancOf_bit tab j l]
      simp only [List.mem_cons, exists_eq_or_imp, hb, true_and]
      cases h : tab.get e.on with
      | none => simp [bit_zero]
      | some m => simp
theorem ancs_len : ∀ (l : List Oper) (i : Nat) (tab : T Nat), (ancs l i tab).length = l.length
  | [], _, _ => rfl
  | o :: l, i, tab => by simp only [ancs, List.length_cons, ancs_len l]
theorem ancs_spec : ∀ (l : List Oper) (i : Nat) (tab : T Nat), (∀ k, i ≤ k → tab.get k = none) → ∀ k o m, (ancs l i tab)[k]? = some (o, m) →
    l[k]? = some o ∧ ∀ j, bit m j = true ↔ ∃ e ∈ o.after.toList, Region.binds .any e = true ∧ (e.on = j ∨ ∃ m', (tab.get e.on = some m' ∨ ∃ q o', e.on = i + q ∧ q < k ∧ (ancs l i tab)[q]? = some (o', m')) ∧ bit m' j = true)
  | [], i, tab, _, k, o, m, h => by simp [ancs] at h
  | x :: l, i, tab, ht, k, o, m, h => by
    simp only [ancs] at h ⊢
    cases k with
    | zero =>
      simp at h
      obtain ⟨rfl, rfl⟩ := h
      refine ⟨rfl, fun j => ?_⟩
      rw [ancOf_bit]
      constructor
      · rintro ⟨e, e1, e2, e3⟩
        exact ⟨e, e1, e2, e3.imp id fun ⟨m', a, b⟩ => ⟨m', .inl a, b⟩⟩
      · rintro ⟨e, e1, e2, e3⟩
        refine ⟨e, e1, e2, e3.imp id fun ⟨m', a, b⟩ => ⟨m', ?_, b⟩⟩
        rcases a with a | ⟨q, o', _, hq, _⟩
        · exact a
        · omega
    | succ k =>
      have hk : (ancs l (Nat.succ i) (tab.put i (some (ancOf tab x.after.toList))))[k]? = some (o, m) := by simpa using h
      obtain ⟨h1, h2⟩ := ancs_spec l (Nat.succ i) _ (fun k' hk' => by rw [T.get_put_ne _ _ (by omega)]; exact ht k' (by omega)) k o m hk
      refine ⟨by simpa using h1, fun j => ?_⟩
      rw [h2]
      constructor
      · rintro ⟨e, e1, e2, e3⟩
        refine ⟨e, e1, e2, e3.imp id fun ⟨m', a, b⟩ => ⟨m', ?_, b⟩⟩
        rcases a with a | ⟨q, o', q1, q2, q3⟩
        · rw [T.get_put] at a
          split at a
          · rename_i he
            cases a
            exact .inr ⟨0, x, by omega, by omega, rfl⟩
          · exact .inl a
        · exact .inr ⟨q + 1, o', by omega, by omega, by simpa using q3⟩
      · rintro ⟨e, e1, e2, e3⟩
        refine ⟨e, e1, e2, e3.imp id fun ⟨m', a, b⟩ => ⟨m', ?_, b⟩⟩
        rcases a with a | ⟨q, o', q1, q2, q3⟩
        · refine .inl ?_
          rw [T.get_put_ne _ _ (fun he => by rw [he, ht i (Nat.le_refl _)] at a; cases a)]
          exact a
        · cases q with
          | zero =>
            simp at q3
            refine .inl ?_
            rw [q1, Nat.add_zero, T.get_put_same, ← q3.2]
          | succ q => exact .inr ⟨q, o', by omega, by omega, by simpa using q3⟩
end Go.Ev
/- The static check's meaning: masks go backwards and are closed; each temporary has one writer. -/
namespace Go.Ev
/-- the operations that must come before operation k -/
noncomputable def msk (ops : Array Oper) (k : Nat) : Nat := match (ancs ops.toList 0 .leaf)[k]? with
  | some p => p.2
  | none => 0
section
variable {ops : Array Oper}
theorem ancs_at {k : Nat} {o : Oper} (ho : ops[k]? = some o) : (ancs ops.toList 0 .leaf)[k]? = some (o, msk ops k) := by
  have hl : k < (ancs ops.toList 0 .leaf).length := by
    rw [ancs_len, Array.length_toList]; exact (Array.getElem?_eq_some_iff.1 ho).1
  have h1 : (ancs ops.toList 0 .leaf)[k]? = some (ancs ops.toList 0 .leaf)[k] := List.getElem?_eq_getElem hl
  generalize hp : (ancs ops.toList 0 .leaf)[k] = p at h1
  obtain ⟨o', m⟩ := p
  have := (ancs_spec ops.toList 0 .leaf (fun _ _ => rfl) k o' m h1).1
  have : ops[k]? = some o' := by simpa using this
  rw [ho] at this; cases this
  simp only [msk, h1]
theorem at_ancs {k : Nat} {p : Oper × Nat} (h : (ancs ops.toList 0 .leaf)[k]? = some p) : ops[k]? = some p.1 ∧ p.2 = msk ops k := by
  obtain ⟨o, m⟩ := p
  have h1 := (ancs_spec ops.toList 0 .leaf (fun _ _ => rfl) k o m h).1
  exact ⟨by simpa using h1, by simp only [msk, h]⟩
theorem msk_bit {k : Nat} {o : Oper} (ho : ops[k]? = some o) (j : Nat) : bit (msk ops k) j = true ↔ ∃ e ∈ o.after.toList, Region.binds .any e = true ∧ (e.on = j ∨ e.on < k ∧ bit (msk ops e.on) j = true) := by
  rw [(ancs_spec ops.toList 0 .leaf (fun _ _ => rfl) k o _ (ancs_at ho)).2 j]
  constructor
  · rintro ⟨e, e1, e2, e3⟩
    refine ⟨e, e1, e2, e3.imp id ?_⟩
    rintro ⟨m', a | ⟨q, o', q1, q2, q3⟩, b⟩
    · simp [T.get] at a
    · rw [Nat.zero_add] at q1
      subst q1
      have := (at_ancs q3).2
      simp only at this
      subst this
      exact ⟨q2, b⟩
  · rintro ⟨e, e1, e2, e3⟩
    refine ⟨e, e1, e2, e3.imp id ?_⟩
    rintro ⟨hlt, hb⟩
    have hl : e.on < ops.size := Nat.lt_trans hlt (Array.getElem?_eq_some_iff.1 ho).1
    exact ⟨_, .inr ⟨e.on, ops[e.on], by omega, hlt, ancs_at (Array.getElem?_eq_getElem hl)⟩, hb⟩

theorem okOps_at {as : List (Oper × Nat)} {os : List Oper} : ∀ {l : List (Oper × Nat)} {i : Nat}, okOps as os l i = true → ∀ (k : Nat) (p : Oper × Nat), l[k]? = some p → okOp as os p.1 p.2 (i + k) = true
  | [], i, _, k, p, h => by simp at h
  | q :: l, i, h, k, p, hk => by
    simp only [okOps, Bool.and_eq_true] at h
    cases k with
    | zero => simp at hk; subst hk; exact h.1
    | succ k =>
      have := okOps_at h.2 k p (by simpa using hk)
      rw [show i + (k + 1) = Nat.succ i + k by omega]
      exact this
theorem firstW_none {t : Tmp} : ∀ {l : List Oper} {i : Nat}, firstW t l i = none → ∀ (k : Nat) (o : Oper), l[k]? = some o → o.dst ≠ some t
  | [], _, _, k, o, h => by simp at h
  | x :: l, i, h, k, o, hk => by
    simp only [firstW] at h
    have rest : firstW t l (Nat.succ i) = none ∧ x.dst ≠ some t := by
      split at h
      · rename_i d hd
        split at h
        · cases h
        · rename_i hb
          refine ⟨h, fun q => ?_⟩
          rw [hd] at q; cases q
          simp at hb
      · rename_i hd
        exact ⟨h, fun q => by rw [hd] at q; cases q⟩
    cases k with
    | zero => simp at hk; subst hk; exact rest.2
    | succ k => exact firstW_none rest.1 k o (by simpa using hk)
theorem firstW_some {t : Tmp} : ∀ {l : List Oper} {i j : Nat}, firstW t l i = some j → ∃ k o, j = i + k ∧ l[k]? = some o ∧ o.dst = some t
  | [], _, _, h => by simp [firstW] at h
  | x :: l, i, j, h => by
    simp only [firstW] at h
    have go : firstW t l (Nat.succ i) = some j → ∃ k o, j = i + k ∧ (x :: l)[k]? = some o ∧ o.dst = some t := fun h => by
      obtain ⟨k, o, a, b, c⟩ := firstW_some h
      exact ⟨k + 1, o, by omega, by simpa using b, c⟩
    split at h
    · rename_i d hd
      split at h
      · rename_i hb
        cases h
        rw [T.beq_true] at hb
        subst hb
        exact ⟨0, x, rfl, rfl, hd⟩
      · exact go h
    · exact go h
theorem onceW_at : ∀ {l : List Oper}, onceW l = true → ∀ (j k : Nat) (o o' : Oper) (t : Tmp), l[j]? = some o → l[k]? = some o' → o.dst = some t → o'.dst = some t → j = k
  | [], _, j, k, o, o', t, h, _, _, _ => by simp at h
  | x :: l, h, j, k, o, o', t, hj, hk, ho, ho' => by
    simp only [onceW, Bool.and_eq_true] at h
    have first : ∀ (q : Nat) (o : Oper), l[q]? = some o → x.dst = some t → o.dst = some t → False := by
      intro q o hq hx hd
      have h1 := h.1
      rw [hx] at h1
      simp only at h1
      split at h1
      · rename_i hn
        exact firstW_none hn q o hq hd
      · cases h1
    cases j with
    | zero =>
      simp at hj; subst hj
      cases k with
      | zero => rfl
      | succ k => exact (first k o' (by simpa using hk) ho ho').elim
    | succ j =>
      cases k with
      | zero => simp at hk; subst hk; exact (first j o (by simpa using hj) ho' ho).elim
      | succ k => rw [onceW_at h.2 j k o o' t (by simpa using hj) (by simpa using hk) ho ho']

structure Okr (ops : Array Oper) : Prop where
  once : ∀ (j k : Nat) (o o' : Oper) (t : Tmp), ops[j]? = some o → ops[k]? = some o' → o.dst = some t → o'.dst = some t → j = k
  back : ∀ (k : Nat) (o : Oper), ops[k]? = some o → ∀ e ∈ o.after.toList, Region.binds .any e = true → e.on < k
  opnd : ∀ (k : Nat) (o : Oper) (t : Tmp), ops[k]? = some o → .tmp t ∈ opnds o.op → ∀ (j : Nat) (o' : Oper), ops[j]? = some o' → o'.dst = some t → bit (msk ops k) j = true ∨ j = k ∨ bit (msk ops j) k = true
  guard : ∀ (k : Nat) (o : Oper) (j : Nat) (b : Bool), ops[k]? = some o → o.guard = some (j, b) → bit (msk ops k) j = true
theorem okRegion_ok (h : okRegion ops = true) : Okr ops := by
  simp only [okRegion, Bool.and_eq_true] at h
  have once := onceW_at h.1
  have at_ : ∀ (k : Nat) (o : Oper), ops[k]? = some o → okOp (ancs ops.toList 0 .leaf) ops.toList o (msk ops k) k = true := fun k o ho => by
    have := okOps_at h.2 k _ (ancs_at ho)
    rwa [Nat.zero_add] at this
  refine ⟨fun j k o o' t a b c d => once j k o o' t (by simpa using a) (by simpa using b) c d, fun k o ho e he hbd => ?_, fun k o t ho ht j o' hj hd => ?_, fun k o j b ho hg => ?_⟩
  · have := at_ k o ho
    simp only [okOp, Bool.and_eq_true, List.all_eq_true] at this
    have h4 := this.1.1 e he
    rw [hbd] at h4
    exact blt_true h4
  · have := at_ k o ho
    simp only [okOp, Bool.and_eq_true, List.all_eq_true] at this
    have this' := this.1.2 _ ht
    simp only [okTmp] at this'
    split at this'
    · rename_i hn
      exact absurd hd (firstW_none hn j o' (by simpa using hj))
    · rename_i j' hs
      obtain ⟨q, o'', a, b, c⟩ := firstW_some hs
      rw [Nat.zero_add] at a; subst a
      have := once j' j o'' o' t b (by simpa using hj) c hd
      subst this
      have h3 := this'
      simp only [Bool.or_eq_true, T.beq_true] at h3
      rcases h3 with (h3 | h3) | h3
      · exact .inl h3
      · exact .inr (.inl h3)
      · refine .inr (.inr ?_)
        have ha : nth (ancs ops.toList 0 .leaf) j' = some (o'', msk ops j') := by
          rw [nth_eq]; exact ancs_at (by simpa using b)
        rw [ha] at h3
        exact h3
  · have := at_ k o ho
    simp only [okOp, Bool.and_eq_true] at this
    have := this.2
    rw [hg] at this
    exact this

variable (hr : Okr ops)
theorem msk_lt (hr : Okr ops) : ∀ (k : Nat) (o : Oper), ops[k]? = some o → ∀ j, bit (msk ops k) j = true → j < k := by
  intro k
  induction k using Nat.strongRecOn with
  | ind k ih =>
    intro o ho j hb
    obtain ⟨e, e1, e2, e3⟩ := (msk_bit ho j).1 hb
    have hlt := hr.back k o ho e e1 e2
    rcases e3 with rfl | ⟨_, e4⟩
    · exact hlt
    · have hl : e.on < ops.size := Nat.lt_trans hlt (Array.getElem?_eq_some_iff.1 ho).1
      exact Nat.lt_trans (ih e.on hlt _ (Array.getElem?_eq_getElem hl) j e4) hlt
theorem msk_trans (hr : Okr ops) : ∀ (k : Nat) (o : Oper), ops[k]? = some o → ∀ i j, bit (msk ops k) i = true → bit (msk ops i) j = true → bit (msk ops k) j = true := by
  intro k
  induction k using Nat.strongRecOn with
  | ind k ih =>
    intro o ho i j hi hj
    obtain ⟨e, e1, e2, e3⟩ := (msk_bit ho i).1 hi
    have hlt := hr.back k o ho e e1 e2
    refine (msk_bit ho j).2 ⟨e, e1, e2, .inr ⟨hlt, ?_⟩⟩
    rcases e3 with rfl | ⟨_, e4⟩
    · exact hj
    · have hl : e.on < ops.size := Nat.lt_trans hlt (Array.getElem?_eq_some_iff.1 ho).1
      exact ih e.on hlt _ (Array.getElem?_eq_getElem hl) i j e4 hj
theorem msk_edge {k : Nat} {o : Oper} (ho : ops[k]? = some o) {e : Edge} (he : e ∈ o.after.toList) (hb : Region.binds .any e = true) : bit (msk ops k) e.on = true :=
  (msk_bit ho _).2 ⟨e, he, hb, .inl rfl⟩
end
end Go.Ev
/- What the states of a drawn region's run hold. -/
namespace Go.Ev
/-- what a step of the run is -/
inductive StepK (G : Γ) (call : CallF) (ops : Array Oper) (n0 i m : Nat) (o : Oper) (s s' : DS) (v : V) : Prop
  | skip (hw : wantedO ops s.env o = some false) (hv : v = .tuple []) (h1 : s'.base = s.base) (h2 : s'.allocs = s.allocs) (h3 : s'.effs = s.effs) (h4 : s'.reads = s.reads)
  | val (hw : wantedO ops s.env o = some true) (ha : act G s.env.get o.op = .val (some v)) (h1 : s'.base = s.base) (h2 : s'.allocs = s.allocs) (h3 : s'.effs = s.effs) (h4 : s'.reads = s.reads)
  | rd (hw : wantedO ops s.env o = some true) (g : H → Option V) (ha : act G s.env.get o.op = .rd g) (h1 : s'.base = s.base) (h2 : s'.allocs = s.allocs) (h3 : s'.effs = s.effs) (h4 : s'.reads = (i, m, s.env, o.op, v) :: s.reads)
  | al (hw : wantedO ops s.env o = some true) (g : Nat → Option (O × V)) (obj : O) (ha : act G s.env.get o.op = .al g) (hg : g (n0 + i) = some (obj, v)) (h1 : s'.base = s.base) (h2 : s'.allocs = (i, n0 + i, obj) :: s.allocs) (h3 : s'.effs = s.effs) (h4 : s'.reads = s.reads)
  | ef (hw : wantedO ops s.env o = some true) (h : H) (hc : chain s.effs m = true) (hg : step1 G call s.env (hv s.base m s.allocs) o = some (v, h)) (h1 : s'.base = ⟨m, h⟩) (h2 : s'.allocs = s.allocs) (h3 : s'.effs = (i, ⟨m, h⟩) :: s.effs) (h4 : s'.reads = s.reads)

theorem stepAt_kind {G : Γ} {call : CallF} {ops : Array Oper} {n0 i m : Nat} {o : Oper} {s s' : DS} (h : stepAt G call ops n0 (o, m) i s = some s') :
    ∃ v, s.env.put o.dst v = some s'.env ∧ StepK G call ops n0 i m o s s' v := by
  unfold stepAt at h
  split at h
  · rename_i hw
    unfold stepD at h
    split at h
    · rename_i x hact
      split at h
      · rename_i v
        split at h
        · rename_i env' he; cases h; exact ⟨v, he, .val hw hact rfl rfl rfl rfl⟩
        · cases h
      · cases h
    · rename_i f hact
      split at h
      · rename_i v hf
        split at h
        · rename_i env' he; cases h; exact ⟨v, he, .rd hw f hact rfl rfl rfl rfl⟩
        · cases h
      · cases h
    · rename_i f hact
      split at h
      · rename_i obj v hf
        split at h
        · rename_i env' he; cases h; exact ⟨v, he, .al hw f obj hact hf rfl rfl rfl rfl⟩
        · cases h
      · cases h
    · rename_i f hact
      split at h
      · rename_i v h1 hc hf
        split at h
        · rename_i env' he; cases h; exact ⟨v, he, .ef hw h1 hc (by simp only [step1, hact]; exact hf) rfl rfl rfl rfl⟩
        · cases h
      · cases h
    · rename_i t hact
      split at h
      · rename_i t
        split at h
        · rename_i v h1 hc hf
          split at h
          · rename_i env' he; cases h; exact ⟨v, he, .ef hw h1 hc (by simp only [step1, hact]; exact hf) rfl rfl rfl rfl⟩
          · cases h
        · cases h
      · cases h
  · rename_i hw
    split at h
    · rename_i env' he; cases h; exact ⟨_, he, .skip hw rfl rfl rfl rfl rfl⟩
    · cases h
  · cases h

/-- a region's run: the state ahead of each operation, and what the operation yields -/
structure Tr (G : Γ) (call : CallF) (ops : Array Oper) (n0 : Nat) (B0 : Bs) (env0 : Env) (f : Nat → DS) (V : Nat → V) : Prop where
  okr : Okr ops
  zero : f 0 = ⟨env0, B0, [], [], []⟩
  put : ∀ k o, ops[k]? = some o → (f k).env.put o.dst (V k) = some (f (k + 1)).env
  kind : ∀ k o, ops[k]? = some o → StepK G call ops n0 k (msk ops k) o (f k) (f (k + 1)) (V k)
theorem Env.put_sz {e e' : Env} {d : Option Tmp} {v : V} (h : e.put d v = some e') : e'.sz = e.sz := by
  unfold Env.put at h
  cases d with
  | none => cases h; rfl
  | some t =>
    simp only at h
    split at h
    · cases h; rfl
    · cases h
theorem Env.put_get {e e' : Env} {d : Option Tmp} {v : V} (h : e.put d v = some e') (t : Nat) : e'.tr.get t = if d = some t then some v else e.tr.get t := by
  unfold Env.put at h
  cases d with
  | none => cases h; simp
  | some t' =>
    simp only at h
    split at h
    · cases h
      simp only [T.get_put, Option.some.injEq]
      by_cases q : t = t'
      · simp [q]
      · rw [if_neg q, if_neg (fun q' => q q'.symm)]
    · cases h
theorem Env.put_ok {e e' e1 : Env} {d : Option Tmp} {v : V} (h : e.put d v = some e') (hs : e1.sz = e.sz) : ∃ e2, e1.put d v = some e2 := by
  unfold Env.put at h ⊢
  cases d with
  | none => exact ⟨_, rfl⟩
  | some t' =>
    simp only at h ⊢
    split at h
    · rename_i hb
      rw [hs, hb]
      exact ⟨_, rfl⟩
    · cases h
section
variable {G : Γ} {call : CallF} {ops : Array Oper} {n0 : Nat} {B0 : Bs} {env0 : Env} {f : Nat → DS} {V : Nat → V} (ht : Tr G call ops n0 B0 env0 f V)
theorem Tr.op {k : Nat} (hk : k < ops.size) : ∃ o, ops[k]? = some o := ⟨ops[k], Array.getElem?_eq_getElem hk⟩
theorem Tr.allocs (ht : Tr G call ops n0 B0 env0 f V) (k i : Nat) (hk : i + k ≤ ops.size) : ∃ l, (f (i + k)).allocs = l ++ (f i).allocs ∧ ∀ a ∈ l, i ≤ a.1 ∧ a.1 < i + k ∧ a.2.1 = n0 + a.1 := by
  induction k with
  | zero => exact ⟨[], rfl, by simp⟩
  | succ k ih =>
    obtain ⟨l, l1, l2⟩ := ih (by omega)
    obtain ⟨o, ho⟩ := Tr.op (ops := ops) (k := i + k) (by omega)
    have same : (f (i + k + 1)).allocs = (f (i + k)).allocs → ∃ l, (f (i + (k + 1))).allocs = l ++ (f i).allocs ∧ ∀ a ∈ l, i ≤ a.1 ∧ a.1 < i + (k + 1) ∧ a.2.1 = n0 + a.1 := fun h =>
      ⟨l, by rw [← Nat.add_assoc, h, l1], fun a ha => by obtain ⟨x, y, z⟩ := l2 a ha; exact ⟨x, by omega, z⟩⟩
    cases ht.kind _ o ho with
    | skip _ _ _ h => exact same h
    | val _ _ _ h => exact same h
    | rd _ _ _ _ h => exact same h
    | ef _ _ _ _ _ h => exact same h
    | al _ g obj _ _ _ h =>
      refine ⟨(i + k, n0 + (i + k), obj) :: l, by rw [← Nat.add_assoc, h, l1]; rfl, fun a ha => ?_⟩
      rcases List.mem_cons.1 ha with rfl | ha
      · exact ⟨by simp, by simp, rfl⟩
      · obtain ⟨x, y, z⟩ := l2 a ha; exact ⟨x, by omega, z⟩
theorem Tr.effs (ht : Tr G call ops n0 B0 env0 f V) (k i : Nat) (hk : i + k ≤ ops.size) : ∃ l, (f (i + k)).effs = l ++ (f i).effs ∧ ∀ e ∈ l, i ≤ e.1 ∧ e.1 < i + k ∧ e.2.mask = msk ops e.1 := by
  induction k with
  | zero => exact ⟨[], rfl, by simp⟩
  | succ k ih =>
    obtain ⟨l, l1, l2⟩ := ih (by omega)
    obtain ⟨o, ho⟩ := Tr.op (ops := ops) (k := i + k) (by omega)
    have same : (f (i + k + 1)).effs = (f (i + k)).effs → ∃ l, (f (i + (k + 1))).effs = l ++ (f i).effs ∧ ∀ e ∈ l, i ≤ e.1 ∧ e.1 < i + (k + 1) ∧ e.2.mask = msk ops e.1 := fun h =>
      ⟨l, by rw [← Nat.add_assoc, h, l1], fun a ha => by obtain ⟨x, y, z⟩ := l2 a ha; exact ⟨x, by omega, z⟩⟩
    cases ht.kind _ o ho with
    | skip _ _ _ _ h => exact same h
    | val _ _ _ _ h => exact same h
    | rd _ _ _ _ _ h => exact same h
    | al _ _ _ _ _ _ _ h => exact same h
    | ef _ h _ _ _ _ h3 =>
      refine ⟨(i + k, ⟨msk ops (i + k), h⟩) :: l, by rw [← Nat.add_assoc, h3, l1]; rfl, fun a ha => ?_⟩
      rcases List.mem_cons.1 ha with rfl | ha
      · exact ⟨by simp, by simp, rfl⟩
      · obtain ⟨x, y, z⟩ := l2 a ha; exact ⟨x, by omega, z⟩
/-- each later effect has an effect as an ancestor -/
theorem Tr.effs_after (ht : Tr G call ops n0 B0 env0 f V) {i : Nat} {b : Bs} {l0 : List (Nat × Bs)} (he : (f (i + 1)).effs = (i, b) :: l0) (k : Nat) (hk : i + 1 + k ≤ ops.size) :
    ∃ l, (f (i + 1 + k)).effs = l ++ (f (i + 1)).effs ∧ ∀ e ∈ l, bit (msk ops e.1) i = true := by
  induction k with
  | zero => exact ⟨[], rfl, by simp⟩
  | succ k ih =>
    obtain ⟨l, l1, l2⟩ := ih (by omega)
    obtain ⟨o, ho⟩ := Tr.op (ops := ops) (k := i + 1 + k) (by omega)
    have same : (f (i + 1 + k + 1)).effs = (f (i + 1 + k)).effs → ∃ l, (f (i + 1 + (k + 1))).effs = l ++ (f (i + 1)).effs ∧ ∀ e ∈ l, bit (msk ops e.1) i = true := fun h =>
      ⟨l, by rw [← Nat.add_assoc, h, l1], l2⟩
    cases ht.kind _ o ho with
    | skip _ _ _ _ h => exact same h
    | val _ _ _ _ h => exact same h
    | rd _ _ _ _ _ h => exact same h
    | al _ _ _ _ _ _ _ h => exact same h
    | ef _ h hc _ _ _ h3 =>
      refine ⟨(i + 1 + k, ⟨msk ops (i + 1 + k), h⟩) :: l, by rw [← Nat.add_assoc, h3, l1]; rfl, fun a ha => ?_⟩
      rcases List.mem_cons.1 ha with rfl | ha
      · rw [l1, he] at hc
        cases l with
        | nil => exact hc
        | cons e l =>
          simp only [List.cons_append, chain] at hc
          exact msk_trans ht.okr _ o ho e.1 i hc (l2 e (by simp))
      · exact l2 a ha
theorem Tr.reads (ht : Tr G call ops n0 B0 env0 f V) (k i : Nat) (hk : i + k ≤ ops.size) : ∀ r ∈ (f i).reads, r ∈ (f (i + k)).reads := by
  induction k with
  | zero => exact fun r h => h
  | succ k ih =>
    intro r hr
    have := ih (by omega) r hr
    obtain ⟨o, ho⟩ := Tr.op (ops := ops) (k := i + k) (by omega)
    cases ht.kind _ o ho with
    | skip _ _ _ _ _ h => rw [← Nat.add_assoc, h]; exact this
    | val _ _ _ _ _ h => rw [← Nat.add_assoc, h]; exact this
    | al _ _ _ _ _ _ _ _ h => rw [← Nat.add_assoc, h]; exact this
    | ef _ _ _ _ _ _ _ h => rw [← Nat.add_assoc, h]; exact this
    | rd _ _ _ _ _ _ h => rw [← Nat.add_assoc, h]; exact List.mem_cons_of_mem _ this
theorem Tr.base (ht : Tr G call ops n0 B0 env0 f V) : ∀ (k : Nat), k ≤ ops.size → ((f k).effs = [] ∧ (f k).base = B0) ∨ ∃ e l, (f k).effs = e :: l ∧ (f k).base = e.2 := by
  intro k
  induction k with
  | zero => intro _; rw [ht.zero]; exact .inl ⟨rfl, rfl⟩
  | succ k ih =>
    intro hk
    have ih := ih (by omega)
    obtain ⟨o, ho⟩ := Tr.op (ops := ops) (k := k) (by omega)
    cases ht.kind _ o ho with
    | skip _ _ h1 _ h3 => rw [h1, h3]; exact ih
    | val _ _ h1 _ h3 => rw [h1, h3]; exact ih
    | rd _ _ _ h1 _ h3 => rw [h1, h3]; exact ih
    | al _ _ _ _ _ h1 _ h3 => rw [h1, h3]; exact ih
    | ef _ h _ _ h1 _ h3 => rw [h1, h3]; exact .inr ⟨_, _, rfl, rfl⟩
theorem Tr.sz (ht : Tr G call ops n0 B0 env0 f V) : ∀ (k : Nat), k ≤ ops.size → (f k).env.sz = env0.sz := by
  intro k
  induction k with
  | zero => intro _; rw [ht.zero]
  | succ k ih =>
    intro hk
    obtain ⟨o, ho⟩ := Tr.op (ops := ops) (k := k) (by omega)
    rw [Env.put_sz (ht.put k o ho)]
    exact ih (by omega)
/-- a temporary that no operation from i on writes -/
theorem Tr.keeps (ht : Tr G call ops n0 B0 env0 f V) {t : Tmp} (i : Nat) (k : Nat) (hk : i + k ≤ ops.size) (hn : ∀ j o, i ≤ j → j < i + k → ops[j]? = some o → o.dst ≠ some t) : (f (i + k)).env.tr.get t = (f i).env.tr.get t := by
  induction k with
  | zero => rfl
  | succ k ih =>
    obtain ⟨o, ho⟩ := Tr.op (ops := ops) (k := i + k) (by omega)
    rw [← Nat.add_assoc, Env.put_get (ht.put _ o ho), if_neg (hn _ o (by omega) (by omega) ho)]
    exact ih (by omega) fun j o h1 h2 => hn j o h1 (by omega)
/-- behind its writer a temporary stays -/
theorem Tr.written (ht : Tr G call ops n0 B0 env0 f V) {t : Tmp} {j : Nat} {o : Oper} (ho : ops[j]? = some o) (hd : o.dst = some t) {k : Nat} (hj : j < k) (hk : k ≤ ops.size) : (f k).env.tr.get t = some (V j) := by
  have h1 := ht.keeps (t := t) (j + 1) (k - (j + 1)) (by omega) fun q o' h1 h2 h3 h4 => by
    have := ht.okr.once q j o' o t h3 ho h4 hd
    omega
  rw [show j + 1 + (k - (j + 1)) = k by omega] at h1
  rw [h1, Env.put_get (ht.put j o ho), if_pos hd]
theorem Tr.unwritten (ht : Tr G call ops n0 B0 env0 f V) {t : Tmp} {k : Nat} (hk : k ≤ ops.size) (hn : ∀ j o, j < k → ops[j]? = some o → o.dst ≠ some t) : (f k).env.tr.get t = env0.tr.get t := by
  have h1 := ht.keeps (t := t) 0 k (by omega) fun q o' h1 h2 h3 => hn q o' (by omega) h3
  rw [Nat.zero_add, ht.zero] at h1
  exact h1
end
end Go.Ev
/- Memory in a drawn region, whatever has been carried out of it. -/
namespace Go.Ev
/-- what operation j made -/
def al (A : List (Nat × Nat × O)) (j : Nat) : Option O := match A.find? (fun a => Nat.beq a.1 j) with
  | some a => some a.2.2
  | none => none
theorem al_cons (a : Nat × Nat × O) (A : List (Nat × Nat × O)) (j : Nat) : al (a :: A) j = if a.1 = j then some a.2.2 else al A j := by
  simp only [al, List.find?_cons]
  by_cases h : a.1 = j
  · have : Nat.beq a.1 j = true := (T.beq_true).2 h
    rw [this, if_pos h]
  · have : Nat.beq a.1 j = false := by
      cases q : Nat.beq a.1 j with
      | false => rfl
      | true => exact absurd ((T.beq_true).1 q) h
    rw [this, if_neg h]
theorem al_none {A : List (Nat × Nat × O)} {j : Nat} (h : ∀ a ∈ A, a.1 ≠ j) : al A j = none := by
  induction A with
  | nil => rfl
  | cons a A ih => rw [al_cons, if_neg (h a (by simp))]; exact ih fun b hb => h b (by simp [hb])
theorem al_append {l A : List (Nat × Nat × O)} {j : Nat} (h : ∀ a ∈ l, a.1 ≠ j) : al (l ++ A) j = al A j := by
  induction l with
  | nil => rfl
  | cons a l ih => rw [List.cons_append, al_cons, if_neg (h a (by simp))]; exact ih fun b hb => h b (by simp [hb])
theorem hv_skip {B : Bs} {m : Nat} {l A : List (Nat × Nat × O)} (h : ∀ a ∈ l, bit m a.1 = false) : hv B m (l ++ A) = hv B m A := by
  induction l with
  | nil => rfl
  | cons a l ih =>
    simp only [List.cons_append, hv, h a (by simp), Bool.false_and]
    exact ih fun b hb => h b (by simp [hb])
theorem hv_below {n0 : Nat} {B : Bs} {m x : Nat} {A : List (Nat × Nat × O)} (hA : ∀ a ∈ A, a.2.1 = n0 + a.1) (hx : x < n0) : (hv B m A).tr.get x = B.h.tr.get x := by
  induction A with
  | nil => rfl
  | cons a A ih =>
    have ih := ih fun b hb => hA b (by simp [hb])
    simp only [hv]
    split
    · rw [H.set_get, if_neg (by rw [hA a (by simp)]; omega), ih]
    · exact ih
theorem hv_at {n0 : Nat} {B : Bs} {m j : Nat} {A : List (Nat × Nat × O)} (hA : ∀ a ∈ A, a.2.1 = n0 + a.1) :
    (hv B m A).tr.get (n0 + j) = if bit m j = true ∧ bit B.mask j = false then (al A j).or (B.h.tr.get (n0 + j)) else B.h.tr.get (n0 + j) := by
  induction A with
  | nil => simp [hv, al]
  | cons a A ih =>
    have ih := ih fun b hb => hA b (by simp [hb])
    have ha := hA a (by simp)
    simp only [hv]
    split
    · rename_i hc
      simp only [Bool.and_eq_true, Bool.not_eq_true'] at hc
      rw [H.set_get, al_cons]
      by_cases h : a.1 = j
      · subst h
        rw [if_pos (by rw [ha]), if_pos hc, if_pos rfl]; rfl
      · rw [if_neg (by rw [ha]; omega), if_neg h]
        exact ih
    · rename_i hc
      rw [ih, al_cons]
      by_cases h : a.1 = j
      · subst h
        have : ¬ (bit m a.1 = true ∧ bit B.mask a.1 = false) := fun q => by simp [q.1, q.2] at hc
        rw [if_neg this, if_neg this]
      · rw [if_neg h]

/-- memory behind the last operation of a set that changes it -/
def curB (B0 : Bs) (m : Nat) : List (Nat × Bs) → Bs
  | [] => B0
  | e :: l => match bit m e.1 with
    | true => e.2
    | false => curB B0 m l
theorem curB_skip {B0 : Bs} {m : Nat} {l l' : List (Nat × Bs)} (h : ∀ e ∈ l, bit m e.1 = false) : curB B0 m (l ++ l') = curB B0 m l' := by
  induction l with
  | nil => rfl
  | cons e l ih =>
    simp only [List.cons_append, curB, h e (by simp)]
    exact ih fun b hb => h b (by simp [hb])
theorem curB_congr {B0 : Bs} {m m' : Nat} {l : List (Nat × Bs)} (h : ∀ e ∈ l, bit m e.1 = bit m' e.1) : curB B0 m l = curB B0 m' l := by
  induction l with
  | nil => rfl
  | cons e l ih =>
    simp only [curB, h e (by simp), ih fun b hb => h b (by simp [hb])]
theorem curB_mem {B0 : Bs} {m : Nat} : ∀ {l : List (Nat × Bs)}, curB B0 m l = B0 ∨ ∃ e ∈ l, bit m e.1 = true ∧ curB B0 m l = e.2
  | [] => .inl rfl
  | e :: l => by
    simp only [curB]
    cases h : bit m e.1 with
    | true => exact .inr ⟨e, by simp, h, rfl⟩
    | false => exact (curB_mem (l := l)).imp id fun ⟨e', a, b, c⟩ => ⟨e', by simp [a], b, c⟩
theorem chkR_cur {G : Γ} {j m : Nat} {env : Env} {op : Op} {v : V} {A : List (Nat × Nat × O)} {B0 : Bs} {MS : Nat} (hm : ∀ k, bit m k = true → bit MS k = true) :
    ∀ {l : List (Nat × Bs)}, (∀ e ∈ l, bit MS e.1 = true → bit e.2.mask j = false) → chkR G j m env op v A B0 l = true → chkAt G m env op v A (curB B0 MS l) = true
  | [], _, h => h
  | e :: l, hj, h => by
    simp only [chkR, Bool.and_eq_true, Bool.or_eq_true] at h
    simp only [curB]
    cases hb : bit MS e.1 with
    | true => exact h.1.resolve_left (by simp [hj e (by simp) hb])
    | false => exact chkR_cur hm (fun b q => hj b (by simp [q])) (h.2.resolve_left fun q => by rw [hm _ q] at hb; cases hb)
theorem chkAll_mem {G : Γ} {A : List (Nat × Nat × O)} {B0 : Bs} {effs : List (Nat × Bs)} : ∀ {l : List (Nat × Nat × Env × Op × V)}, chkAll G A B0 effs l = true → ∀ r ∈ l, chkR G r.1 r.2.1 r.2.2.1 r.2.2.2.1 r.2.2.2.2 A B0 effs = true
  | [], _, r, hr => by simp at hr
  | x :: l, h, r, hr => by
    simp only [chkAll, Bool.and_eq_true] at h
    rcases List.mem_cons.1 hr with rfl | hr
    · exact h.1
    · exact chkAll_mem h.2 r hr

theorem frame {ρ ρ' : Ren} {h1 h2 h' h2' : H} {w w' : World} (hS2 : Sim ρ h2 w) (hn : h1.next = h2.next) (hsub : ∀ b o, h1.tr.get b = some o → h2.tr.get b = some o) (hS' : Sim ρ' h' w') (hE : Ext ρ h1 w ρ' h' w') (hn' : h2'.next = h'.next)
    (hget : ∀ x, h2'.tr.get x = match h1.tr.get x, h2.tr.get x with
      | none, some o => some o
      | _, _ => h'.tr.get x) :
    Sim ρ' h2' w' ∧ Ext ρ h2 w ρ' h2' w' ∧ ∀ x o, h1.tr.get x = none → h2.tr.get x = some o → h'.tr.get x = none := by
  have hS1 := hS2.sub (Nat.le_of_eq hn.symm) hsub
  have hle := hE.le hS1
  have cases_ : ∀ b o, h2'.tr.get b = some o → (h1.tr.get b = none ∧ h2.tr.get b = some o) ∨ h'.tr.get b = some o := fun b o h => by
    rw [hget] at h
    split at h
    · rename_i o' e1 e2; cases h; exact .inl ⟨e1, e2⟩
    · exact .inr h
  have lost : ∀ x o y o' L L', h1.tr.get x = none → h2.tr.get x = some o → ρ x = some L → h'.tr.get y = some o' → ρ' y = some L' → L.1 ≠ L'.1 := fun x o y o' L L' e1 e2 e3 e4 e5 q => by
    obtain ⟨b0, o0, L0, a, b, c, _⟩ := hE.origin y o' L' e4 e5 (by rw [← q]; exact hS2.lt e2 e3)
    have := hS2.inj b0 x o0 o L0 L (hsub _ _ a) e2 b e3 (by rw [c, q])
    subst this
    rw [e1] at a; cases a
  refine ⟨⟨hS'.glob, fun b L h => by rw [hn']; exact hS'.dom b L h, fun b o h => ?_, fun b b' o o' L L' h h' e e' q => ?_⟩, ⟨by rw [hn', ← hn]; exact hE.next, fun b hb => hE.agree b (by rw [hn]; exact hb), hE.size, fun B hB hno => ?_, fun b o L h e hlt => ?_, hE.tape, hE.os, hE.output⟩, fun x o e1 e2 => ?_⟩
  · rcases cases_ b o h with ⟨e1, e2⟩ | e
    · obtain ⟨L, c, x, y, z⟩ := hS2.live b o e2
      refine ⟨L, c, hle _ _ x, ?_, z.mono hle⟩
      rw [hE.frame L.1 (hS2.lt e2 x) fun b' o' L' p _ q r => ?_]
      · exact y
      · have := hS2.inj b' b o' o L' L (hsub _ _ p) e2 q x r
        subst this
        rw [e1] at p; cases p
    · exact hS'.live b o e
  · rcases cases_ b o h with ⟨x1, x2⟩ | x <;> rcases cases_ b' o' h' with ⟨y1, y2⟩ | y
    · obtain ⟨M, _, m1, _⟩ := hS2.live b o x2
      obtain ⟨M', _, m1', _⟩ := hS2.live b' o' y2
      have a := hle _ _ m1; rw [e] at a; cases a
      have a := hle _ _ m1'; rw [e'] at a; cases a
      exact hS2.inj b b' o o' _ _ x2 y2 m1 m1' q
    · obtain ⟨M, _, m1, _⟩ := hS2.live b o x2
      have a := hle _ _ m1; rw [e] at a; cases a
      exact absurd q (lost b o b' o' _ _ x1 x2 m1 y e')
    · obtain ⟨M, _, m1, _⟩ := hS2.live b' o' y2
      have a := hle _ _ m1; rw [e'] at a; cases a
      exact absurd q.symm (lost b' o' b o _ _ y1 y2 m1 x e)
    · exact hS'.inj b b' o o' L L' x y e e' q
  · exact hE.frame B hB fun b o L p u q => hno b o L (hsub _ _ p) u q
  · rcases cases_ b o h with ⟨e1, e2⟩ | e3
    · obtain ⟨M, _, m1, _⟩ := hS2.live b o e2
      have a := hle _ _ m1; rw [e] at a; cases a
      exact ⟨b, o, _, e2, m1, rfl, id⟩
    · obtain ⟨b0, o0, L0, x, y, z⟩ := hE.origin b o L e3 e hlt
      exact ⟨b0, o0, L0, hsub _ _ x, y, z⟩
  · cases q : h'.tr.get x with
    | none => rfl
    | some o' =>
      obtain ⟨M, _, m1, _⟩ := hS2.live x o e2
      exact absurd rfl (lost x o x o' M M e1 e2 m1 q (hle _ _ m1))
end Go.Ev
/- A region that draws its order: one operation more. -/
namespace Go.Ev
theorem bit_add (m i j : Nat) : bit (Nat.lor m (Nat.pow 2 i)) j = true ↔ bit m j = true ∨ i = j := by
  rw [bit_or, bit_pow, Bool.or_eq_true, decide_eq_true_eq]
theorem bit_add_ne {m i j : Nat} (h : j ≠ i) : bit (Nat.lor m (Nat.pow 2 i)) j = bit m j := by
  rw [Bool.eq_iff_iff, bit_add]
  exact ⟨fun q => q.resolve_right fun e => h e.symm, .inl⟩

/-- what holds when the operations of MS have been carried out, in whatever order -/
structure Inv (ops : Array Oper) (n0 : Nat) (B0 : Bs) (env0 : Env) (sN : DS) (ρ0 : Ren) (h0 : H) (w0 : World) (MS : Nat) (ρ : Ren) (a : Act) (w : World) : Prop where
  bound : ∀ j, bit MS j = true → j < ops.size
  closed : ∀ i, bit MS i = true → ∀ j, bit (msk ops i) j = true → bit MS j = true
  env : ∃ E : Env, ERel ρ E a.tmps ∧ E.sz = env0.sz ∧ (∀ j o t, bit MS j = true → ops[j]? = some o → o.dst = some t → E.tr.get t = sN.env.tr.get t) ∧
    ∀ t, (∀ j o, bit MS j = true → ops[j]? = some o → o.dst ≠ some t) → E.tr.get t = env0.tr.get t
  sim : Sim ρ (hv (curB B0 MS sN.effs) MS sN.allocs) w
  ext : Ext ρ0 h0 w0 ρ (hv (curB B0 MS sN.effs) MS sN.allocs) w
  free : ∀ j, j < ops.size → (bit MS j = false ∨ al sN.allocs j = none) → ρ (n0 + j) = none
  dead : ∀ j, j < ops.size → bit (curB B0 MS sN.effs).mask j = false → (curB B0 MS sN.effs).h.tr.get (n0 + j) = none
  nxt : n0 + ops.size ≤ (curB B0 MS sN.effs).h.next

section
variable {P : Program} {G : Γ} {call : CallF} {ops : Array Oper} {n0 : Nat} {B0 : Bs} {env0 : Env} {f : Nat → DS} {V : Nat → V} (ht : Tr G call ops n0 B0 env0 f V)
variable {ρ0 : Ren} {h0 : H} {w0 : World} {MS : Nat} {ρ : Ren} {a : Act} {w : World} {i : Nat} {o : Oper} (ho : ops[i]? = some o) (hi : bit MS i = false) (hm : ∀ j, bit (msk ops i) j = true → bit MS j = true)

theorem env_op (ht : Tr G call ops n0 B0 env0 f V) (ho : ops[i]? = some o) (hi : bit MS i = false) (hm : ∀ j, bit (msk ops i) j = true → bit MS j = true) {E : Env} {t : Tmp} (h1 : ∀ j o t, bit MS j = true → ops[j]? = some o → o.dst = some t → E.tr.get t = (f ops.size).env.tr.get t)
    (h2 : ∀ t, (∀ j o, bit MS j = true → ops[j]? = some o → o.dst ≠ some t) → E.tr.get t = env0.tr.get t)
    (hc : ∀ k, bit MS k = true → ∀ j, bit (msk ops k) j = true → bit MS j = true) (hw : ∀ j o', ops[j]? = some o' → o'.dst = some t → bit (msk ops i) j = true ∨ j = i ∨ bit (msk ops j) i = true) : E.tr.get t = (f i).env.tr.get t := by
  have hlt : i < ops.size := (Array.getElem?_eq_some_iff.1 ho).1
  by_cases h : ∃ (j : Nat) (o' : Oper), ops[j]? = some o' ∧ o'.dst = some t
  · obtain ⟨j, o', a, b⟩ := h
    rcases hw j o' a b with hb | hb
    · have hj := msk_lt ht.okr i o ho j hb
      rw [h1 j o' t (hm j hb) a b, ht.written a b (Nat.lt_trans hj hlt) (Nat.le_refl _), ht.written a b hj (Nat.le_of_lt hlt)]
    · have hji : i ≤ j ∧ bit MS j = false := by
        rcases hb with rfl | hb
        · exact ⟨Nat.le_refl _, hi⟩
        · refine ⟨Nat.le_of_lt (msk_lt ht.okr j o' a i hb), ?_⟩
          cases q : bit MS j with
          | false => rfl
          | true => rw [hc j q i hb] at hi; cases hi
      rw [h2 t fun j' o'' hj' x y => (by
        have := ht.okr.once j' j o'' o' t x a y b
        subst this
        rw [hji.2] at hj'; cases hj'), ht.unwritten (Nat.le_of_lt hlt) fun j' o'' hj' x y => (by
        have := ht.okr.once j' j o'' o' t x a y b
        omega)]
  · have no : ∀ (j : Nat) (o' : Oper), ops[j]? = some o' → o'.dst ≠ some t := fun j o' a b => h ⟨j, o', a, b⟩
    rw [h2 t fun j o' _ a => no j o' a, ht.unwritten (Nat.le_of_lt hlt) fun j o' _ a => no j o' a]
theorem env_get (ht : Tr G call ops n0 B0 env0 f V) (ho : ops[i]? = some o) (hi : bit MS i = false) (hm : ∀ j, bit (msk ops i) j = true → bit MS j = true) {E : Env} (h1 : ∀ j o t, bit MS j = true → ops[j]? = some o → o.dst = some t → E.tr.get t = (f ops.size).env.tr.get t)
    (h2 : ∀ t, (∀ j o, bit MS j = true → ops[j]? = some o → o.dst ≠ some t) → E.tr.get t = env0.tr.get t) (hc : ∀ k, bit MS k = true → ∀ j, bit (msk ops k) j = true → bit MS j = true) : ∀ x ∈ opnds o.op, E.get x = (f i).env.get x := by
  intro x hx
  cases x with
  | tmp t => exact env_op ht ho hi hm h1 h2 hc fun j o' p q => ht.okr.opnd i o t ho hx j o' p q
  | const v => rfl
  | global g => rfl
  | func g => rfl
theorem env_wanted (ht : Tr G call ops n0 B0 env0 f V) (ho : ops[i]? = some o) (hi : bit MS i = false) (hm : ∀ j, bit (msk ops i) j = true → bit MS j = true) {E : Env} (h1 : ∀ j o t, bit MS j = true → ops[j]? = some o → o.dst = some t → E.tr.get t = (f ops.size).env.tr.get t)
    (h2 : ∀ t, (∀ j o, bit MS j = true → ops[j]? = some o → o.dst ≠ some t) → E.tr.get t = env0.tr.get t) (hc : ∀ k, bit MS k = true → ∀ j, bit (msk ops k) j = true → bit MS j = true) : wantedO ops E o = wantedO ops (f i).env o := by
  unfold wantedO
  split
  · rfl
  · rename_i j want hg
    split
    · rename_i p hp
      split
      · rename_i d hd
        have hp : ops[j]? = some p := by simpa using hp
        rw [env_op ht ho hi hm h1 h2 (t := d) hc fun q o' x y => by
          have := ht.okr.once q j o' p d x hp y hd
          subst this
          exact .inl (ht.okr.guard i o q want ho hg)]
      · rfl
    · rfl
/-- memory ahead of an effect, and behind it -/
theorem cur_ef (ht : Tr G call ops n0 B0 env0 f V) (ho : ops[i]? = some o) (hi : bit MS i = false) (hc : ∀ k, bit MS k = true → ∀ j, bit (msk ops k) j = true → bit MS j = true) (hm : ∀ j, bit (msk ops i) j = true → bit MS j = true) {h : H} (hch : chain (f i).effs (msk ops i) = true) (he : (f (i + 1)).effs = (i, ⟨msk ops i, h⟩) :: (f i).effs) :
    curB B0 MS (f ops.size).effs = (f i).base ∧ curB B0 (Nat.lor MS (Nat.pow 2 i)) (f ops.size).effs = ⟨msk ops i, h⟩ := by
  have hlt : i < ops.size := (Array.getElem?_eq_some_iff.1 ho).1
  obtain ⟨l, l1, l2⟩ := ht.effs_after he (ops.size - (i + 1)) (by omega)
  obtain ⟨l', l1', l2'⟩ := ht.effs (ops.size - (i + 1)) (i + 1) (by omega)
  rw [show i + 1 + (ops.size - (i + 1)) = ops.size by omega] at l1 l1'
  have hl : l' = l := by rw [l1] at l1'; exact (List.append_cancel_right l1').symm
  subst hl
  have no : ∀ e ∈ l', bit MS e.1 = false := fun e h => by
    cases q : bit MS e.1 with
    | false => rfl
    | true =>
      have := hc e.1 q i (l2 e h)
      rw [hi] at this; cases this
  rw [l1]
  constructor
  · rw [curB_skip no, he]
    simp only [curB, hi]
    rcases ht.base i (Nat.le_of_lt hlt) with ⟨a, b⟩ | ⟨e, l, a, b⟩
    · rw [a, b]; rfl
    · rw [a] at hch ⊢
      simp only [chain] at hch
      simp only [curB, hm _ hch, b]
  · rw [curB_skip fun e h => by rw [bit_add_ne (by have := (l2' e h).1; omega)]; exact no e h, he]
    have : bit (Nat.lor MS (Nat.pow 2 i)) i = true := (bit_add _ _ _).2 (.inr rfl)
    simp only [curB, this]
theorem cur_no (ht : Tr G call ops n0 B0 env0 f V) (ho : ops[i]? = some o) (he : (f (i + 1)).effs = (f i).effs) : curB B0 (Nat.lor MS (Nat.pow 2 i)) (f ops.size).effs = curB B0 MS (f ops.size).effs := by
  have hlt : i < ops.size := (Array.getElem?_eq_some_iff.1 ho).1
  obtain ⟨l, l1, l2⟩ := ht.effs (ops.size - (i + 1)) (i + 1) (by omega)
  obtain ⟨l', l1', l2'⟩ := ht.effs i 0 (by omega)
  rw [show i + 1 + (ops.size - (i + 1)) = ops.size by omega] at l1
  rw [Nat.zero_add, ht.zero, List.append_nil] at l1'
  refine curB_congr fun e h => bit_add_ne ?_
  rw [l1, he, l1'] at h
  rcases List.mem_append.1 h with h | h
  · have := (l2 e h).1; omega
  · have := (l2' e h).2.1; omega
theorem al_no (ht : Tr G call ops n0 B0 env0 f V) (ho : ops[i]? = some o) (he : (f (i + 1)).allocs = (f i).allocs) : al (f ops.size).allocs i = none := by
  have hlt : i < ops.size := (Array.getElem?_eq_some_iff.1 ho).1
  obtain ⟨l, l1, l2⟩ := ht.allocs (ops.size - (i + 1)) (i + 1) (by omega)
  obtain ⟨l', l1', l2'⟩ := ht.allocs i 0 (by omega)
  rw [show i + 1 + (ops.size - (i + 1)) = ops.size by omega] at l1
  rw [Nat.zero_add, ht.zero, List.append_nil] at l1'
  rw [l1, he, l1']
  refine al_none fun a h => ?_
  rcases List.mem_append.1 h with h | h
  · have := (l2 a h).1; omega
  · have := (l2' a h).2.1; omega
theorem al_yes (ht : Tr G call ops n0 B0 env0 f V) (ho : ops[i]? = some o) {obj : O} (he : (f (i + 1)).allocs = (i, n0 + i, obj) :: (f i).allocs) : al (f ops.size).allocs i = some obj := by
  have hlt : i < ops.size := (Array.getElem?_eq_some_iff.1 ho).1
  obtain ⟨l, l1, l2⟩ := ht.allocs (ops.size - (i + 1)) (i + 1) (by omega)
  rw [show i + 1 + (ops.size - (i + 1)) = ops.size by omega] at l1
  rw [l1, he, al_append fun a h => by have := (l2 a h).1; omega, al_cons, if_pos rfl]
theorem hv_now (ht : Tr G call ops n0 B0 env0 f V) (ho : ops[i]? = some o) (B : Bs) : hv B (msk ops i) (f i).allocs = hv B (msk ops i) (f ops.size).allocs := by
  have hlt : i < ops.size := (Array.getElem?_eq_some_iff.1 ho).1
  obtain ⟨l, l1, l2⟩ := ht.allocs (ops.size - i) i (by omega)
  rw [show i + (ops.size - i) = ops.size by omega] at l1
  rw [l1, hv_skip fun a h => ?_]
  cases q : bit (msk ops i) a.1 with
  | false => rfl
  | true => have := msk_lt ht.okr i o ho _ q; have := (l2 a h).1; omega
theorem ids (ht : Tr G call ops n0 B0 env0 f V) : (∀ a ∈ (f ops.size).allocs, a.2.1 = n0 + a.1) ∧ ∀ j, ops.size ≤ j → al (f ops.size).allocs j = none := by
  obtain ⟨l', l1', l2'⟩ := ht.allocs ops.size 0 (by omega)
  rw [Nat.zero_add, ht.zero, List.append_nil] at l1'
  rw [l1']
  exact ⟨fun a h => (l2' a h).2.2, fun j hj => al_none fun a h => by have := (l2' a h).2.1; omega⟩
end
end Go.Ev
/- A region that draws its order: the step. -/
namespace Go.Ev
theorem hv_le {n0 : Nat} {B : Bs} {m m' : Nat} {A : List (Nat × Nat × O)} (hA : ∀ a ∈ A, a.2.1 = n0 + a.1) (hm : ∀ j, bit m j = true → bit m' j = true)
    (hd : ∀ j, al A j ≠ none → bit B.mask j = false → B.h.tr.get (n0 + j) = none) : ∀ b o, (hv B m A).tr.get b = some o → (hv B m' A).tr.get b = some o := by
  intro b o h
  by_cases hb : b < n0
  · rw [hv_below hA hb] at h ⊢; exact h
  · obtain ⟨j, rfl⟩ : ∃ j, b = n0 + j := ⟨b - n0, by omega⟩
    rw [hv_at hA] at h ⊢
    split at h
    · rename_i hc
      rw [if_pos ⟨hm _ hc.1, hc.2⟩]; exact h
    · split
      · rename_i h1 h2
        cases ha : al A j with
        | none => simpa using h
        | some o' =>
          rw [hd j (by rw [ha]; simp) h2.2] at h; cases h
      · exact h
/-- memory behind an operation that changes none -/
theorem hv_frame0 {n0 : Nat} {B : Bs} {m MS MS' i : Nat} {A : List (Nat × Nat × O)} (hA : ∀ a ∈ A, a.2.1 = n0 + a.1) (hm : ∀ j, bit m j = true → bit MS j = true) (hMS : ∀ j, j ≠ i → bit MS' j = bit MS j)
    (hai : al A i = none) (hd : ∀ j, al A j ≠ none → bit B.mask j = false → B.h.tr.get (n0 + j) = none) (x : Nat) :
    (hv B MS' A).tr.get x = match (hv B m A).tr.get x, (hv B MS A).tr.get x with
      | none, some o => some o
      | _, _ => (hv B m A).tr.get x := by
  by_cases hb : x < n0
  · rw [hv_below hA hb, hv_below hA hb, hv_below hA hb]
    cases B.h.tr.get x <;> rfl
  · obtain ⟨j, rfl⟩ : ∃ j, x = n0 + j := ⟨x - n0, by omega⟩
    rw [hv_at hA, hv_at hA, hv_at hA]
    cases ha : al A j with
    | none =>
      simp only [Option.none_or, ite_self]
      cases B.h.tr.get (n0 + j) <;> rfl
    | some ob =>
      have hji : j ≠ i := fun e => by rw [e, hai] at ha; cases ha
      rw [hMS j hji]
      simp only [Option.some_or]
      cases hk : bit B.mask j with
      | true => simp only [Bool.true_eq_false, and_false, if_false]; cases B.h.tr.get (n0 + j) <;> rfl
      | false =>
        have hn := hd j (by rw [ha]; simp) hk
        rw [hn]
        simp only [and_true]
        cases h1 : bit m j with
        | true => rw [hm j h1]; rfl
        | false => cases bit MS j <;> rfl
/-- memory behind an effect -/
theorem hv_frame1 {n0 : Nat} {B : Bs} {m MS MS' i : Nat} {h' : H} {A : List (Nat × Nat × O)} (hA : ∀ a ∈ A, a.2.1 = n0 + a.1) (hm : ∀ j, bit m j = true → bit MS j = true) (hk : ∀ j, bit B.mask j = true → bit m j = true) (hMS : ∀ j, j ≠ i → bit MS' j = bit MS j)
    (hai : al A i = none) (hd : ∀ j, al A j ≠ none → bit B.mask j = false → B.h.tr.get (n0 + j) = none) (x : Nat) :
    (hv ⟨m, h'⟩ MS' A).tr.get x = match (hv B m A).tr.get x, (hv B MS A).tr.get x with
      | none, some o => some o
      | _, _ => h'.tr.get x := by
  by_cases hb : x < n0
  · rw [hv_below hA hb, hv_below hA hb, hv_below hA hb]
    cases B.h.tr.get x <;> rfl
  · obtain ⟨j, rfl⟩ : ∃ j, x = n0 + j := ⟨x - n0, by omega⟩
    rw [hv_at hA, hv_at hA, hv_at hA]
    cases ha : al A j with
    | none =>
      simp only [Option.none_or, ite_self]
      cases B.h.tr.get (n0 + j) <;> rfl
    | some ob =>
      have hji : j ≠ i := fun e => by rw [e, hai] at ha; cases ha
      rw [hMS j hji]
      simp only [Option.some_or]
      cases h1 : bit m j with
      | true =>
        simp only [Bool.true_eq_false, and_false, if_false]
        rw [hm j h1]
        cases bit B.mask j with
        | true => simp only [Bool.true_eq_false, and_false, if_false]; cases B.h.tr.get (n0 + j) <;> rfl
        | false => rfl
      | false =>
        have hk : bit B.mask j = false := by
          cases q : bit B.mask j with
          | false => rfl
          | true => rw [hk j q] at h1; cases h1
        rw [hk, hd j (by rw [ha]; simp) hk]
        cases bit MS j <;> rfl
theorem hv_alloc {n0 : Nat} {B : Bs} {MS i : Nat} {obj : O} {A : List (Nat × Nat × O)} (hA : ∀ a ∈ A, a.2.1 = n0 + a.1) (hai : al A i = some obj) (hk : bit B.mask i = false) (hi : bit MS i = false) (x : Nat) :
    (hv B (Nat.lor MS (Nat.pow 2 i)) A).tr.get x = if x = n0 + i then some obj else (hv B MS A).tr.get x := by
  by_cases hb : x < n0
  · rw [hv_below hA hb, hv_below hA hb, if_neg (by omega)]
  · obtain ⟨j, rfl⟩ : ∃ j, x = n0 + j := ⟨x - n0, by omega⟩
    rw [hv_at hA, hv_at hA]
    by_cases e : j = i
    · subst e
      rw [if_pos ⟨(bit_add _ _ _).2 (.inr rfl), hk⟩, if_pos rfl, hai]; rfl
    · rw [bit_add_ne e, if_neg (show ¬ n0 + j = n0 + i by omega)]
end Go.Ev
/- A region that draws its order: the step carried out. -/
namespace Go.Ev
section
variable {P : Program} {G : Γ} {call : CallF} {ops : Array Oper} {n0 : Nat} {B0 : Bs} {env0 : Env} {f : Nat → DS} {V : Nat → V}
variable {ρ0 : Ren} {h0 : H} {w0 : World} {MS : Nat} {ρ : Ren} {a : Act} {w : World} {i : Nat} {o : Oper}

theorem Inv.next (ht : Tr G call ops n0 B0 env0 f V) (hI : Inv ops n0 B0 env0 (f ops.size) ρ0 h0 w0 MS ρ a w) (ho : ops[i]? = some o) (hm : ∀ j, bit (msk ops i) j = true → bit MS j = true)
    {E E' : Env} (hE1 : ERel ρ E a.tmps) (hE2 : E.sz = env0.sz) (hE3 : ∀ j o t, bit MS j = true → ops[j]? = some o → o.dst = some t → E.tr.get t = (f ops.size).env.tr.get t)
    (hE4 : ∀ t, (∀ j o, bit MS j = true → ops[j]? = some o → o.dst ≠ some t) → E.tr.get t = env0.tr.get t)
    (hput : E.put o.dst (V i) = some E') {ρ' : Ren} {w' : World} {c : Value} (hc : Rel ρ' (V i) c)
    (hS : Sim ρ' (hv (curB B0 (Nat.lor MS (Nat.pow 2 i)) (f ops.size).effs) (Nat.lor MS (Nat.pow 2 i)) (f ops.size).allocs) w')
    (hle : ρ.le ρ') (hX : Ext ρ0 h0 w0 ρ' (hv (curB B0 (Nat.lor MS (Nat.pow 2 i)) (f ops.size).effs) (Nat.lor MS (Nat.pow 2 i)) (f ops.size).allocs) w')
    (hfree : ∀ j, j < ops.size → (bit (Nat.lor MS (Nat.pow 2 i)) j = false ∨ al (f ops.size).allocs j = none) → ρ' (n0 + j) = none)
    (hdead : ∀ j, j < ops.size → bit (curB B0 (Nat.lor MS (Nat.pow 2 i)) (f ops.size).effs).mask j = false → (curB B0 (Nat.lor MS (Nat.pow 2 i)) (f ops.size).effs).h.tr.get (n0 + j) = none)
    (hnxt : n0 + ops.size ≤ (curB B0 (Nat.lor MS (Nat.pow 2 i)) (f ops.size).effs).h.next) :
    Inv ops n0 B0 env0 (f ops.size) ρ0 h0 w0 (Nat.lor MS (Nat.pow 2 i)) ρ' (a.put o.dst c) w' where
  bound j h := by
    rcases (bit_add _ _ _).1 h with h | rfl
    · exact hI.bound j h
    · exact (Array.getElem?_eq_some_iff.1 ho).1
  closed k h j hj := by
    rw [bit_add] at h ⊢
    rcases h with h | rfl
    · exact .inl (hI.closed k h j hj)
    · exact .inl (hm j hj)
  env := by
    have hlt : i < ops.size := (Array.getElem?_eq_some_iff.1 ho).1
    refine ⟨E', put_rel (hE1.mono hle) hput hc, by rw [Env.put_sz hput, hE2], fun j o' t hj hj' hd => ?_, fun t hn => ?_⟩
    · rw [Env.put_get hput]
      split
      · rename_i hd'
        rw [ht.written ho hd' hlt (Nat.le_refl _)]
      · rename_i hd'
        rcases (bit_add _ _ _).1 hj with h | rfl
        · exact hE3 j o' t h hj' hd
        · rw [ho] at hj'; cases hj'; exact absurd hd hd'
    · rw [Env.put_get hput, if_neg (hn i o ((bit_add _ _ _).2 (.inr rfl)) ho)]
      exact hE4 t fun j o' hj => hn j o' ((bit_add _ _ _).2 (.inl hj))
  sim := hS
  ext := hX
  free := hfree
  dead := hdead
  nxt := hnxt

theorem Tr.base_mask (ht : Tr G call ops n0 B0 env0 f V) (h0 : B0.mask = 0) (ho : ops[i]? = some o) (hch : chain (f i).effs (msk ops i) = true) : ∀ j, bit (f i).base.mask j = true → bit (msk ops i) j = true := by
  intro j hj
  have hlt : i < ops.size := (Array.getElem?_eq_some_iff.1 ho).1
  rcases ht.base i (Nat.le_of_lt hlt) with ⟨_, b⟩ | ⟨e, l, a, b⟩
  · rw [b, h0, bit_zero] at hj; cases hj
  · obtain ⟨l', l1, l2⟩ := ht.effs i 0 (by omega)
    rw [Nat.zero_add, ht.zero, List.append_nil] at l1
    rw [a] at hch
    have := (l2 e (by rw [← l1, a]; simp)).2.2
    rw [b, this] at hj
    exact msk_trans ht.okr i o ho e.1 j hch hj
theorem Tr.cur_mask (ht : Tr G call ops n0 B0 env0 f V) (h0 : B0.mask = 0) (hc : ∀ k, bit MS k = true → ∀ j, bit (msk ops k) j = true → bit MS j = true) : ∀ j, bit (curB B0 MS (f ops.size).effs).mask j = true → bit MS j = true := by
  intro j hj
  rcases curB_mem (B0 := B0) (m := MS) (l := (f ops.size).effs) with h | ⟨e, h1, h2, h3⟩
  · rw [h, h0, bit_zero] at hj; cases hj
  · obtain ⟨l', l1, l2⟩ := ht.effs ops.size 0 (by omega)
    rw [Nat.zero_add, ht.zero, List.append_nil] at l1
    rw [l1] at h1
    rw [h3, (l2 e h1).2.2] at hj
    exact hc e.1 h2 j hj
/-- what has been read is what would be read -/
theorem Tr.read (ht : Tr G call ops n0 B0 env0 f V) (hchk : chkAll G (f ops.size).allocs B0 (f ops.size).effs (f ops.size).reads = true) (hc : ∀ k, bit MS k = true → ∀ j, bit (msk ops k) j = true → bit MS j = true)
    (ho : ops[i]? = some o) (hi : bit MS i = false) (hm : ∀ j, bit (msk ops i) j = true → bit MS j = true) {v : Ev.V} (hr : (f (i + 1)).reads = (i, msk ops i, (f i).env, o.op, v) :: (f i).reads) :
    chkAt G (msk ops i) (f i).env o.op v (f ops.size).allocs (curB B0 MS (f ops.size).effs) = true := by
  have hlt : i < ops.size := (Array.getElem?_eq_some_iff.1 ho).1
  have hmem := ht.reads (ops.size - (i + 1)) (i + 1) (by omega) (i, msk ops i, (f i).env, o.op, v) (by rw [hr]; simp)
  rw [show i + 1 + (ops.size - (i + 1)) = ops.size by omega] at hmem
  have h1 := chkAll_mem hchk _ hmem
  obtain ⟨l', l1, l2⟩ := ht.effs ops.size 0 (by omega)
  rw [Nat.zero_add, ht.zero, List.append_nil] at l1
  refine chkR_cur hm (fun e h hb => ?_) h1
  rw [l1] at h
  rw [(l2 e h).2.2]
  cases q : bit (msk ops e.1) i with
  | false => rfl
  | true => rw [hc e.1 hb i q] at hi; cases hi

theorem Inv.step (hG : GOk P G) (hcall : CallS P call) (ht : Tr G call ops n0 B0 env0 f V) (hB : B0.mask = 0) (hn0 : h0.next = n0) (hchk : chkAll G (f ops.size).allocs B0 (f ops.size).effs (f ops.size).reads = true)
    (hI : Inv ops n0 B0 env0 (f ops.size) ρ0 h0 w0 MS ρ a w) (ho : ops[i]? = some o) (hi : bit MS i = false) (hm : ∀ j, bit (msk ops i) j = true → bit MS j = true)
    {F : Fence} (hF : Wide F) {n : Nat} {Q : Exit → Act → World → Prop} {K : Act → World → Prop}
    (hK : ∀ ρ' a' w', Inv ops n0 B0 env0 (f ops.size) ρ0 h0 w0 (Nat.lor MS (Nat.pow 2 i)) ρ' a' w' → a'.defers = a.defers → K a' w') : wpOpIn F n P ops Q i K a w := by
  have hlt : i < ops.size := (Array.getElem?_eq_some_iff.1 ho).1
  obtain ⟨E, hE1, hE2, hE3, hE4⟩ := hI.env
  have hEg := env_get ht ho hi hm hE3 hE4 hI.closed
  have hEw := env_wanted ht ho hi hm hE3 hE4 hI.closed
  have hact : act G E.get o.op = act G (f i).env.get o.op := act_congr hEg
  obtain ⟨E', hput⟩ := Env.put_ok (ht.put i o ho) (by rw [hE2, ht.sz i (Nat.le_of_lt hlt)])
  obtain ⟨hA, hA'⟩ := ids ht
  have hdef : ∀ c, (a.put o.dst c).defers = a.defers := fun c => by cases o.dst <;> rfl
  have hmask := ht.cur_mask hB hI.closed
  have hdead : ∀ j, al (f ops.size).allocs j ≠ none → bit (curB B0 MS (f ops.size).effs).mask j = false → (curB B0 MS (f ops.size).effs).h.tr.get (n0 + j) = none := fun j hj hb => by
    refine hI.dead j ?_ hb
    rcases Nat.lt_or_ge j ops.size with h | h
    · exact h
    · exact absurd (hA' j h) hj
  have hsub := hv_le hA hm hdead
  have hSm : Sim ρ (hv (curB B0 MS (f ops.size).effs) (msk ops i) (f ops.size).allocs) w := hI.sim.sub (by rw [hv_next, hv_next]; exact Nat.le_refl _) hsub
  -- an operation that changes nothing
  have quiet : (f (i + 1)).allocs = (f i).allocs → (f (i + 1)).effs = (f i).effs → ∀ {ρ' : Ren} {w' : World} {c : Value}, Sim ρ' (hv (curB B0 MS (f ops.size).effs) (msk ops i) (f ops.size).allocs) w' →
      Ext ρ (hv (curB B0 MS (f ops.size).effs) (msk ops i) (f ops.size).allocs) w ρ' (hv (curB B0 MS (f ops.size).effs) (msk ops i) (f ops.size).allocs) w' → Rel ρ' (V i) c →
      Inv ops n0 B0 env0 (f ops.size) ρ0 h0 w0 (Nat.lor MS (Nat.pow 2 i)) ρ' (a.put o.dst c) w' := by
    intro ha he ρ' w' c hS' hX hc
    have hcur := cur_no (MS := MS) ht ho he
    have hal := al_no ht ho ha
    obtain ⟨f1, f2, f3⟩ := frame (h2' := hv (curB B0 MS (f ops.size).effs) (Nat.lor MS (Nat.pow 2 i)) (f ops.size).allocs) hI.sim (by rw [hv_next, hv_next]) hsub hS' hX (by rw [hv_next, hv_next])
      (hv_frame0 hA hm (fun j hj => bit_add_ne hj) hal hdead)
    refine hI.next ht ho hm hE1 hE2 hE3 hE4 hput hc (by rw [hcur]; exact f1) (f2.le hI.sim) (by rw [hcur]; exact hI.ext.trans f2) (fun j hj hb => ?_) (by rw [hcur]; exact hI.dead) (by rw [hcur]; exact hI.nxt)
    rw [f2.agree _ (by rw [hv_next]; have := hI.nxt; omega)]
    refine hI.free j hj (hb.imp (fun q => ?_) id)
    cases r : bit MS j with
    | false => rfl
    | true => rw [(bit_add _ _ _).2 (.inl r)] at q; cases q
  unfold wpOpIn
  simp only [ho]
  cases ht.kind i o ho with
  | skip hw hv0 h1 h2 h3 h4 =>
    rw [wanted_rel hE1 (by rw [hEw]; exact hw)]
    simp only [Bool.false_eq_true, if_false]
    refine ⟨fun _ _ => hF.fn _, hK ρ _ w (quiet h2 h3 hSm (Ext.refl _ _ _) (by rw [hv0]; exact .undef)) (hdef _)⟩
  | val hw ha h1 h2 h3 h4 =>
    rw [wanted_rel hE1 (by rw [hEw]; exact hw), if_pos rfl]
    have hst : step1 G call E (hv (curB B0 MS (f ops.size).effs) (msk ops i) (f ops.size).allocs) o = some (V i, hv (curB B0 MS (f ops.size).effs) (msk ops i) (f ops.size).allocs) := by
      simp only [step1, hact, ha]
    refine ⟨fun _ _ => hF.fn _, (step1_ok hG hcall hst hSm hE1 F.round).upon hF fun c w1 hp => ?_⟩
    obtain ⟨ρ1, p1, p2, p3⟩ := hp
    exact hK ρ1 _ w1 (quiet h2 h3 p1 p2 p3) (hdef _)
  | rd hw g ha h1 h2 h3 h4 =>
    rw [wanted_rel hE1 (by rw [hEw]; exact hw), if_pos rfl]
    have hc := ht.read hchk hI.closed ho hi hm h4
    unfold chkAt at hc
    split at hc
    · rename_i g' ha'
      split at hc
      · rename_i v' hv'
        have hst : step1 G call E (hv (curB B0 MS (f ops.size).effs) (msk ops i) (f ops.size).allocs) o = some (v', hv (curB B0 MS (f ops.size).effs) (msk ops i) (f ops.size).allocs) := by
          simp only [step1, hact, ha', hv']
        refine ⟨fun _ _ => hF.fn _, (step1_ok hG hcall hst hSm hE1 F.round).upon hF fun c w1 hp => ?_⟩
        obtain ⟨ρ1, p1, p2, p3⟩ := hp
        exact hK ρ1 _ w1 (quiet h2 h3 p1 p2 (beq_rel hc p3)) (hdef _)
      · cases hc
    · cases hc
  | al hw g obj ha hg h1 h2 h3 h4 =>
    rw [wanted_rel hE1 (by rw [hEw]; exact hw), if_pos rfl]
    have hcur := cur_no (MS := MS) ht ho h3
    have hal := al_yes ht ho h2
    have hid : ρ (n0 + i) = none := hI.free i hlt (.inl hi)
    obtain ⟨c, c', L, w', e1, e2, e3, e4, e5⟩ := act_al hG (eval_rel hI.sim.glob hE1) (hact.trans ha) hid hg w
    have hnd : ∀ c, o.op ≠ .defer c := fun c q => by rw [q] at ha; simp [act] at ha
    have hother : ∀ B, B < w.heap.size → w'.heap[B]? = w.heap[B]? := fun B hB => by
      rw [e2.heap, Array.getElem?_push, if_neg (by omega)]
    have hmi : bit (curB B0 MS (f ops.size).effs).mask i = false := by
      cases q : bit (curB B0 MS (f ops.size).effs).mask i with
      | false => rfl
      | true => rw [hmask i q] at hi; cases hi
    have hget := hv_alloc (B := curB B0 MS (f ops.size).effs) hA hal hmi hi
    have hnx := hI.nxt
    have hS' := hI.sim.add (h' := hv (curB B0 MS (f ops.size).effs) (Nat.lor MS (Nat.pow 2 i)) (f ops.size).allocs) (o' := obj) (L := L) (c' := c') hid (by rw [hv_next]; omega) (by rw [hv_next, hv_next]; exact Nat.le_refl _) hget e3 (by rw [e2.heap, e3]; simp) e4 hother
    have hX : Ext ρ0 h0 w0 (ρ.with (n0 + i) L) (hv (curB B0 MS (f ops.size).effs) (Nat.lor MS (Nat.pow 2 i)) (f ops.size).allocs) w' := by
      have hx := hI.ext
      refine ⟨by have := hx.next; rw [hv_next] at this ⊢; exact this, fun b hb => ?_, Nat.le_trans hx.size (by rw [e2.heap]; simp), fun B hB hno => ?_, fun b ob Lb hb hL hlt' => ?_, by rw [e2.tape, hx.tape], by rw [e2.os, hx.os], by rw [e2.output, hx.output]⟩
      · rw [Ren.with_ne ρ L (by omega)]; exact hx.agree b hb
      · rw [hother B (Nat.lt_of_lt_of_le hB hx.size)]; exact hx.frame B hB hno
      · rw [hget] at hb
        by_cases e : b = n0 + i
        · subst e
          rw [Ren.with_same] at hL; cases hL
          have := hx.size
          omega
        · rw [if_neg e] at hb
          rw [Ren.with_ne ρ L e] at hL
          exact hx.origin b ob Lb hb hL hlt'
    refine ⟨fun _ _ => hF.fn _, ?_⟩
    rw [Oper.semAt_eq _ _ _ hnd]
    refine NextOk.upon (P := P) hF (R := fun c1 w1 => c1 = c ∧ w1 = w') (by rw [e1]; exact ⟨rfl, rfl⟩) fun c1 w1 hp => ?_
    obtain ⟨rfl, rfl⟩ := hp
    refine hK (ρ.with (n0 + i) L) _ _ (hI.next ht ho hm hE1 hE2 hE3 hE4 hput e5 (by rw [hcur]; exact hS') (Ren.le_with ρ L hid) (by rw [hcur]; exact hX) (fun j hj hb => ?_) (by rw [hcur]; exact hI.dead) (by rw [hcur]; exact hI.nxt)) (hdef _)
    have hji : j ≠ i := fun e => by
      subst e
      rcases hb with hb | hb
      · rw [(bit_add _ _ _).2 (.inr rfl)] at hb; cases hb
      · rw [hal] at hb; cases hb
    rw [Ren.with_ne ρ L (by omega)]
    refine hI.free j hj (hb.imp (fun q => ?_) id)
    rw [bit_add_ne hji] at q; exact q
  | ef hw h hch hst h1 h2 h3 h4 =>
    rw [wanted_rel hE1 (by rw [hEw]; exact hw), if_pos rfl]
    obtain ⟨c1, c2⟩ := cur_ef ht ho hi hI.closed hm hch h3
    have hal := al_no ht ho h2
    have hst' : step1 G call E (hv (curB B0 MS (f ops.size).effs) (msk ops i) (f ops.size).allocs) o = some (V i, h) := by
      rw [c1, ← hv_now ht ho]
      rw [← hst]
      simp only [step1, hact]
    have hbm := ht.base_mask hB ho hch
    rw [← c1] at hbm
    refine ⟨fun _ _ => hF.fn _, (step1_ok hG hcall hst' hSm hE1 F.round).upon hF fun c w1 hp => ?_⟩
    obtain ⟨ρ1, p1, p2, p3⟩ := hp
    obtain ⟨f1, f2, f3⟩ := frame (h2' := hv ⟨msk ops i, h⟩ (Nat.lor MS (Nat.pow 2 i)) (f ops.size).allocs) hI.sim (by rw [hv_next, hv_next]) hsub p1 p2 (by rw [hv_next])
      (hv_frame1 hA hm hbm (fun j hj => bit_add_ne hj) hal hdead)
    have hnx := hI.nxt
    have hfree : ∀ j, j < ops.size → (bit MS j = false ∨ al (f ops.size).allocs j = none) → ρ1 (n0 + j) = none := fun j hj hb => by
      rw [f2.agree _ (by rw [hv_next]; omega)]
      exact hI.free j hj hb
    refine hK ρ1 _ w1 (hI.next ht ho hm hE1 hE2 hE3 hE4 hput p3 (by rw [c2]; exact f1) (f2.le hI.sim) (by rw [c2]; exact hI.ext.trans f2) (fun j hj hb => ?_) (by
      rw [c2]
      intro j hj hb
      simp only at hb ⊢
      have hk : bit (curB B0 MS (f ops.size).effs).mask j = false := by
        cases q : bit (curB B0 MS (f ops.size).effs).mask j with
        | false => rfl
        | true => rw [hbm j q] at hb; cases hb
      have g1 : (hv (curB B0 MS (f ops.size).effs) (msk ops i) (f ops.size).allocs).tr.get (n0 + j) = none := by
        rw [hv_at hA, hb]
        simp only [Bool.false_eq_true, false_and, if_false]
        exact hI.dead j hj hk
      by_cases q : bit MS j = true ∧ al (f ops.size).allocs j ≠ none
      · obtain ⟨ob, hob⟩ := Option.ne_none_iff_exists'.1 q.2
        refine f3 _ ob g1 ?_
        rw [hv_at hA, if_pos ⟨q.1, hk⟩, hob]; rfl
      · have hno := hfree j hj (by
          cases r : bit MS j with
          | false => exact .inl rfl
          | true => exact .inr (Classical.byContradiction fun s => q ⟨r, s⟩))
        cases r : h.tr.get (n0 + j) with
        | none => rfl
        | some ob =>
          obtain ⟨L, _, l1, _⟩ := p1.live _ _ r
          rw [hno] at l1; cases l1) (by
      rw [c2]
      have := p2.next
      rw [hv_next] at this
      simp only
      omega)) (hdef _)
    refine hfree j hj (hb.imp (fun q => ?_) id)
    cases r : bit MS j with
    | false => rfl
    | true => rw [(bit_add _ _ _).2 (.inl r)] at q; cases q
end
end Go.Ev
/- A region that draws its order. -/
namespace Go.Ev
section
variable {P : Program} {G : Γ} {call : CallF} {ops : Array Oper}

theorem any_ok (hG : GOk P G) (hcall : CallS P call) {n0 : Nat} {B0 : Bs} {env0 : Env} {f : Nat → DS} {V : Nat → Ev.V} (ht : Tr G call ops n0 B0 env0 f V) (hB : B0.mask = 0)
    (hchk : chkAll G (f ops.size).allocs B0 (f ops.size).effs (f ops.size).reads = true) {ρ0 : Ren} {h0 : H} {w0 : World} (hn0 : h0.next = n0) {F : Fence} (hF : Wide F) {n : Nat} {Q : Exit → Act → World → Prop} {ds : List Deferred}
    (hQ : ∀ MS ρ' a' w', (∀ j, j < ops.size → bit MS j = true) → Inv ops n0 B0 env0 (f ops.size) ρ0 h0 w0 MS ρ' a' w' → a'.defers = ds → Q .normal a' w') :
    ∀ (fuel : Nat) (listed : Array Bool) (MS : Nat) (ρ : Ren) (a : Act) (w : World), Inv ops n0 B0 env0 (f ops.size) ρ0 h0 w0 MS ρ a w → a.defers = ds → (∀ j, j < ops.size → listed[j]? = some (bit MS j)) → listed.toList.count false ≤ fuel →
      wpAnyIn F n P .any ops Q fuel listed a w := by
  have done : ∀ (listed : Array Bool) (MS : Nat), (∀ j, j < ops.size → listed[j]? = some (bit MS j)) → Region.ready .any ops listed = [] → ∀ j, j < ops.size → bit MS j = true := by
    intro listed MS hl hr j
    induction j using Nat.strongRecOn with
    | ind j ih =>
      intro hj
      cases q : bit MS j with
      | true => rfl
      | false =>
        obtain ⟨o, ho⟩ := Tr.op hj
        have : j ∈ Region.ready .any ops listed := by
          rw [mem_ready]
          refine ⟨by rw [Array.getD_eq_getD_getElem?, hl j hj, q]; rfl, o, ho, fun e he hbd => ?_⟩
          have hlt := ht.okr.back j o ho e (by simpa using he) hbd
          rw [Array.getD_eq_getD_getElem?, hl _ (Nat.lt_trans hlt hj), ih _ hlt (Nat.lt_trans hlt hj)]; rfl
        rw [hr] at this; simp at this
  intro fuel
  induction fuel with
  | zero =>
    intro listed MS ρ a w hI hd hl hc
    have hno : ¬ false ∈ listed.toList := fun h => by have := List.count_pos_iff.2 h; omega
    have all : ∀ j, j < ops.size → bit MS j = true := fun j hj => by
      cases q : bit MS j with
      | true => rfl
      | false =>
        have := hl j hj
        rw [q] at this
        exact absurd (Array.mem_toList_iff.2 (Array.mem_of_getElem? this)) hno
    refine ⟨?_, hQ MS ρ a w all hI hd⟩
    rw [List.eq_nil_iff_forall_not_mem]
    intro j hj
    rw [mem_ready] at hj
    obtain ⟨h1, o, ho, _⟩ := hj
    have hlt := (Array.getElem?_eq_some_iff.1 ho).1
    rw [Array.getD_eq_getD_getElem?, hl j hlt, all j hlt] at h1
    cases h1
  | succ fuel ih =>
    intro listed MS ρ a w hI hd hl hc
    refine ⟨fun hr => hQ MS ρ a w (done listed MS hl hr) hI hd, fun i hi => ?_⟩
    rw [mem_ready] at hi
    obtain ⟨h1, o, ho, h2⟩ := hi
    have hlt := (Array.getElem?_eq_some_iff.1 ho).1
    rw [Array.getD_eq_getD_getElem?, hl i hlt] at h1
    have h1 : bit MS i = false := h1
    have hm : ∀ j, bit (msk ops i) j = true → bit MS j = true := fun j hj => by
      obtain ⟨e, e1, e2, e3⟩ := (msk_bit ho j).1 hj
      have hb := h2 e (by simpa using e1) e2
      have hlt' := ht.okr.back i o ho e e1 e2
      rw [Array.getD_eq_getD_getElem?, hl _ (Nat.lt_trans hlt' hlt)] at hb
      have hb : bit MS e.on = true := hb
      rcases e3 with rfl | ⟨_, e4⟩
      · exact hb
      · exact hI.closed _ hb j e4
    refine hI.step hG hcall ht hB hn0 hchk ho h1 hm hF fun ρ' a' w' hI' hd' => ih _ _ ρ' a' w' hI' (hd'.trans hd) (fun j hj => ?_) ?_
    · by_cases e : i = j
      · subst e
        have hs : i < listed.size := (Array.getElem?_eq_some_iff.1 (hl i hlt)).1
        rw [(bit_add _ _ _).2 (.inr rfl)]
        simp [hs]
      · rw [Array.getElem?_setIfInBounds_ne e, hl j hj, bit_add_ne (fun q => e q.symm)]
    · have hs : i < listed.toList.length := by rw [Array.length_toList]; exact (Array.getElem?_eq_some_iff.1 (hl i hlt)).1
      have hg : listed.toList[i] = false := by
        have := hl i hlt
        rw [h1, ← Array.getElem?_toList, List.getElem?_eq_getElem hs] at this
        simpa using this
      rw [Array.toList_setIfInBounds, List.count_set hs, hg]
      have : 0 < listed.toList.count false := List.count_pos_iff.2 (by rw [← hg]; exact List.getElem_mem hs)
      have e1 : (false == false) = true := rfl
      have e2 : (true == false) = false := rfl
      rw [e1, e2]
      simp only [if_true, Bool.false_eq_true, if_false]
      omega

theorem regD_ok (hG : GOk P G) (hcall : CallS P call) {F : Fence} (hF : Wide F) {n id : Nat} {Q : Exit → Act → World → Prop} (hok : okRegion ops = true) (hmix : P.follows .mixedOrders = true) {ρ : Ren} {env env' : Env} {h h' : H} {a : Act} {w : World}
    (hr : regD G call ops env h = some (env', h')) (hS : Sim ρ h w) (he : ERel ρ env a.tmps)
    (hQ : ∀ ρ' a' w', Sim ρ' h' w' → Ext ρ h w ρ' h' w' → ERel ρ' env' a'.tmps → a'.defers = a.defers → Q .normal a' w') : (Code.region id ops true).wpIn F n P Q a w := by
  unfold regD at hr
  split at hr
  · rename_i s hrun
    split at hr
    · rename_i hchk
      cases hr
      obtain ⟨f, f1, f2, f3⟩ := runD_trace hrun
      rw [ancs_len, Array.length_toList, Nat.zero_add] at f2
      subst f2
      have kinds : ∀ k, ∃ v, ∀ o, ops[k]? = some o → (f k).env.put o.dst v = some (f (k + 1)).env ∧ StepK G call ops h.next k (msk ops k) o (f k) (f (k + 1)) v := fun k => by
        cases ho : ops[k]? with
        | none => exact ⟨.nilp, fun o h => by cases h⟩
        | some o =>
          have := f3 k _ (ancs_at ho)
          rw [Nat.zero_add] at this
          obtain ⟨v, a, b⟩ := stepAt_kind this
          exact ⟨v, fun o' h => by cases h; exact ⟨a, b⟩⟩
      let V : Nat → Ev.V := fun k => Classical.choose (kinds k)
      have hV := fun k => Classical.choose_spec (kinds k)
      have ht : Tr G call ops h.next ⟨0, ⟨h.tr, Nat.add h.next ops.toList.length⟩⟩ env f V := ⟨okRegion_ok hok, f1, fun k o ho => (hV k o ho).1, fun k o ho => (hV k o ho).2⟩
      have hb0 : ∀ l, curB ⟨0, ⟨h.tr, Nat.add h.next ops.toList.length⟩⟩ 0 l = ⟨0, ⟨h.tr, Nat.add h.next ops.toList.length⟩⟩ := fun l => by
        have := curB_skip (B0 := ⟨0, ⟨h.tr, Nat.add h.next ops.toList.length⟩⟩) (m := 0) (l := l) (l' := []) fun e _ => bit_zero _
        rw [List.append_nil] at this
        rw [this]; rfl
      have hh0 : ∀ A, hv ⟨0, ⟨h.tr, Nat.add h.next ops.toList.length⟩⟩ 0 A = ⟨h.tr, Nat.add h.next ops.toList.length⟩ := fun A => by
        have := hv_skip (B := ⟨0, ⟨h.tr, Nat.add h.next ops.toList.length⟩⟩) (m := 0) (l := A) (A := []) fun e _ => bit_zero _
        rw [List.append_nil] at this
        rw [this]; rfl
      have hno : ∀ j, ρ (h.next + j) = none := fun j => by
        cases q : ρ (h.next + j) with
        | none => rfl
        | some L => have := hS.dom _ _ q; omega
      refine wpIn_region_any hmix (any_ok hG hcall ht rfl hchk rfl hF (ds := a.defers) (ρ0 := ρ) (h0 := h) (w0 := w) (fun MS ρ' a' w' hall hI hd => ?_) ops.size _ 0 ρ a { w with drawn := w.drawn + 1 } ?_ rfl ?_ ?_)
      · have hMS : MS = Nat.sub (Nat.pow 2 ops.toList.length) 1 := by
          refine Nat.eq_of_testBit_eq fun j => ?_
          show _ = (2 ^ ops.toList.length - 1).testBit j
          rw [Nat.testBit_two_pow_sub_one, ← bit_eq, Array.length_toList]
          by_cases hj : j < ops.size
          · rw [hall j hj]; simp [hj]
          · cases q : bit MS j with
            | true => exact absurd (hI.bound j q) hj
            | false => simp [hj]
        have hbase : curB ⟨0, ⟨h.tr, Nat.add h.next ops.toList.length⟩⟩ MS (f ops.size).effs = (f ops.size).base := by
          obtain ⟨l', l1, l2⟩ := ht.effs ops.size 0 (by omega)
          rw [Nat.zero_add, ht.zero, List.append_nil] at l1
          rcases ht.base ops.size (Nat.le_refl _) with ⟨a, b⟩ | ⟨e, l, a, b⟩
          · rw [a, b]; rfl
          · have : e ∈ l' := by rw [← l1, a]; simp
            have := (l2 e this).2.1
            rw [a, b]
            simp only [curB, hall e.1 (by omega)]
        obtain ⟨E, hE1, hE2, hE3, hE4⟩ := hI.env
        have hsim := hI.sim
        have hext := hI.ext
        rw [hbase] at hsim hext
        rw [hMS] at hsim hext
        refine hQ ρ' a' w' hsim hext ⟨by rw [ht.sz _ (Nat.le_refl _), ← hE2]; exact hE1.1, fun t v hv => hE1.2 t v ?_⟩ hd
        rw [← hv]
        by_cases q : ∃ (j : Nat) (o : Oper), ops[j]? = some o ∧ o.dst = some t
        · obtain ⟨j, o, x, y⟩ := q
          exact hE3 j o t (hall j (Array.getElem?_eq_some_iff.1 x).1) x y
        · rw [hE4 t fun j o _ x y => q ⟨j, o, x, y⟩, ht.unwritten (Nat.le_refl _) fun j o _ x y => q ⟨j, o, x, y⟩]
      · refine ⟨fun j hj => (by rw [bit_zero] at hj; cases hj), fun i hi => (by rw [bit_zero] at hi; cases hi), ⟨env, he, rfl, fun j o t hj => (by rw [bit_zero] at hj; cases hj), fun t _ => rfl⟩, ?_, ?_, fun j _ _ => hno j, fun j _ _ => ?_, ?_⟩
        · rw [hb0, hh0]
          have := hS.sub (h' := ⟨h.tr, Nat.add h.next ops.toList.length⟩) (Nat.le_add_right _ _) fun b o hb => hb
          exact ⟨this.glob, this.dom, this.live, this.inj⟩
        · rw [hb0, hh0]
          exact ⟨Nat.le_add_right _ _, fun _ _ => rfl, Nat.le_refl _, fun _ _ _ => rfl, fun b o L x y _ => ⟨b, o, L, x, y, rfl, fun q => q⟩, rfl, rfl, rfl⟩
        · rw [hb0]
          show h.tr.get _ = none
          cases q : h.tr.get (h.next + j) with
          | none => rfl
          | some o =>
            obtain ⟨L, _, l1, _⟩ := hS.live _ _ q
            rw [hno j] at l1; cases l1
        · rw [hb0, ← Array.length_toList]
          exact Nat.le_refl _
      · intro j hj
        rw [bit_zero]
        simp [hj]
      · simp
    · cases hr
  · cases hr
end
end Go.Ev

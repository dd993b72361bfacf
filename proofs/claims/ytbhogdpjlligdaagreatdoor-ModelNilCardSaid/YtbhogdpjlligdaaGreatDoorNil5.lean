/- ModelNil: it returns true, and nothing that was there turns. -/
import Derived.Test.YtbhogdpjlligdaaGreatDoorNil2
import Derived.Test.YtbhogdpjlligdaaGreatDoorNil4
namespace Go.Proofs.YtbhogdpjlligdaaGreatDoor
set_option maxRecDepth 100000
open Go.Ev Go.RowKit
namespace Law
/-- 'works' is taken as known -/
noncomputable def ext (f : FuncId) (args : List V) (h : H) : Option (V × H) :=
  match Nat.beq f 5, args, knows letters h with
  | true, [], true => some (.bool true, h)
  | _, _, _ => .none
noncomputable def G1 : Γ := mkG Tryz.prog eqs rows ext
theorem ext_ok : ExtOK Tryz.prog G1 := by
  intro f args h v h' hr ρ cargs w ha hS n
  have hr : ext f args h = some (v, h') := hr
  unfold ext at hr
  split at hr
  · rename_i h1 h2 h3
    cases hr
    rw [T.beq_true] at h1
    subst h1
    have hc : cargs = #[] := by
      have := ha.of_nil
      rw [← Array.toArray_toList (xs := cargs), this]
    subst hc
    refine (works_ok (knows_let h2 hS) n).mono fun e w' ⟨e1, e2⟩ => ?_
    obtain ⟨b1, b2⟩ := below_post hS e2
    exact ⟨_, e1, ρ, b1, b2, .bool true⟩
  · cases hr
noncomputable def code : Code := match Tryz.f3.body with
  | some c => c
  | .none => .skip
noncomputable def N : Nat := 100
noncomputable def r0 : Code := cFst code
noncomputable def x1 : Code := cSnd code
noncomputable def y1 : Code := cFst x1
noncomputable def x2 : Code := cSnd x1
noncomputable def r1 : Code := cFst y1
noncomputable def cd : Code := cSnd y1
/-- the arguments: what of them is not looked at is whatever it is -/
structure In where
  a0 : V
  a1 : V
  a2 : V
  a3 : V
  a4 : V
  s : List UInt8
  b0 : V
  b1 : V
  t : V
  i : V
  o0 : V
  o1 : V
  o2 : V
noncomputable def args (x : In) : List V := [.agg 9 [x.a0, x.a1, x.a2, x.a3, x.a4, .str x.s, x.b0, x.b1, x.t] .leaf, x.i, .agg 3 [x.o0, x.o1, x.o2] .leaf]
noncomputable def s0 (x : In) : St := ⟨⟨100, putArgs 0 (args x) .leaf⟩, hLet letters 1001, []⟩
noncomputable def s1 (x : In) : St := stOf (evC G1 N r0 .none 3 (s0 x))
noncomputable def p2 (x : In) : Option (Env × H) := regS G1 (callT G1 (evC G1 N)) (cOps r1) (opsPart (cOps r1) 0 2) (s1 x).env (s1 x).h
noncomputable def e2 (x : In) : Env := envOf (p2 x)
noncomputable def h2 (x : In) : H := memOf (p2 x)
noncomputable def e3 (b : Bool) (x : In) : Env := putOf ((e2 x).put (some 19) (.bool b))
noncomputable def e4 (b : Bool) (x : In) : Env := envOf (regS G1 (callT G1 (evC G1 N)) (cOps r1) (opsPart (cOps r1) 3 1) (e3 b x) (h2 x))
noncomputable def rowE (x : In) : Option TypeId := match (h2 x).tr.get 1003 with
  | some (.cells e _ _ _) => e
  | _ => .none
noncomputable def rowP (x : In) : List V := match (h2 x).tr.get 1003 with
  | some (.cells _ _ p _) => p
  | _ => []
noncomputable def rowT (x : In) : T V := match (h2 x).tr.get 1003 with
  | some (.cells _ _ _ t) => t
  | _ => .leaf
noncomputable def op2 : Oper := match (cOps r1)[2]? with
  | some o => o
  | .none => default
theorem body : Tryz.f3.body = some code := by kernel_rfl
theorem q0 : code = .seq r0 x1 := by kernel_rfl
theorem q1 : x1 = .seq y1 x2 := by kernel_rfl
theorem q2 : y1 = .seq r1 cd := by kernel_rfl
theorem q3 : r1 = .region 1 (cOps r1) false := by kernel_rfl
theorem q4 : cd = .cond (.tmp 20) (cFst cd) .skip := by kernel_rfl
theorem q5 : (cOps r1).size = 4 := by kernel_rfl
theorem q6 : (cOps r1)[2]? = some op2 := by kernel_rfl
theorem q7 : op2.guard = .none := by kernel_rfl
theorem q8 : op2.dst = some 19 := by kernel_rfl
theorem o0 : okC r0 = true := by kernel_rfl
theorem o1 : okC (cFst cd) = true := by kernel_rfl
theorem o2 : okC x2 = true := by kernel_rfl
theorem k1 (x : In) : goes .normal (evC G1 N r0 .none 3 (s0 x)) = true := by kernel_rfl
theorem k1d (x : In) : (s1 x).defs = [] := by kernel_rfl
theorem k2 (x : In) : regS G1 (callT G1 (evC G1 N)) (cOps r1) (opsPart (cOps r1) 0 2) (s1 x).env (s1 x).h = some (e2 x, h2 x) := by kernel_rfl
theorem k3 (x : In) : act G1 (e2 x).get op2.op = .call (some (.fn 4 [.slice 1003 0 1 (.known 1), .int .i64 1])) := by kernel_rfl
theorem k4 (x : In) : (h2 x).tr.get 1003 = some (.cells (rowE x) 9 (rowP x) (rowT x)) := by kernel_rfl
theorem k5 (x : In) : cell 9 (rowP x) (rowT x) 5 = some (.str x.s) := by kernel_rfl
theorem k6 (x : In) : cell 9 (rowP x) (rowT x) 8 = some x.t := by kernel_rfl
theorem k7 (x : In) : Nat.blt 19 (e2 x).sz = true := by kernel_rfl
theorem k8t (x : In) : regS G1 (callT G1 (evC G1 N)) (cOps r1) (opsPart (cOps r1) 3 1) (e3 true x) (h2 x) = some (e4 true x, h2 x) := by kernel_rfl
theorem k8f (x : In) : regS G1 (callT G1 (evC G1 N)) (cOps r1) (opsPart (cOps r1) 3 1) (e3 false x) (h2 x) = some (e4 false x, h2 x) := by kernel_rfl
theorem c8t (x : In) : (e4 true x).get (.tmp 20) = some (.bool false) := by kernel_rfl
theorem c8f (x : In) : (e4 false x).get (.tmp 20) = some (.bool true) := by kernel_rfl
theorem m1 (x : In) : goes .ret (evC G1 N (cFst cd) .none 3 ⟨e4 false x, h2 x, []⟩) = true := by kernel_rfl
theorem m2 (x : In) : outIs G1 Tryz.f3 isTrue (evC G1 N (cFst cd) .none 3 ⟨e4 false x, h2 x, []⟩) = true := by kernel_rfl
theorem m3 (x : In) : outIs G1 Tryz.f3 isTrue (evC G1 N x2 .none 3 ⟨e4 true x, h2 x, []⟩) = true := by kernel_rfl
theorem unk {ρ : Ren} {h : H} {w : World} (hS : Sim ρ h w) {b next : Nat} (hb : h.tr.get b = .none) (hρ : ρ b = .none) (hn : b < next) (hle : h.next ≤ next) (L : Nat × Nat × Nat) : Sim (ρ.with b L) ⟨h.tr, next⟩ w := by
  have hle' := Ren.le_with ρ L hρ
  have ne : ∀ b' o, h.tr.get b' = some o → b' ≠ b := fun b' o q e => by rw [e, hb] at q; cases q
  refine ⟨hS.glob.mono hle', fun b' L' q => ?_, fun b' o q => ?_, fun b1 b2 o1 o2 L1 L2 q1 q2 r1 r2 => ?_⟩
  · by_cases e : b' = b
    · subst e; exact hn
    · rw [Ren.with_ne ρ L e] at q
      exact Nat.lt_of_lt_of_le (hS.dom b' L' q) hle
  · obtain ⟨L', c, l1, l2, l3⟩ := hS.live b' o q
    exact ⟨L', c, hle' _ _ l1, l2, l3.mono hle'⟩
  · rw [Ren.with_ne ρ L (ne b1 o1 q1)] at r1
    rw [Ren.with_ne ρ L (ne b2 o2 q2)] at r2
    exact hS.inj b1 b2 o1 o2 L1 L2 q1 q2 r1 r2

theorem ok {x : In} {ρ : Ren} {W : World} (hS : Sim ρ (hLet letters 1001) W) {cargs : Array Value} (ha : Rels ρ (args x) cargs.toList) (ht : x.t = .nils ∨ ∃ b o n c, x.t = .slice b o n (.known c)) (k : Nat) :
    CallsIn Fence.wide k Tryz.prog 3 cargs W (fun e w' => e = .returned (.bool true) ∧ Below W.heap.size W w') := by
  have hG : GOk Tryz.prog G1 := (mk_ok _).1
  have hC : Codes G1 := (mk_ok _).2
  have hX : ExtOK Tryz.prog G1 := ext_ok
  have hR : ∀ ρ' v h2 c w2, isTrue v = true → Rel ρ' v c → Sim ρ' h2 w2 → Ext ρ (hLet letters 1001) W ρ' h2 w2 → (fun (e : Ending) w' => e = .returned (.bool true) ∧ Below W.heap.size W w') (.returned c) w2 := by
    intro ρ' v h2 c w2 h1 h2 _ h4
    cases v with
    | bool b =>
      have hb : b = true := h1
      subst hb
      cases h2; exact ⟨rfl, h4.below (hLet_ro _ _)⟩
    | _ => simp [isTrue] at h1
  refine callsIn_of_wp_marks Tryz.func3 body trivial ?_
  rw [show Tryz.f3.ntmps = 100 by kernel_rfl]
  have h0 := at_enter hS ha (n := 100) (show 3 ≤ 100 by decide)
  rw [Law.q0]
  refine at_seq hG hC hX (N := N) (fn := 3) h0 (k1 x) Law.o0 fun a1 w1 A1 => ?_
  rw [Law.q1]
  refine wpIn_seq ?_
  rw [Law.q2]
  refine wpIn_seq ?_
  rw [Law.q3]
  refine region_parts ?_
  rw [Law.q5]
  refine at_part hG hC hX (N := N) (i := 0) (n := 2) (m := 2) A1 (by rw [Law.q5]; decide) (k2 x) fun a2 w2 (A2 : At ρ (hLet letters 1001) W ⟨e2 x, h2 x, (s1 x).defs⟩ a2 w2) => ?_
  rw [k1d] at A2
  refine at_call (i := 2) (m := 1) hG A2 Law.q6 Law.q7 (k3 x) Tryz.func4 (fun h => absurd (show (Tryz.f4.name == "runtime.NumGoroutine") = false by kernel_rfl) (by rw [h]; decide)) Few.body (Good := fun v => ∃ b, v = .bool b) (fun ρ' cargs' hS' ha' k' => ?_) (fun v => ?_) fun v env' a3 w3 hv hput A3 => ?_
  · -- the call of few
    obtain ⟨c0, cs0, e0, r0, r1⟩ := ha'.uncons
    obtain ⟨c1, cs1, e1, r2, r3⟩ := r1.uncons
    have := r3.of_nil
    subst this
    subst e1
    have hc : cargs' = #[c0, c1] := by rw [← Array.toArray_toList (xs := cargs'), e0]
    subst hc
    cases r2
    obtain ⟨L, c, l1, l2, l3⟩ := hS'.live 1003 _ (k4 x)
    cases r0 with
    | sliceK hb =>
      rw [hb] at l1; cases l1
      obtain ⟨cs, el, lo, hi, rfl, z1, z2, _, _, z3⟩ := l3
      simp only at z1 z2 z3 l2
      refine Few.call l2 (by omega) (fun i y hi hy => z3.1 i y hi hy) (fun y hy => ?_) ?_ k' (s := x.s)
      · have := z3.2 5 _ y (k5 x) hy
        cases this; rfl
      · have h8 := fun y hy => z3.2 8 _ y (k6 x) hy
        rcases ht with ht | ⟨b, o, n, c, ht⟩
        · rw [ht] at h8
          exact .inl fun y hy => by have := h8 y hy; cases this; rfl
        · rw [ht] at h8
          refine .inr ?_
          cases hρ : ρ' b with
          | none =>
            exact ⟨0, 0, 0, 0, fun y hy => by
              have := h8 y hy
              cases this with
              | sliceK hb' => rw [hρ] at hb'; cases hb'⟩
          | some L' =>
            obtain ⟨B', d', z'⟩ := L'
            exact ⟨B', d' + o, n, c, fun y hy => by
              have := h8 y hy
              cases this with
              | sliceK hb' => rw [hρ] at hb'; cases hb'; rfl⟩
  · unfold Env.put
    rw [Law.q8]
    simp only [k7]
    exact ⟨_, rfl⟩
  · obtain ⟨b, rfl⟩ := hv
    rw [Law.q8] at hput
    have he : env' = e3 b x := by
      show env' = putOf ((e2 x).put (some 19) (.bool b))
      rw [hput]; rfl
    subst he
    cases b with
    | true =>
      refine at_part hG hC hX (N := N) (i := 3) (n := 1) (m := 0) A3 (by rw [Law.q5]; decide) (k8t x) fun a4 w4 A4 => ?_
      show Exit.then _ _ .normal a4 w4
      simp only [Exit.then]
      rw [Law.q4]
      refine at_cond A4 (c8t x) (fun h => by cases h) fun _ => wpIn_skip ?_
      exact at_out hG hC hX (N := N) A4 (m3 x) Law.o2 hR
    | false =>
      refine at_part hG hC hX (N := N) (i := 3) (n := 1) (m := 0) A3 (by rw [Law.q5]; decide) (k8f x) fun a4 w4 A4 => ?_
      show Exit.then _ _ .normal a4 w4
      simp only [Exit.then]
      rw [Law.q4]
      refine at_cond A4 (c8f x) (fun _ => ?_) (fun h => by cases h)
      exact at_ret hG hC hX (N := N) A4 (m1 x) (m2 x) Law.o1 hR fun _ _ h => h
end Law
end Go.Proofs.YtbhogdpjlligdaaGreatDoor

/- What 'few' does with one entry: it returns a bool, and nothing turns. -/
import Derived.Test.YtbhogdpjlligdaaGreatDoorNil1
import Derived.Test.YtbhogdpjlligdaaGreatDoorEvE
namespace Go.Proofs.YtbhogdpjlligdaaGreatDoor
set_option maxRecDepth 100000
open Go.Ev Go.RowKit
namespace Few
noncomputable def code : Code := match Tryz.f4.body with
  | some c => c
  | .none => .skip
noncomputable def hB (s : List UInt8) (t : V) : H := ⟨T.put .leaf 1001 (some (.ro .none 9 [] (T.put (T.put .leaf 5 (some (.str s))) 8 (some t)))), 1003⟩
noncomputable def args : List V := [.slice 1001 0 1 (.known 1), .int .i64 1]
noncomputable def N : Nat := 60
noncomputable def r0 : Code := (cFst code)
noncomputable def x1 : Code := (cSnd code)
noncomputable def y1 : Code := (cFst x1)
noncomputable def x2 : Code := (cSnd x1)
noncomputable def z1 : Code := (cFst x2)
noncomputable def x3 : Code := (cSnd x2)
noncomputable def r3 : Code := (cFst z1)
noncomputable def bl : Code := (cSnd z1)
noncomputable def lp : Code := (cFst bl)
noncomputable def bd : Code := (cFst lp)
noncomputable def d1 : Code := (cFst bd)
noncomputable def d2 : Code := (cSnd bd)
noncomputable def e1 : Code := (cFst d2)
noncomputable def r5 : Code := (cSnd d2)
noncomputable def in1 : Code := (cFst e1)
noncomputable def r6 : Code := (cFst in1)
noncomputable def cd : Code := (cSnd in1)
noncomputable def s0 (s : List UInt8) (t : V) : St := ⟨⟨33, putArgs 0 args .leaf⟩, hB s t, []⟩
noncomputable def s1 (s : List UInt8) (t : V) : St := stOf (evC G0 N r0 .none 4 (s0 s t))
noncomputable def s2 (s : List UInt8) (t : V) : St := stOf (evC G0 N y1 .none 4 (s1 s t))
noncomputable def s3 (s : List UInt8) (t : V) : St := stOf (evC G0 N r3 .none 4 (s2 s t))
noncomputable def s4 (s : List UInt8) (t : V) : St := stOf (evC G0 N d1 .none 4 (s3 s t))
noncomputable def e5 (s : List UInt8) (t : V) : Env := envOf (regS G0 (callT G0 (evC G0 N)) (cOps r6) (opsPart (cOps r6) 0 7) (s4 s t).env (s4 s t).h)
noncomputable def e6 (b : Bool) (s : List UInt8) (t : V) : Env := putOf ((e5 s t).put (some 23) (.bool b))
noncomputable def e7 (b : Bool) (s : List UInt8) (t : V) : Env := envOf (regS G0 (callT G0 (evC G0 N)) (cOps r6) (opsPart (cOps r6) 8 9) (e6 b s t) (hB s t))
noncomputable def s8 (b : Bool) (s : List UInt8) (t : V) : St := stOf (evC G0 N r5 .none 4 ⟨e7 b s t, hB s t, []⟩)
noncomputable def s9 (b : Bool) (s : List UInt8) (t : V) : St := stOf (evC G0 N d1 .none 4 (s8 b s t))
noncomputable def isBool : V → Bool
  | .bool _ => true
  | _ => false
theorem body : Tryz.f4.body = some code := by kernel_rfl
theorem q0 : code = .seq r0 x1 := by kernel_rfl
theorem q1 : x1 = .seq y1 x2 := by kernel_rfl
theorem q2 : x2 = .seq z1 x3 := by kernel_rfl
theorem q3 : z1 = .seq r3 bl := by kernel_rfl
theorem q4 : bl = .block 0 lp := by kernel_rfl
theorem q5 : lp = .loop bd := by kernel_rfl
theorem q6 : bd = .seq d1 d2 := by kernel_rfl
theorem q7 : d2 = .seq e1 r5 := by kernel_rfl
theorem q8 : e1 = .block 1 in1 := by kernel_rfl
theorem q9 : in1 = .seq r6 cd := by kernel_rfl
theorem q10 : r6 = .region 6 (cOps r6) false := by kernel_rfl
theorem q11 : cd = .cond (.tmp 32) (cFst cd) .skip := by kernel_rfl
theorem q12 : (cOps r6).size = 17 := by kernel_rfl
theorem k1 (s : List UInt8) (t : V) : goes .normal (evC G0 N r0 .none 4 (s0 s t)) = true := by kernel_rfl
theorem k2 (s : List UInt8) (t : V) : goes .normal (evC G0 N y1 .none 4 (s1 s t)) = true := by kernel_rfl
theorem k3 (s : List UInt8) (t : V) : goes .normal (evC G0 N r3 .none 4 (s2 s t)) = true := by kernel_rfl
theorem k4 (s : List UInt8) (t : V) : goes .normal (evC G0 N d1 .none 4 (s3 s t)) = true := by kernel_rfl
theorem k4h (s : List UInt8) (t : V) : (s4 s t).h = hB s t := by kernel_rfl
theorem k4d (s : List UInt8) (t : V) : (s4 s t).defs = [] := by kernel_rfl
theorem k5 (s : List UInt8) (t : V) : regS G0 (callT G0 (evC G0 N)) (cOps r6) (opsPart (cOps r6) 0 7) (s4 s t).env (s4 s t).h = some (e5 s t, hB s t) := by kernel_rfl
theorem k6 (s : List UInt8) (t : V) : regS G0 (callT G0 (evC G0 N)) (cOps r6) (opsPart (cOps r6) 7 1) (e5 s t) (hB s t) = some (e6 (ilt 200 (Int.ofNat s.length)) s t, hB s t) := by kernel_rfl
theorem k7t (s : List UInt8) (t : V) : regS G0 (callT G0 (evC G0 N)) (cOps r6) (opsPart (cOps r6) 8 9) (e6 true s t) (hB s t) = some (e7 true s t, hB s t) := by kernel_rfl
theorem k7n (s : List UInt8) : regS G0 (callT G0 (evC G0 N)) (cOps r6) (opsPart (cOps r6) 8 9) (e6 false s .nils) (hB s .nils) = some (e7 false s .nils, hB s .nils) := by kernel_rfl
theorem k7s (s : List UInt8) (n : Nat) (c : Cap) : regS G0 (callT G0 (evC G0 N)) (cOps r6) (opsPart (cOps r6) 8 9) (e6 false s (.slice 1002 0 n c)) (hB s (.slice 1002 0 n c)) = some (e7 false s (.slice 1002 0 n c), hB s (.slice 1002 0 n c)) := by kernel_rfl
theorem c7t (s : List UInt8) (t : V) : (e7 true s t).get (.tmp 32) = some (.bool true) := by kernel_rfl
theorem c7n (s : List UInt8) : (e7 false s .nils).get (.tmp 32) = some (.bool false) := by kernel_rfl
theorem c7s (s : List UInt8) (n : Nat) (c : Cap) : (e7 false s (.slice 1002 0 n c)).get (.tmp 32) = some (.bool (ilt 70 (Int.ofNat n))) := by kernel_rfl
theorem m1t (s : List UInt8) (t : V) : outIs G0 Tryz.f4 isBool (evC G0 N (cFst cd) .none 4 ⟨e7 true s t, hB s t, []⟩) = true := by kernel_rfl
theorem m1n (s : List UInt8) : outIs G0 Tryz.f4 isBool (evC G0 N (cFst cd) .none 4 ⟨e7 false s .nils, hB s .nils, []⟩) = true := by kernel_rfl
theorem m1s (s : List UInt8) (n : Nat) (c : Cap) : outIs G0 Tryz.f4 isBool (evC G0 N (cFst cd) .none 4 ⟨e7 false s (.slice 1002 0 n c), hB s (.slice 1002 0 n c), []⟩) = true := by kernel_rfl
theorem m2n (s : List UInt8) : goes .normal (evC G0 N r5 .none 4 ⟨e7 false s .nils, hB s .nils, []⟩) = true := by kernel_rfl
theorem m2s (s : List UInt8) (n : Nat) (c : Cap) : goes .normal (evC G0 N r5 .none 4 ⟨e7 false s (.slice 1002 0 n c), hB s (.slice 1002 0 n c), []⟩) = true := by kernel_rfl
theorem m3n (s : List UInt8) : goes (.exit 0) (evC G0 N d1 .none 4 (s8 false s .nils)) = true := by kernel_rfl
theorem m3s (s : List UInt8) (n : Nat) (c : Cap) : goes (.exit 0) (evC G0 N d1 .none 4 (s8 false s (.slice 1002 0 n c))) = true := by kernel_rfl
theorem m4n (s : List UInt8) : outIs G0 Tryz.f4 isBool (evC G0 N x3 .none 4 (s9 false s .nils)) = true := by kernel_rfl
theorem m4s (s : List UInt8) (n : Nat) (c : Cap) : outIs G0 Tryz.f4 isBool (evC G0 N x3 .none 4 (s9 false s (.slice 1002 0 n c))) = true := by kernel_rfl
theorem m5t (s : List UInt8) (t : V) : goes .ret (evC G0 N (cFst cd) .none 4 ⟨e7 true s t, hB s t, []⟩) = true := by kernel_rfl
theorem m5n (s : List UInt8) : goes .ret (evC G0 N (cFst cd) .none 4 ⟨e7 false s .nils, hB s .nils, []⟩) = true := by kernel_rfl
theorem m5s (s : List UInt8) (n : Nat) (c : Cap) : goes .ret (evC G0 N (cFst cd) .none 4 ⟨e7 false s (.slice 1002 0 n c), hB s (.slice 1002 0 n c), []⟩) = true := by kernel_rfl
theorem o0 : okC r0 = true := by kernel_rfl
theorem o1 : okC y1 = true := by kernel_rfl
theorem o3 : okC r3 = true := by kernel_rfl
theorem o4 : okC d1 = true := by kernel_rfl
theorem o5 : okC r5 = true := by kernel_rfl
theorem o6 : okC (cFst cd) = true := by kernel_rfl
theorem o7 : okC x3 = true := by kernel_rfl
/-- all that is asked of the third text's list -/
structure TOk (t : V) : Prop where
  k7 : ∀ s, regS G0 (callT G0 (evC G0 N)) (cOps r6) (opsPart (cOps r6) 8 9) (e6 false s t) (hB s t) = some (e7 false s t, hB s t)
  c7 : ∀ s, ∃ b, (e7 false s t).get (.tmp 32) = some (.bool b)
  m1 : ∀ s, outIs G0 Tryz.f4 isBool (evC G0 N (cFst cd) .none 4 ⟨e7 false s t, hB s t, []⟩) = true
  m5 : ∀ s, goes .ret (evC G0 N (cFst cd) .none 4 ⟨e7 false s t, hB s t, []⟩) = true
  m2 : ∀ s, goes .normal (evC G0 N r5 .none 4 ⟨e7 false s t, hB s t, []⟩) = true
  m3 : ∀ s, goes (.exit 0) (evC G0 N d1 .none 4 (s8 false s t)) = true
  m4 : ∀ s, outIs G0 Tryz.f4 isBool (evC G0 N x3 .none 4 (s9 false s t)) = true
theorem tok_nils : TOk .nils := ⟨k7n, fun s => ⟨_, c7n s⟩, m1n, m5n, m2n, m3n, m4n⟩
theorem tok_slice (n : Nat) (c : Cap) : TOk (.slice 1002 0 n c) := ⟨fun s => k7s s n c, fun s => ⟨_, c7s s n c⟩, fun s => m1s s n c, fun s => m5s s n c, fun s => m2s s n c, fun s => m3s s n c, fun s => m4s s n c⟩
theorem hB_ro (s : List UInt8) (t : V) : AllRo (hB s t) := fun b o h => by
  simp only [hB, T.get_put] at h
  split at h
  · cases h; rfl
  · rw [T.get_leaf] at h; cases h
theorem ok {s : List UInt8} {t : V} (ht : TOk t) {ρ : Ren} {W : World} (hS : Sim ρ (hB s t) W) {cargs : Array Value} (ha : Rels ρ args cargs.toList) (k : Nat) :
    CallsIn Fence.wide k Tryz.prog 4 cargs W (fun e w' => ∃ b, e = .returned (.bool b) ∧ Below W.heap.size W w') := by
  have hG : GOk Tryz.prog G0 := (mk_ok _).1
  have hC : Codes G0 := (mk_ok _).2
  have hX : ExtOK Tryz.prog G0 := ext_none
  have hR : ∀ ρ' v h2 c w2, isBool v = true → Rel ρ' v c → Sim ρ' h2 w2 → Ext ρ (hB s t) W ρ' h2 w2 → (fun (e : Ending) w' => ∃ b, e = .returned (.bool b) ∧ Below W.heap.size W w') (.returned c) w2 := by
    intro ρ' v h2 c w2 h1 h2 _ h4
    cases v with
    | bool b => cases h2; exact ⟨b, rfl, h4.below (hB_ro s t)⟩
    | _ => simp [isBool] at h1
  refine callsIn_of_wp_marks Tryz.func4 body trivial ?_
  rw [show Tryz.f4.ntmps = 33 by kernel_rfl]
  have h0 := at_enter hS ha (n := 33) (by decide)
  rw [q0]
  refine at_seq hG hC hX (N := N) (fn := 4) h0 (k1 s t) o0 fun a1 w1 A1 => ?_
  rw [q1]
  refine at_seq hG hC hX (N := N) (fn := 4) A1 (k2 s t) o1 fun a2 w2 A2 => ?_
  rw [q2]
  refine wpIn_seq ?_
  rw [q3]
  refine at_seq hG hC hX (N := N) (fn := 4) A2 (k3 s t) o3 fun a3 w3 A3 => ?_
  rw [q4]
  refine wpIn_block ?_
  rw [q5]
  refine wpIn_loop_down (fun m a w => (m = 1 ∧ At ρ (hB s t) W (s3 s t) a w) ∨ (m = 0 ∧ At ρ (hB s t) W (s8 false s t) a w)) (fun m a w hJ => ?_) (m := 1) (.inl ⟨rfl, A3⟩)
  rcases hJ with ⟨rfl, hA⟩ | ⟨rfl, hA⟩
  · rw [q6]
    refine at_seq hG hC hX (N := N) (fn := 4) hA (k4 s t) o4 fun a4 w4 A4 => ?_
    rw [q7]
    refine wpIn_seq ?_
    rw [q8]
    refine wpIn_block ?_
    rw [q9]
    refine wpIn_seq ?_
    rw [q10]
    refine region_parts ?_
    rw [q12]
    refine at_part hG hC hX (N := N) (i := 0) (n := 7) (m := 10) A4 (by rw [q12]; decide) (k5 s t) fun a5 w5 (A5 : At ρ (hB s t) W ⟨e5 s t, hB s t, (s4 s t).defs⟩ a5 w5) => ?_
    rw [k4d] at A5
    refine at_part hG hC hX (N := N) (i := 7) (n := 1) (m := 9) A5 (by rw [q12]; decide) (k6 s t) fun a6 w6 (A6 : At ρ (hB s t) W ⟨e6 (ilt 200 (Int.ofNat s.length)) s t, hB s t, []⟩ a6 w6) => ?_
    generalize ilt 200 (Int.ofNat s.length) = b at A6
    cases b with
    | true =>
      refine at_part hG hC hX (N := N) (i := 8) (n := 9) (m := 0) A6 (by rw [q12]; decide) (k7t s t) fun a7 w7 A7 => ?_
      show Exit.then _ _ .normal a7 w7
      simp only [Exit.then]
      rw [q11]
      refine at_cond A7 (c7t s t) (fun _ => ?_) (fun hxf => by cases hxf)
      exact at_ret hG hC hX (N := N) A7 (m5t s t) (m1t s t) o6 hR fun _ _ h => h
    | false =>
      refine at_part hG hC hX (N := N) (i := 8) (n := 9) (m := 0) A6 (by rw [q12]; decide) (ht.k7 s) fun a7 w7 A7 => ?_
      show Exit.then _ _ .normal a7 w7
      simp only [Exit.then]
      rw [q11]
      obtain ⟨x, hx⟩ := ht.c7 s
      refine at_cond A7 hx (fun _ => ?_) (fun _ => ?_)
      · exact at_ret hG hC hX (N := N) A7 (ht.m5 s) (ht.m1 s) o6 hR fun _ _ h => h
      · refine wpIn_skip ?_
        refine at_code hG hC hX (N := N) (fn := 4) A7 (ht.m2 s) o5 fun a8 w8 A8 => ?_
        exact ⟨0, by decide, .inr ⟨rfl, A8⟩⟩
  · rw [q6]
    refine wpIn_seq (at_code hG hC hX (N := N) (fn := 4) hA (ht.m3 s) o4 fun a9 w9 A9 => ?_)
    simp only [XE, Exit.then, Exit.inBlock, if_true]
    exact at_out hG hC hX (N := N) A9 (ht.m4 s) o7 hR
end Few
end Go.Proofs.YtbhogdpjlligdaaGreatDoor

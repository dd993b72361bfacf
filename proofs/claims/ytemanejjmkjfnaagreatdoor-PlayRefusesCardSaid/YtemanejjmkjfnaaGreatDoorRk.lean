/- PlayRefuses: what is known of the calls of the law; the run's conditions' names. -/
import Derived.Test.YtemanejjmkjfnaaGreatDoorCf
import Derived.Test.YtemanejjmkjfnaaGreatDoorKu
import Derived.Test.YtemanejjmkjfnaaGreatDoorEvF
import Derived.Test.YtemanejjmkjfnaaGreatDoorEvE
import Derived.Lib.ItoaMem
namespace Go.Ev
open Go.RowKit
/-- calls that are known under a condition, and calls that make something -/
noncomputable def kxV (kB : KBool) (kx : KX) : KX := fun f args h => match kxU kB f args h with
  | some r => some r
  | none => kx f args h
theorem kxV_ok {P : Program} {eqs : List TypeId} {rows : List (FuncId × Row)} {kB : KBool} {l : List Known} {lp : List KnownM} : KxOK (mkG P eqs rows (extU kB (ext5 l lp))) (kxV kB (kx5 l lp)) := fun f args h b r1 r2 hk => by
  unfold kxV at hk
  split at hk
  · rename_i r q
    cases hk
    exact kxU_ok f args h b r1 r2 q
  · rename_i q
    have hn : kB f args h = none := by
      unfold kxU at q
      split at q
      · cases q
      · assumption
    have h5 := kx5_ok (G := mkG P eqs rows (ext5 l lp)) (l := l) (lp := lp) rfl f args h b r1 r2 hk
    have he : (mkG P eqs rows (extU kB (ext5 l lp))).ext f args h = (mkG P eqs rows (ext5 l lp)).ext f args h := by
      show extU kB (ext5 l lp) f args h = _
      unfold extU
      rw [hn]
      rfl
    rw [he]
    exact h5
end Go.Ev
namespace Go.Proofs.YtemanejjmkjfnaaGreatDoor
set_option maxRecDepth 100000
open Go.Ev Go.RowKit
namespace RT
/-- what machine.Check says, call by call -/
def vAt (n : Nat) : Int := match Nat.ble n 1020 with
  | true => 2
  | false => match Nat.beq n 1029 with
    | true => 2
    | false => 0
def eqI (a b : Int) : Bool := ieq a b
/-- a configuration by numbers has so many mutators; machine.Check, call by call -/
def kF (bb : Int) (f : FuncId) (n : Nat) : List V → Option (Bool × V)
  | [.agg 8 [.int .u8 a, .int .u8 b, .int .u8 c, .int .u8 d, .int .u8 e, .int .u8 f', .int .u8 g, .int .u8 i] .leaf] => match Nat.beq f iConf with
    | true => some (eqI (up b 2) bb, cfgV (up a 12) bb (up c 4) (up d 4) (up e 4) (up f' 6) (up (wr .u8 (Int.tdiv f' (Int.ofNat 6))) 3) (up g 5) (capF g i) (firstF i))
    | false => none
  | [.agg 10 [.int .i64 a, .int .i64 b, .int .i64 c, .int .i64 d, .int .i64 e, .int .i64 f', .int .i64 g, .int .i64 h, .int .i64 i, .int .u32 j] .leaf] => match Nat.beq f iMach with
    | true => some (eqI (MachV a b c d e f' g h i j) (vAt n), .int .i64 (vAt n))
    | false => none
  | _ => none
noncomputable def kB (bb : Int) : KBool := fun f args h => match Nat.beq f iQuiet with
  | true => some (false, .bool true)
  | false => match canonL args with
    | some l => kF bb f h.next l
    | none => none
theorem ieq_of {a b : Int} (h : eqI a b = true) : a = b := ieq_t.1 h
theorem kB_ok (bb : Int) (f : FuncId) : KnownOk Tryz.prog (f, fun args h => match kB bb f args h with | some (true, v) => some v | _ => none) := by
  intro args h v hv ρ cargs w ha hS n
  simp only at hv
  split at hv
  · rename_i v0 q
    cases hv
    unfold kB at q
    split at q
    · cases q
    split at q
    · rename_i l hl
      unfold kF at q
      split at q
      · split at q
        · rename_i hf
          rw [T.beq_true] at hf
          subst hf
          simp only [Option.some.injEq, Prod.mk.injEq] at q
          obtain ⟨q1, q2⟩ := q
          have q1 := ieq_of q1
          subst q2
          refine conf_ok args h _ ?_ ρ cargs w ha hS n
          simp only [kConf, known, hl, confK, confV, q1]
        · cases q
      · split at q
        · rename_i hf
          rw [T.beq_true] at hf
          subst hf
          simp only [Option.some.injEq, Prod.mk.injEq] at q
          obtain ⟨q1, q2⟩ := q
          have q1 := ieq_of q1
          subst q2
          refine Mach_ok args h _ ?_ ρ cargs w ha hS n
          simp only [kMach, known, hl, MachF]
          rw [q1]
        · cases q
      · cases q
    · cases q
  · cases hv
end RT
/-- the package-level variables that 'works' reads -/
def gPow : Nat := iPow
def gDe32 : Nat := iDe32
def gDe64 : Nat := iDe64
def gLet : Nat := iLetters
theorem bytesV_pure (l : List Nat) : ∀ v, v ∈ bytesV l → pureS v = true := fun v hv => by
  simp only [bytesV, List.mem_map] at hv
  obtain ⟨n, _, rfl⟩ := hv
  rfl
def letters : List Nat := [0, 111, 108, 102]
noncomputable def pow10 : List V := Lib.pow10Tab.map (.int .u64)
def de32 : List Nat := [0, 1, 28, 2, 29, 14, 24, 3, 30, 22, 20, 15, 25, 17, 4, 8, 31, 27, 13, 23, 21, 19, 16, 7, 26, 12, 18, 6, 11, 5, 10, 9]
def de64 : List Nat := [0, 1, 56, 2, 57, 49, 28, 3, 61, 58, 42, 50, 38, 29, 17, 4, 62, 47, 59, 36, 45, 43, 51, 22, 53, 39, 33, 30, 24, 18, 12, 5, 63, 55, 48, 27, 60, 41, 37, 16, 46, 35, 44, 21, 52, 32, 23, 11, 54, 26, 40, 15, 34, 20, 31, 10, 25, 14, 19, 9, 13, 8, 7, 6]
noncomputable def gs : List (Nat × List V) := [(gPow, pow10), (gDe32, bytesV de32), (gDe64, bytesV de64), (gLet, bytesV letters)]
noncomputable def roL (l : List (Nat × List V)) : List (Nat × O) := l.map fun p => (p.1, .ro (some 0) p.2.length p.2 .leaf)
theorem gs_lt : ∀ p, p ∈ gs → p.1 < 1000 := fun p hp => by
  simp only [gs, List.mem_cons, List.not_mem_nil, or_false] at hp
  rcases hp with rfl | rfl | rfl | rfl
  · show gPow < 1000; decide
  · show gDe32 < 1000; decide
  · show gDe64 < 1000; decide
  · show gLet < 1000; decide
theorem gs_pure : ∀ p, p ∈ gs → ∀ v, v ∈ p.2 → pureS v = true := fun p hp v hv => by
  simp only [gs, List.mem_cons, List.not_mem_nil, or_false] at hp
  rcases hp with rfl | rfl | rfl | rfl
  · simp only [pow10, List.mem_map] at hv
    obtain ⟨n, _, rfl⟩ := hv
    rfl
  · exact bytesV_pure _ v hv
  · exact bytesV_pure _ v hv
  · exact bytesV_pure _ v hv
theorem vars_of_has {l : List (Nat × List V)} (hp : ∀ p, p ∈ l → ∀ v, v ∈ p.2 → pureS v = true) (hl : ∀ p, p ∈ l → p.1 < 1000) {h : H} (hh : Go.Ev.has h (roL l) = true) {ρ : Ren} {w : World} (hS : Sim ρ h w) : VarsOk l w := by
  intro g vs hm
  obtain ⟨o, h1, h2⟩ := has_get hh (g, .ro (some 0) vs.length vs .leaf) (List.mem_map.2 ⟨(g, vs), hm, rfl⟩)
  obtain ⟨L, c, l1, l2, l3⟩ := hS.live g o h1
  obtain ⟨z, hz⟩ := hS.glob g (hl _ hm)
  rw [hz] at l1
  cases l1
  obtain ⟨cs, el, fr, q1, q2, q3, q5, q6⟩ := (O.beq_rel h2).2 _ _ _ l3
  subst q1
  have q2 : cs.size = z := q2
  have q3 : 0 + vs.length ≤ z := q3
  have q4 : z = vs.length := (q5 _ rfl).2
  refine ⟨hl _ hm, cs, el, fr, l2, by omega, fun i v hv => ?_⟩
  have hi := (List.getElem?_eq_some_iff.1 hv).1
  have hc : cs[i]? = some cs[i] := Array.getElem?_eq_getElem (by omega)
  refine ⟨_, hc, q6.1 i _ hi (by rw [Nat.zero_add]; exact hc), fun ρ' => pureS_rel (hp _ hm v (List.mem_of_getElem? hv)) (q6.2 i v _ (leaf_cell hv) (by rw [Nat.zero_add]; exact hc))⟩
end Go.Proofs.YtemanejjmkjfnaaGreatDoor

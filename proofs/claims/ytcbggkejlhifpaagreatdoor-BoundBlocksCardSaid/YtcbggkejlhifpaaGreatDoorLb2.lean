/- BoundBlocks: one round of the loop that builds the script. -/
import Derived.Test.YtcbggkejlhifpaaGreatDoorLb1
namespace Go.Proofs.YtcbggkejlhifpaaGreatDoor
set_option maxRecDepth 100000
set_option maxHeartbeats 2000000
open Go.Ev Go.RowKit
/-- what a mutator does, by numbers -/
structure MixR where
  k : Int
  m : Int
  a : Int
  b : Int
  c : Int
def mixL (r : MixR) : List V := [.int .u8 r.k, .int .u8 r.m, .int .u8 r.a, .int .u8 r.b, .int .u8 r.c]
def mixIn (r : MixR) : Prop := u8r r.k ∧ u8r r.m ∧ u8r r.a ∧ u8r r.b ∧ u8r r.c
def mixC (l : List MixR) : List V := l.flatMap mixL
theorem mixC_len : ∀ l : List MixR, (mixC l).length = l.length * 5
  | [] => rfl
  | o :: l => by
    have := mixC_len l
    simp only [mixC, List.flatMap_cons, List.length_append, List.length_cons, mixL, List.length_nil] at this ⊢
    omega
theorem mixC_get : ∀ {l : List MixR} {k : Nat} {o : MixR}, l[k]? = some o → ∀ j, j < 5 → (mixC l)[5 * k + j]? = (mixL o)[j]?
  | p :: l, 0, o, h, j, hj => by
    simp only [List.getElem?_cons_zero, Option.some.injEq] at h
    subst h
    simp only [mixC, List.flatMap_cons, Nat.mul_zero, Nat.zero_add]
    rw [List.getElem?_append_left (by simp only [mixL, List.length_cons, List.length_nil]; omega)]
  | p :: l, k + 1, o, h, j, hj => by
    simp only [List.getElem?_cons_succ] at h
    have := mixC_get h j hj
    simp only [mixC, List.flatMap_cons] at this ⊢
    rw [List.getElem?_append_right (by simp only [mixL, List.length_cons, List.length_nil]; omega), ← this]
    congr 1
    simp only [mixL, List.length_cons, List.length_nil]
    omega
  | [], k, o, h, _, _ => by simp at h
theorem tyMix : ∃ t, G0.ty tMix = some t ∧ t.agg = true ∧ t.size = 5 := by
  have : (match G0.ty tMix with | some t => t.agg && Nat.beq t.size 5 | none => false) = true := by kernel_rfl
  revert this
  cases G0.ty tMix with
  | none => intro h; cases h
  | some t =>
    intro h
    simp only [Bool.and_eq_true, T.beq_true] at h
    exact ⟨t, rfl, h.1, h.2⟩
theorem load_mix {l : List MixR} {k : Nat} {o : MixR} (h : l[k]? = some o) {H0 : H} (hb : H0.tr.get 1000 = some (.ro none (mixC l).length (mixC l) .leaf)) : rLoad (G0.ty tMix) H0 (some (.ptr 1000 (Nat.add 0 (Nat.mul k 5)))) = some (.agg 5 (mixL o) .leaf) := by
  obtain ⟨t, t1, t2, t3⟩ := tyMix
  have hg : gather (mixC l).length (mixC l) .leaf (Nat.add 0 (Nat.mul k 5)) 5 = some (mixL o) := gather_all _ _ _ rfl fun j v hj => by
    have e : Nat.add 0 (Nat.mul k 5) = 5 * k := by show 0 + k * 5 = _; omega
    rw [e]
    have hj6 : j < 5 := by have := (List.getElem?_eq_some_iff.1 hj).1; simpa [mixL] using this
    exact leaf_cell (by rw [mixC_get h j hj6]; exact hj)
  unfold rLoad
  rw [t1]
  simp only [hb, t2, t3, Ev.partAt]
  split
  · rename_i q
    simp only [Bool.and_eq_true, T.beq_true] at q
    have hk : k = 0 := by have : 0 + k * 5 = 0 := q.1; omega
    subst hk
    have hl : l.length = 1 := by have := mixC_len l; omega
    match l, hl with
    | [p], _ => cases h; rfl
  · rw [hg]
    rfl
namespace LB
/-! memory -/
theorem vars_keep {h' : H} (hh : Go.Ev.has h' (roL gs) = true) {b : Nat} {o : O} (h : (varsT gs).get b = some o) : ∃ o', h'.tr.get b = some o' ∧ (o.rw = true → o'.rw = true) ∧ ∀ ρ L c, ORel ρ o' L c → ORel ρ o L c := by
  obtain ⟨l, hm, rfl⟩ := varsT_get h
  obtain ⟨o', h1, h2⟩ := has_get hh (b, .ro (some 0) l.length l .leaf) (List.mem_map.2 ⟨(b, l), hm, rfl⟩)
  obtain ⟨h3, h4⟩ := O.beq_rel h2
  exact ⟨o', h1, fun r => by rw [h3]; exact r, h4⟩
theorem tA_get {o : Option O} {b : Nat} {x : O} (h : (tA o).get b = some x) : (b = 1000 ∧ o = some x) ∨ (b < 1000 ∧ (varsT gs).get b = some x) := by
  simp only [tA, T.get_put] at h
  split at h
  · rename_i q; exact .inl ⟨q, h⟩
  · obtain ⟨l, hm, _⟩ := varsT_get h
    exact .inr ⟨gs_lt _ hm, h⟩
theorem tB_get {o : Option O} {L : List V} {b : Nat} {x : O} (h : (tB o L).get b = some x) : (b = 1002 ∧ x = boxO L) ∨ (tA o).get b = some x := by
  simp only [tB, T.get_put] at h
  split at h
  · rename_i q; cases h; exact .inl ⟨q, rfl⟩
  · exact .inr h
theorem tB_lt {o : Option O} {L : List V} {b : Nat} {x : O} (h : (tB o L).get b = some x) : b < 1003 := by
  rcases tB_get h with ⟨rfl, _⟩ | h
  · omega
  · rcases tA_get h with ⟨rfl, _⟩ | ⟨h, _⟩ <;> omega
theorem okO_vars {m b : Nat} {o : O} (h : (varsT gs).get b = some o) : okO m o := by
  obtain ⟨l, hm, rfl⟩ := varsT_get h
  intro i v hv
  have hp := gs_pure _ hm v (List.mem_of_getElem? (cell_leaf hv))
  cases v <;> first
    | rfl
    | (simp [pureS] at hp; done)
theorem okO_mix (l : List MixR) {m : Nat} : okO m (roM (mixC l)) := fun i v hv => by
  have hv := List.mem_of_getElem? (cell_leaf hv)
  simp only [mixC, List.mem_flatMap] at hv
  obtain ⟨o, _, ho⟩ := hv
  simp only [mixL, List.mem_cons, List.not_mem_nil, or_false] at ho
  rcases ho with rfl | rfl | rfl | rfl | rfl <;> rfl
theorem okO_row (l : List OpR) {m : Nat} : okO m (rowO (cellsR l)) := fun i v hv => FR.okO_ro l (m := m) i v hv
/-- the argument: nil, or a row of so many -/
def ArgIs (l : V) (o : Option O) (ms : List MixR) : Prop := (l = .nils ∧ o = none ∧ ms = []) ∨ (∃ cc, l = .slice 1000 0 ms.length cc ∧ o = some (roM (mixC ms))) ∨ ∃ cc, l = .slice 1000 0 0 cc ∧ o = none ∧ ms = []
theorem okO_tB {l : V} {o : Option O} {ms : List MixR} (ha : ArgIs l o ms) {a b c d e f g h i j : Int} {m x : Nat} {ob : O} (q : (tB o (cfgL a b c d e f g h i j)).get x = some ob) : okO m ob := by
  rcases tB_get q with ⟨rfl, rfl⟩ | q
  · intro i1 v hv
    have hm := List.mem_of_getElem? (cell_leaf (L := cfgL a b c d e f g h i j) hv)
    simp only [List.mem_cons, List.not_mem_nil, or_false] at hm
    rcases hm with rfl | rfl | rfl | rfl | rfl | rfl | rfl | rfl | rfl | rfl <;> rfl
  · rcases tA_get q with ⟨rfl, h1⟩ | ⟨_, q⟩
    · rcases ha with ⟨_, rfl, _⟩ | ⟨cc, _, rfl⟩ | ⟨cc, _, rfl, _⟩
      · cases h1
      · cases h1; exact okO_mix _
      · cases h1
    · exact okO_vars q
/-- the script so far, and memory -/
def rV (w : Nat) : Nat → V
  | 0 => .nils
  | i + 1 => .slice 1003 0 (w * (i + 1)) (.atl (w * (i + 1)) 6)
noncomputable def rO (Bs : List OpR) : Nat → Option O
  | 0 => none
  | _ + 1 => some (rowO (cellsR Bs))
noncomputable def tI (o : Option O) (cf : List V) (Bs : List OpR) : Nat → T O
  | 0 => tB o cf
  | _ + 1 => tR o cf (cellsR Bs)
theorem mn_eq (n : Nat) : FR.mn (Int.ofNat n) (Int.ofNat 20) = Int.ofNat (min n 20) := by
  unfold FR.mn
  split
  · rename_i h
    have := ilt_t.1 h
    simp only [iofn] at this ⊢
    omega
  · rename_i h
    have := ilt_f.1 h
    simp only [iofn] at this ⊢
    omega
/-- the mix of a round -/
theorem e6 {l : V} {o : Option O} {ms : List MixR} (ha : ArgIs l o ms) (hin : ∀ m, m ∈ ms → mixIn m) {cf : List V} {Bs : List OpR} {t q : Nat} {w n : Int} (r : V) (i : Nat) :
    evL GL sp 60 iBlocks [r6, r7, y8] (K6 (inv l t q w r n (Int.ofNat i)) (fun M => ∃ mr : MixR, mixIn mr ∧ M = some (mixL mr)) o (rO Bs i) cf) (S (inv l t q w r n (Int.ofNat i)) ⟨tI o cf Bs i, 1010⟩) := by
  have seven : ∃ mr : MixR, mixIn mr ∧ some [V.int .u8 (Int.ofNat 7), .int .u8 (Int.ofNat 0), .int .u8 (Int.ofNat 0), .int .u8 (Int.ofNat 0), .int .u8 (Int.ofNat 0)] = some (mixL mr) := ⟨⟨7, 0, 0, 0, 0⟩, by unfold mixIn u8r; decide, rfl⟩
  have hlt : ∀ {ln : Nat}, ilt (Int.ofNat i) (FR.mn (Int.ofNat ln) (Int.ofNat 20)) = true → i < ln := fun {ln} h => by
    rw [mn_eq] at h
    have := ilt_t.1 h
    simp only [iofn] at this
    omega
  rcases ha with ⟨rfl, rfl, rfl⟩ | ⟨cc, rfl, rfl⟩ | ⟨cc, rfl, rfl, rfl⟩
  · cases i with
    | zero =>
      refine Eq.mpr (LB.w6NF ..) ⟨fun h => (nomatch h), fun _ => ⟨seven, ?_⟩⟩
      repeat' (first | exact rfl | exact trivial | apply And.intro)
    | succ i =>
      refine Eq.mpr (LB.w6NW ..) ⟨fun h => (nomatch h), fun _ => ⟨seven, ?_⟩⟩
      repeat' (first | exact rfl | exact trivial | apply And.intro)
  · have go : ∀ {Tt : T O}, Tt.get 1000 = some (roM (mixC ms)) → i < ms.length → ∃ mr, mixIn mr ∧ ldM Tt i = some (.agg 5 (mixL mr) .leaf) := fun {Tt} hg hi => by
      refine ⟨ms[i], hin _ (List.getElem_mem _), ?_⟩
      exact load_mix (List.getElem?_eq_getElem hi) (by simp only [tZ, T.get_put]; rw [if_neg (by omega)]; exact hg)
    cases i with
    | zero =>
      refine Eq.mpr (LB.w6SF ..) ⟨fun h => ?_, fun _ => ⟨seven, ?_⟩⟩
      · have hi := hlt h
        obtain ⟨mr, m1, m2⟩ := go (Tt := tB (some (roM (mixC ms))) cf) (by simp only [tB, tA, T.get_put]; rfl) hi
        refine ⟨rfl, ilt_t.2 (by simp only [iofn]; omega), ⟨_, m2, rfl, rfl, rfl, rfl, rfl, trivial⟩, fun y0 y1 y2 y3 y4 hy => ?_⟩
        rw [m2] at hy
        cases hy
        refine ⟨⟨mr, m1, rfl⟩, ?_⟩
        repeat' (first | exact rfl | exact trivial | apply And.intro)
      · repeat' (first | exact rfl | exact trivial | apply And.intro)
    | succ i =>
      refine Eq.mpr (LB.w6SW ..) ⟨fun h => ?_, fun _ => ⟨seven, ?_⟩⟩
      · have hi := hlt h
        obtain ⟨mr, m1, m2⟩ := go (Tt := tR (some (roM (mixC ms))) cf (cellsR Bs)) (by simp only [tR, tB, tA, T.get_put]; rfl) hi
        refine ⟨rfl, ilt_t.2 (by simp only [iofn]; omega), ⟨_, m2, rfl, rfl, rfl, rfl, rfl, trivial⟩, fun y0 y1 y2 y3 y4 hy => ?_⟩
        rw [m2] at hy
        cases hy
        refine ⟨⟨mr, m1, rfl⟩, ?_⟩
        repeat' (first | exact rfl | exact trivial | apply And.intro)
      · repeat' (first | exact rfl | exact trivial | apply And.intro)
  · cases i with
    | zero =>
      refine Eq.mpr (LB.w6ZF ..) ⟨fun h => absurd (hlt (ln := 0) h) (Nat.not_lt_zero _), fun _ => ⟨seven, ?_⟩⟩
      repeat' (first | exact rfl | exact trivial | apply And.intro)
    | succ i =>
      refine Eq.mpr (LB.w6ZW ..) ⟨fun h => absurd (hlt (ln := 0) h) (Nat.not_lt_zero _), fun _ => ⟨seven, ?_⟩⟩
      repeat' (first | exact rfl | exact trivial | apply And.intro)
end LB
end Go.Proofs.YtcbggkejlhifpaaGreatDoor

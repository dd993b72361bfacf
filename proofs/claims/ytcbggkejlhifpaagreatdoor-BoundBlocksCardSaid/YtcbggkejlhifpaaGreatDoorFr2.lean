/- bound.Fair: one round. -/
import Derived.Test.YtcbggkejlhifpaaGreatDoorFr1
import Derived.Test.YtcbggkejlhifpaaGreatDoorJb
namespace Go.Proofs.YtcbggkejlhifpaaGreatDoor
set_option maxRecDepth 100000
set_option maxHeartbeats 2000000
open Go.Ev Go.RowKit
/-- a script's cells -/
def cellsR (l : List OpR) : List V := l.flatMap opV
theorem opV_len (o : OpR) : (opV o).length = 6 := rfl
theorem cellsR_len : ∀ l : List OpR, (cellsR l).length = l.length * 6
  | [] => rfl
  | o :: l => by
    have := cellsR_len l
    simp only [cellsR, List.flatMap_cons, List.length_append, List.length_cons, opV_len] at this ⊢
    omega
theorem cellsR_app (l m : List OpR) : cellsR (l ++ m) = cellsR l ++ cellsR m := by simp [cellsR]
theorem cellsR_get : ∀ {l : List OpR} {k : Nat} {o : OpR}, l[k]? = some o → ∀ j, j < 6 → (cellsR l)[6 * k + j]? = (opV o)[j]?
  | p :: l, 0, o, h, j, hj => by
    simp only [List.getElem?_cons_zero, Option.some.injEq] at h
    subst h
    simp only [cellsR, List.flatMap_cons, Nat.mul_zero, Nat.zero_add]
    rw [List.getElem?_append_left (by rw [opV_len]; exact hj)]
  | p :: l, k + 1, o, h, j, hj => by
    simp only [List.getElem?_cons_succ] at h
    have := cellsR_get h j hj
    simp only [cellsR, List.flatMap_cons] at this ⊢
    rw [List.getElem?_append_right (by rw [opV_len]; omega), opV_len, ← this]
    congr 1
    omega
  | [], k, o, h, _, _ => by simp at h
theorem tyOp : ∃ t, G0.ty tOp = some t ∧ t.agg = true ∧ t.size = 6 := by
  have : (match G0.ty tOp with | some t => t.agg && Nat.beq t.size 6 | none => false) = true := by kernel_rfl
  revert this
  cases G0.ty tOp with
  | none => intro h; cases h
  | some t =>
    intro h
    simp only [Bool.and_eq_true, T.beq_true] at h
    exact ⟨t, rfl, h.1, h.2⟩
/-- an operation, as it is loaded -/
theorem part_op {l : List OpR} {k : Nat} {o : OpR} (h : l[k]? = some o) : Ev.partAt true 6 (cellsR l).length (cellsR l) .leaf (Nat.add 0 (Nat.mul k 6)) = some (.agg 6 (opV o) .leaf) := by
  have hg : gather (cellsR l).length (cellsR l) .leaf (Nat.add 0 (Nat.mul k 6)) 6 = some (opV o) := gather_all _ _ _ (opV_len o).symm fun j v hj => by
    have e : Nat.add 0 (Nat.mul k 6) = 6 * k := by show 0 + k * 6 = _; omega
    rw [e]
    have hj6 : j < 6 := by have := (List.getElem?_eq_some_iff.1 hj).1; rwa [opV_len] at this
    exact leaf_cell (by rw [cellsR_get h j hj6]; exact hj)
  simp only [Ev.partAt]
  split
  · rename_i q
    simp only [Bool.and_eq_true, T.beq_true] at q
    have hk : k = 0 := by have : 0 + k * 6 = 0 := q.1; omega
    subst hk
    have hl : l.length = 1 := by have := cellsR_len l; omega
    match l, hl with
    | [p], _ => cases h; rfl
  · rw [hg]
    rfl
theorem load_op {l : List OpR} {k b : Nat} {o : OpR} (h : l[k]? = some o) {H0 : H} {ob : O} (hb : H0.tr.get b = some ob) (ho : ob = .cells (some tOp) (cellsR l).length (cellsR l) .leaf ∨ ob = .ro none (cellsR l).length (cellsR l) .leaf) : rLoad (G0.ty tOp) H0 (some (.ptr b (Nat.add 0 (Nat.mul k 6)))) = some (.agg 6 (opV o) .leaf) := by
  obtain ⟨t, t1, t2, t3⟩ := tyOp
  unfold rLoad
  rw [t1]
  rcases ho with rfl | rfl
  · simp only [hb, t2, t3]
    exact part_op h
  · simp only [hb, t2, t3]
    exact part_op h
namespace FR
def mn (a b : Int) : Int := match ilt b a with
  | true => b
  | false => a
theorem mn_le {a b x : Int} : mn a b ≤ x ↔ a ≤ x ∨ b ≤ x := by
  unfold mn
  split
  · rename_i h
    have := ilt_t.1 h
    omega
  · rename_i h
    have := ilt_f.1 h
    omega
/-- the last turns -/
def lastL (la : Nat → Int) : List V := L8 (la 0) (la 1) (la 2) (la 3) (la 4) (la 5) (la 6) (la 7)
def upd (cl : Option Nat) (v : Int) (la : Nat → Int) : Nat → Int := fun j => match cl with
  | some k => match Nat.beq k j with
    | true => v
    | false => la j
  | none => la j
/-- the oldest of them -/
def oldF : Nat → (Nat → Int) → Int
  | 1, la => mn (la 0) (mn (mn (mn (la 4) (la 5)) (la 6)) (la 7))
  | _, la => mn (mn (la 0) (la 1)) (mn (mn (mn (la 4) (la 5)) (la 6)) (la 7))
def bad (m : Nat) (w v : Int) (la : Nat → Int) : Prop := w ≤ v ∧ oldF m la ≤ v - w
abbrev nxt (k : Nat) : Int := wr .i64 (Int.add (Int.ofNat k) (Int.ofNat 1))
theorem nxt_eq {k : Nat} (h : k < 100000) : nxt k = (k : Int) + 1 := by
  unfold nxt
  rw [iofn, iadd, iofn, wr64 (by omega) (by omega)]
  rfl
abbrev noV : V := .tuple [.bool false, .int .i64 (Int.ofNat 0)]
theorem d1_n {a c d e f g h i j w : Int} {n : Nat} {cc : Cap} {B : List OpR} {k : Nat} (hn : B.length = n) (hnn : n ≤ 2000) (w0 : 1 ≤ w) (w1 : w ≤ 2000) (la : Nat → Int) (hc : ∀ o, B[k]? = some o → ClsP none 1 i o) :
    evW (GF none) (sp none) 60 bd none iFair (S (inv n cc w (Int.ofNat k)) (hL (cfgL a 1 c d e f g h i j) (cellsR B) (lastL la))) (K7 n cc w (Int.ofNat k) (cfgL a 1 c d e f g h i j) (cellsR B) (fun l => l = some (lastL (upd none (nxt k) la)) ∧ ¬ bad 1 w (nxt k) (upd none (nxt k) la) ∧ k < n) (fun v => v = noV ∧ bad 1 w (nxt k) (upd none (nxt k) la) ∧ k < n) (n ≤ k)) := by
  refine Eq.mpr (FR.r1_n ..) ⟨fun q => ?_, fun q => ?_⟩
  · have hk : k < n := by have := ilt_t.1 q; simp only [iofn] at this; omega
    obtain ⟨o, ho⟩ : ∃ o, B[k]? = some o := ⟨B[k], List.getElem?_eq_getElem (by omega)⟩
    have l1 : ldF (cfgL a 1 c d e f g h i j) (cellsR B) (lastL la) k = some (.agg 6 (opV o) .leaf) := load_op ho (ob := roO (cellsR B)) (by simp only [hL, T.get_put]; rfl) (.inr rfl)
    have e1 : BT.clsB none (Int.ofNat 1) i o = true := BT.clsB_of (hc o ho)
    have v1 := nxt_eq (k := k) (by omega)
    have v2 : wr .i64 (Int.sub (nxt k) w) = nxt k - w := by rw [isub, wr64 (by omega) (by omega)]
    refine ⟨rfl, q, ⟨_, l1, rfl, rfl, rfl, rfl, rfl, trivial⟩, fun y0 y1 y2 y3 y4 y5 hy => ?_⟩
    have hy : ldF (cfgL a 1 c d e f g h i j) (cellsR B) (lastL la) k = some (.agg 6 [.int .i64 y0, .int .i64 y1, .int .i64 y2, .int .i64 y3, .int .i64 y4, .str y5] .leaf) := hy
    rw [l1] at hy
    cases hy
    have key : ∀ {b}, (!ilt (wr .i64 (Int.sub (nxt k) w)) (oldF 1 (upd none (nxt k) la))) = b → (b = true ↔ oldF 1 (upd none (nxt k) la) ≤ nxt k - w) := fun {b} hb => by
      rw [v2] at hb
      subst hb
      cases hq : ilt (nxt k - w) (oldF 1 (upd none (nxt k) la)) with
      | true => have := ilt_t.1 hq; simp only [Bool.not_true]; exact ⟨fun h => (nomatch h), fun h => by omega⟩
      | false => have := ilt_f.1 hq; simp only [Bool.not_false]; exact ⟨fun _ => by omega, fun _ => trivial⟩
    have w57 : ∀ {b}, (!ilt (nxt k) w) = b → (b = true ↔ w ≤ nxt k) := fun {b} hb => by
      subst hb
      cases hq : ilt (nxt k) w with
      | true => have := ilt_t.1 hq; simp only [Bool.not_true]; exact ⟨fun h => (nomatch h), fun h => by omega⟩
      | false => have := ilt_f.1 hq; simp only [Bool.not_false]; exact ⟨fun _ => by omega, fun _ => trivial⟩
    refine ⟨by rw [show BT.clsB none (Int.ofNat 1) i { kind := o.kind, m := o.m, a := o.a, b := o.b, c := o.c, t := o.t } = true from e1]; rfl, by repeat' (first | exact rfl | exact trivial | apply And.intro), fun h1 => ⟨fun h2 => ?_, fun h2 => ?_⟩, fun h1 => ?_⟩
    · exact ⟨rfl, ⟨(w57 h1).1 rfl, (key h2).1 rfl⟩, hk⟩
    · refine ⟨⟨rfl, fun hb => absurd ((key h2).2 hb.2) (by decide), hk⟩, ?_⟩
      repeat' (first | exact rfl | exact trivial | apply And.intro)
    · refine ⟨⟨rfl, fun hb => absurd ((w57 h1).2 hb.1) (by decide), hk⟩, ?_⟩
      repeat' (first | exact rfl | exact trivial | apply And.intro)
  · refine ⟨by have := ilt_f.1 q; simp only [iofn] at this; omega, ?_⟩
    repeat' (first | exact rfl | exact trivial | apply And.intro)
theorem d1_0 {a c d e f g h i j w : Int} {n : Nat} {cc : Cap} {B : List OpR} {k : Nat} (hn : B.length = n) (hnn : n ≤ 2000) (w0 : 1 ≤ w) (w1 : w ≤ 2000) (la : Nat → Int) (hc : ∀ o, B[k]? = some o → ClsP (some 0) 1 i o) :
    evW (GF (some 0)) (sp (some 0)) 60 bd none iFair (S (inv n cc w (Int.ofNat k)) (hL (cfgL a 1 c d e f g h i j) (cellsR B) (lastL la))) (K7 n cc w (Int.ofNat k) (cfgL a 1 c d e f g h i j) (cellsR B) (fun l => l = some (lastL (upd (some 0) (nxt k) la)) ∧ ¬ bad 1 w (nxt k) (upd (some 0) (nxt k) la) ∧ k < n) (fun v => v = noV ∧ bad 1 w (nxt k) (upd (some 0) (nxt k) la) ∧ k < n) (n ≤ k)) := by
  refine Eq.mpr (FR.r1_0 ..) ⟨fun q => ?_, fun q => ?_⟩
  · have hk : k < n := by have := ilt_t.1 q; simp only [iofn] at this; omega
    obtain ⟨o, ho⟩ : ∃ o, B[k]? = some o := ⟨B[k], List.getElem?_eq_getElem (by omega)⟩
    have l1 : ldF (cfgL a 1 c d e f g h i j) (cellsR B) (lastL la) k = some (.agg 6 (opV o) .leaf) := load_op ho (ob := roO (cellsR B)) (by simp only [hL, T.get_put]; rfl) (.inr rfl)
    have e1 : BT.clsB (some 0) (Int.ofNat 1) i o = true := BT.clsB_of (hc o ho)
    have v1 := nxt_eq (k := k) (by omega)
    have v2 : wr .i64 (Int.sub (nxt k) w) = nxt k - w := by rw [isub, wr64 (by omega) (by omega)]
    refine ⟨rfl, q, ⟨_, l1, rfl, rfl, rfl, rfl, rfl, trivial⟩, fun y0 y1 y2 y3 y4 y5 hy => ?_⟩
    have hy : ldF (cfgL a 1 c d e f g h i j) (cellsR B) (lastL la) k = some (.agg 6 [.int .i64 y0, .int .i64 y1, .int .i64 y2, .int .i64 y3, .int .i64 y4, .str y5] .leaf) := hy
    rw [l1] at hy
    cases hy
    have key : ∀ {b}, (!ilt (wr .i64 (Int.sub (nxt k) w)) (oldF 1 (upd (some 0) (nxt k) la))) = b → (b = true ↔ oldF 1 (upd (some 0) (nxt k) la) ≤ nxt k - w) := fun {b} hb => by
      rw [v2] at hb
      subst hb
      cases hq : ilt (nxt k - w) (oldF 1 (upd (some 0) (nxt k) la)) with
      | true => have := ilt_t.1 hq; simp only [Bool.not_true]; exact ⟨fun h => (nomatch h), fun h => by omega⟩
      | false => have := ilt_f.1 hq; simp only [Bool.not_false]; exact ⟨fun _ => by omega, fun _ => trivial⟩
    have w57 : ∀ {b}, (!ilt (nxt k) w) = b → (b = true ↔ w ≤ nxt k) := fun {b} hb => by
      subst hb
      cases hq : ilt (nxt k) w with
      | true => have := ilt_t.1 hq; simp only [Bool.not_true]; exact ⟨fun h => (nomatch h), fun h => by omega⟩
      | false => have := ilt_f.1 hq; simp only [Bool.not_false]; exact ⟨fun _ => by omega, fun _ => trivial⟩
    refine ⟨by rw [show BT.clsB (some 0) (Int.ofNat 1) i { kind := o.kind, m := o.m, a := o.a, b := o.b, c := o.c, t := o.t } = true from e1]; rfl, by repeat' (first | exact rfl | exact trivial | apply And.intro), fun h1 => ⟨fun h2 => ?_, fun h2 => ?_⟩, fun h1 => ?_⟩
    · exact ⟨rfl, ⟨(w57 h1).1 rfl, (key h2).1 rfl⟩, hk⟩
    · refine ⟨⟨rfl, fun hb => absurd ((key h2).2 hb.2) (by decide), hk⟩, ?_⟩
      repeat' (first | exact rfl | exact trivial | apply And.intro)
    · refine ⟨⟨rfl, fun hb => absurd ((w57 h1).2 hb.1) (by decide), hk⟩, ?_⟩
      repeat' (first | exact rfl | exact trivial | apply And.intro)
  · refine ⟨by have := ilt_f.1 q; simp only [iofn] at this; omega, ?_⟩
    repeat' (first | exact rfl | exact trivial | apply And.intro)
theorem d1_4 {a c d e f g h i j w : Int} {n : Nat} {cc : Cap} {B : List OpR} {k : Nat} (hn : B.length = n) (hnn : n ≤ 2000) (w0 : 1 ≤ w) (w1 : w ≤ 2000) (la : Nat → Int) (hc : ∀ o, B[k]? = some o → ClsP (some 4) 1 i o) :
    evW (GF (some 4)) (sp (some 4)) 60 bd none iFair (S (inv n cc w (Int.ofNat k)) (hL (cfgL a 1 c d e f g h i j) (cellsR B) (lastL la))) (K7 n cc w (Int.ofNat k) (cfgL a 1 c d e f g h i j) (cellsR B) (fun l => l = some (lastL (upd (some 4) (nxt k) la)) ∧ ¬ bad 1 w (nxt k) (upd (some 4) (nxt k) la) ∧ k < n) (fun v => v = noV ∧ bad 1 w (nxt k) (upd (some 4) (nxt k) la) ∧ k < n) (n ≤ k)) := by
  refine Eq.mpr (FR.r1_4 ..) ⟨fun q => ?_, fun q => ?_⟩
  · have hk : k < n := by have := ilt_t.1 q; simp only [iofn] at this; omega
    obtain ⟨o, ho⟩ : ∃ o, B[k]? = some o := ⟨B[k], List.getElem?_eq_getElem (by omega)⟩
    have l1 : ldF (cfgL a 1 c d e f g h i j) (cellsR B) (lastL la) k = some (.agg 6 (opV o) .leaf) := load_op ho (ob := roO (cellsR B)) (by simp only [hL, T.get_put]; rfl) (.inr rfl)
    have e1 : BT.clsB (some 4) (Int.ofNat 1) i o = true := BT.clsB_of (hc o ho)
    have v1 := nxt_eq (k := k) (by omega)
    have v2 : wr .i64 (Int.sub (nxt k) w) = nxt k - w := by rw [isub, wr64 (by omega) (by omega)]
    refine ⟨rfl, q, ⟨_, l1, rfl, rfl, rfl, rfl, rfl, trivial⟩, fun y0 y1 y2 y3 y4 y5 hy => ?_⟩
    have hy : ldF (cfgL a 1 c d e f g h i j) (cellsR B) (lastL la) k = some (.agg 6 [.int .i64 y0, .int .i64 y1, .int .i64 y2, .int .i64 y3, .int .i64 y4, .str y5] .leaf) := hy
    rw [l1] at hy
    cases hy
    have key : ∀ {b}, (!ilt (wr .i64 (Int.sub (nxt k) w)) (oldF 1 (upd (some 4) (nxt k) la))) = b → (b = true ↔ oldF 1 (upd (some 4) (nxt k) la) ≤ nxt k - w) := fun {b} hb => by
      rw [v2] at hb
      subst hb
      cases hq : ilt (nxt k - w) (oldF 1 (upd (some 4) (nxt k) la)) with
      | true => have := ilt_t.1 hq; simp only [Bool.not_true]; exact ⟨fun h => (nomatch h), fun h => by omega⟩
      | false => have := ilt_f.1 hq; simp only [Bool.not_false]; exact ⟨fun _ => by omega, fun _ => trivial⟩
    have w57 : ∀ {b}, (!ilt (nxt k) w) = b → (b = true ↔ w ≤ nxt k) := fun {b} hb => by
      subst hb
      cases hq : ilt (nxt k) w with
      | true => have := ilt_t.1 hq; simp only [Bool.not_true]; exact ⟨fun h => (nomatch h), fun h => by omega⟩
      | false => have := ilt_f.1 hq; simp only [Bool.not_false]; exact ⟨fun _ => by omega, fun _ => trivial⟩
    refine ⟨by rw [show BT.clsB (some 4) (Int.ofNat 1) i { kind := o.kind, m := o.m, a := o.a, b := o.b, c := o.c, t := o.t } = true from e1]; rfl, by repeat' (first | exact rfl | exact trivial | apply And.intro), fun h1 => ⟨fun h2 => ?_, fun h2 => ?_⟩, fun h1 => ?_⟩
    · exact ⟨rfl, ⟨(w57 h1).1 rfl, (key h2).1 rfl⟩, hk⟩
    · refine ⟨⟨rfl, fun hb => absurd ((key h2).2 hb.2) (by decide), hk⟩, ?_⟩
      repeat' (first | exact rfl | exact trivial | apply And.intro)
    · refine ⟨⟨rfl, fun hb => absurd ((w57 h1).2 hb.1) (by decide), hk⟩, ?_⟩
      repeat' (first | exact rfl | exact trivial | apply And.intro)
  · refine ⟨by have := ilt_f.1 q; simp only [iofn] at this; omega, ?_⟩
    repeat' (first | exact rfl | exact trivial | apply And.intro)
theorem d1_5 {a c d e f g h i j w : Int} {n : Nat} {cc : Cap} {B : List OpR} {k : Nat} (hn : B.length = n) (hnn : n ≤ 2000) (w0 : 1 ≤ w) (w1 : w ≤ 2000) (la : Nat → Int) (hc : ∀ o, B[k]? = some o → ClsP (some 5) 1 i o) :
    evW (GF (some 5)) (sp (some 5)) 60 bd none iFair (S (inv n cc w (Int.ofNat k)) (hL (cfgL a 1 c d e f g h i j) (cellsR B) (lastL la))) (K7 n cc w (Int.ofNat k) (cfgL a 1 c d e f g h i j) (cellsR B) (fun l => l = some (lastL (upd (some 5) (nxt k) la)) ∧ ¬ bad 1 w (nxt k) (upd (some 5) (nxt k) la) ∧ k < n) (fun v => v = noV ∧ bad 1 w (nxt k) (upd (some 5) (nxt k) la) ∧ k < n) (n ≤ k)) := by
  refine Eq.mpr (FR.r1_5 ..) ⟨fun q => ?_, fun q => ?_⟩
  · have hk : k < n := by have := ilt_t.1 q; simp only [iofn] at this; omega
    obtain ⟨o, ho⟩ : ∃ o, B[k]? = some o := ⟨B[k], List.getElem?_eq_getElem (by omega)⟩
    have l1 : ldF (cfgL a 1 c d e f g h i j) (cellsR B) (lastL la) k = some (.agg 6 (opV o) .leaf) := load_op ho (ob := roO (cellsR B)) (by simp only [hL, T.get_put]; rfl) (.inr rfl)
    have e1 : BT.clsB (some 5) (Int.ofNat 1) i o = true := BT.clsB_of (hc o ho)
    have v1 := nxt_eq (k := k) (by omega)
    have v2 : wr .i64 (Int.sub (nxt k) w) = nxt k - w := by rw [isub, wr64 (by omega) (by omega)]
    refine ⟨rfl, q, ⟨_, l1, rfl, rfl, rfl, rfl, rfl, trivial⟩, fun y0 y1 y2 y3 y4 y5 hy => ?_⟩
    have hy : ldF (cfgL a 1 c d e f g h i j) (cellsR B) (lastL la) k = some (.agg 6 [.int .i64 y0, .int .i64 y1, .int .i64 y2, .int .i64 y3, .int .i64 y4, .str y5] .leaf) := hy
    rw [l1] at hy
    cases hy
    have key : ∀ {b}, (!ilt (wr .i64 (Int.sub (nxt k) w)) (oldF 1 (upd (some 5) (nxt k) la))) = b → (b = true ↔ oldF 1 (upd (some 5) (nxt k) la) ≤ nxt k - w) := fun {b} hb => by
      rw [v2] at hb
      subst hb
      cases hq : ilt (nxt k - w) (oldF 1 (upd (some 5) (nxt k) la)) with
      | true => have := ilt_t.1 hq; simp only [Bool.not_true]; exact ⟨fun h => (nomatch h), fun h => by omega⟩
      | false => have := ilt_f.1 hq; simp only [Bool.not_false]; exact ⟨fun _ => by omega, fun _ => trivial⟩
    have w57 : ∀ {b}, (!ilt (nxt k) w) = b → (b = true ↔ w ≤ nxt k) := fun {b} hb => by
      subst hb
      cases hq : ilt (nxt k) w with
      | true => have := ilt_t.1 hq; simp only [Bool.not_true]; exact ⟨fun h => (nomatch h), fun h => by omega⟩
      | false => have := ilt_f.1 hq; simp only [Bool.not_false]; exact ⟨fun _ => by omega, fun _ => trivial⟩
    refine ⟨by rw [show BT.clsB (some 5) (Int.ofNat 1) i { kind := o.kind, m := o.m, a := o.a, b := o.b, c := o.c, t := o.t } = true from e1]; rfl, by repeat' (first | exact rfl | exact trivial | apply And.intro), fun h1 => ⟨fun h2 => ?_, fun h2 => ?_⟩, fun h1 => ?_⟩
    · exact ⟨rfl, ⟨(w57 h1).1 rfl, (key h2).1 rfl⟩, hk⟩
    · refine ⟨⟨rfl, fun hb => absurd ((key h2).2 hb.2) (by decide), hk⟩, ?_⟩
      repeat' (first | exact rfl | exact trivial | apply And.intro)
    · refine ⟨⟨rfl, fun hb => absurd ((w57 h1).2 hb.1) (by decide), hk⟩, ?_⟩
      repeat' (first | exact rfl | exact trivial | apply And.intro)
  · refine ⟨by have := ilt_f.1 q; simp only [iofn] at this; omega, ?_⟩
    repeat' (first | exact rfl | exact trivial | apply And.intro)
theorem d1_6 {a c d e f g h i j w : Int} {n : Nat} {cc : Cap} {B : List OpR} {k : Nat} (hn : B.length = n) (hnn : n ≤ 2000) (w0 : 1 ≤ w) (w1 : w ≤ 2000) (la : Nat → Int) (hc : ∀ o, B[k]? = some o → ClsP (some 6) 1 i o) :
    evW (GF (some 6)) (sp (some 6)) 60 bd none iFair (S (inv n cc w (Int.ofNat k)) (hL (cfgL a 1 c d e f g h i j) (cellsR B) (lastL la))) (K7 n cc w (Int.ofNat k) (cfgL a 1 c d e f g h i j) (cellsR B) (fun l => l = some (lastL (upd (some 6) (nxt k) la)) ∧ ¬ bad 1 w (nxt k) (upd (some 6) (nxt k) la) ∧ k < n) (fun v => v = noV ∧ bad 1 w (nxt k) (upd (some 6) (nxt k) la) ∧ k < n) (n ≤ k)) := by
  refine Eq.mpr (FR.r1_6 ..) ⟨fun q => ?_, fun q => ?_⟩
  · have hk : k < n := by have := ilt_t.1 q; simp only [iofn] at this; omega
    obtain ⟨o, ho⟩ : ∃ o, B[k]? = some o := ⟨B[k], List.getElem?_eq_getElem (by omega)⟩
    have l1 : ldF (cfgL a 1 c d e f g h i j) (cellsR B) (lastL la) k = some (.agg 6 (opV o) .leaf) := load_op ho (ob := roO (cellsR B)) (by simp only [hL, T.get_put]; rfl) (.inr rfl)
    have e1 : BT.clsB (some 6) (Int.ofNat 1) i o = true := BT.clsB_of (hc o ho)
    have v1 := nxt_eq (k := k) (by omega)
    have v2 : wr .i64 (Int.sub (nxt k) w) = nxt k - w := by rw [isub, wr64 (by omega) (by omega)]
    refine ⟨rfl, q, ⟨_, l1, rfl, rfl, rfl, rfl, rfl, trivial⟩, fun y0 y1 y2 y3 y4 y5 hy => ?_⟩
    have hy : ldF (cfgL a 1 c d e f g h i j) (cellsR B) (lastL la) k = some (.agg 6 [.int .i64 y0, .int .i64 y1, .int .i64 y2, .int .i64 y3, .int .i64 y4, .str y5] .leaf) := hy
    rw [l1] at hy
    cases hy
    have key : ∀ {b}, (!ilt (wr .i64 (Int.sub (nxt k) w)) (oldF 1 (upd (some 6) (nxt k) la))) = b → (b = true ↔ oldF 1 (upd (some 6) (nxt k) la) ≤ nxt k - w) := fun {b} hb => by
      rw [v2] at hb
      subst hb
      cases hq : ilt (nxt k - w) (oldF 1 (upd (some 6) (nxt k) la)) with
      | true => have := ilt_t.1 hq; simp only [Bool.not_true]; exact ⟨fun h => (nomatch h), fun h => by omega⟩
      | false => have := ilt_f.1 hq; simp only [Bool.not_false]; exact ⟨fun _ => by omega, fun _ => trivial⟩
    have w57 : ∀ {b}, (!ilt (nxt k) w) = b → (b = true ↔ w ≤ nxt k) := fun {b} hb => by
      subst hb
      cases hq : ilt (nxt k) w with
      | true => have := ilt_t.1 hq; simp only [Bool.not_true]; exact ⟨fun h => (nomatch h), fun h => by omega⟩
      | false => have := ilt_f.1 hq; simp only [Bool.not_false]; exact ⟨fun _ => by omega, fun _ => trivial⟩
    refine ⟨by rw [show BT.clsB (some 6) (Int.ofNat 1) i { kind := o.kind, m := o.m, a := o.a, b := o.b, c := o.c, t := o.t } = true from e1]; rfl, by repeat' (first | exact rfl | exact trivial | apply And.intro), fun h1 => ⟨fun h2 => ?_, fun h2 => ?_⟩, fun h1 => ?_⟩
    · exact ⟨rfl, ⟨(w57 h1).1 rfl, (key h2).1 rfl⟩, hk⟩
    · refine ⟨⟨rfl, fun hb => absurd ((key h2).2 hb.2) (by decide), hk⟩, ?_⟩
      repeat' (first | exact rfl | exact trivial | apply And.intro)
    · refine ⟨⟨rfl, fun hb => absurd ((w57 h1).2 hb.1) (by decide), hk⟩, ?_⟩
      repeat' (first | exact rfl | exact trivial | apply And.intro)
  · refine ⟨by have := ilt_f.1 q; simp only [iofn] at this; omega, ?_⟩
    repeat' (first | exact rfl | exact trivial | apply And.intro)
theorem d1_7 {a c d e f g h i j w : Int} {n : Nat} {cc : Cap} {B : List OpR} {k : Nat} (hn : B.length = n) (hnn : n ≤ 2000) (w0 : 1 ≤ w) (w1 : w ≤ 2000) (la : Nat → Int) (hc : ∀ o, B[k]? = some o → ClsP (some 7) 1 i o) :
    evW (GF (some 7)) (sp (some 7)) 60 bd none iFair (S (inv n cc w (Int.ofNat k)) (hL (cfgL a 1 c d e f g h i j) (cellsR B) (lastL la))) (K7 n cc w (Int.ofNat k) (cfgL a 1 c d e f g h i j) (cellsR B) (fun l => l = some (lastL (upd (some 7) (nxt k) la)) ∧ ¬ bad 1 w (nxt k) (upd (some 7) (nxt k) la) ∧ k < n) (fun v => v = noV ∧ bad 1 w (nxt k) (upd (some 7) (nxt k) la) ∧ k < n) (n ≤ k)) := by
  refine Eq.mpr (FR.r1_7 ..) ⟨fun q => ?_, fun q => ?_⟩
  · have hk : k < n := by have := ilt_t.1 q; simp only [iofn] at this; omega
    obtain ⟨o, ho⟩ : ∃ o, B[k]? = some o := ⟨B[k], List.getElem?_eq_getElem (by omega)⟩
    have l1 : ldF (cfgL a 1 c d e f g h i j) (cellsR B) (lastL la) k = some (.agg 6 (opV o) .leaf) := load_op ho (ob := roO (cellsR B)) (by simp only [hL, T.get_put]; rfl) (.inr rfl)
    have e1 : BT.clsB (some 7) (Int.ofNat 1) i o = true := BT.clsB_of (hc o ho)
    have v1 := nxt_eq (k := k) (by omega)
    have v2 : wr .i64 (Int.sub (nxt k) w) = nxt k - w := by rw [isub, wr64 (by omega) (by omega)]
    refine ⟨rfl, q, ⟨_, l1, rfl, rfl, rfl, rfl, rfl, trivial⟩, fun y0 y1 y2 y3 y4 y5 hy => ?_⟩
    have hy : ldF (cfgL a 1 c d e f g h i j) (cellsR B) (lastL la) k = some (.agg 6 [.int .i64 y0, .int .i64 y1, .int .i64 y2, .int .i64 y3, .int .i64 y4, .str y5] .leaf) := hy
    rw [l1] at hy
    cases hy
    have key : ∀ {b}, (!ilt (wr .i64 (Int.sub (nxt k) w)) (oldF 1 (upd (some 7) (nxt k) la))) = b → (b = true ↔ oldF 1 (upd (some 7) (nxt k) la) ≤ nxt k - w) := fun {b} hb => by
      rw [v2] at hb
      subst hb
      cases hq : ilt (nxt k - w) (oldF 1 (upd (some 7) (nxt k) la)) with
      | true => have := ilt_t.1 hq; simp only [Bool.not_true]; exact ⟨fun h => (nomatch h), fun h => by omega⟩
      | false => have := ilt_f.1 hq; simp only [Bool.not_false]; exact ⟨fun _ => by omega, fun _ => trivial⟩
    have w57 : ∀ {b}, (!ilt (nxt k) w) = b → (b = true ↔ w ≤ nxt k) := fun {b} hb => by
      subst hb
      cases hq : ilt (nxt k) w with
      | true => have := ilt_t.1 hq; simp only [Bool.not_true]; exact ⟨fun h => (nomatch h), fun h => by omega⟩
      | false => have := ilt_f.1 hq; simp only [Bool.not_false]; exact ⟨fun _ => by omega, fun _ => trivial⟩
    refine ⟨by rw [show BT.clsB (some 7) (Int.ofNat 1) i { kind := o.kind, m := o.m, a := o.a, b := o.b, c := o.c, t := o.t } = true from e1]; rfl, by repeat' (first | exact rfl | exact trivial | apply And.intro), fun h1 => ⟨fun h2 => ?_, fun h2 => ?_⟩, fun h1 => ?_⟩
    · exact ⟨rfl, ⟨(w57 h1).1 rfl, (key h2).1 rfl⟩, hk⟩
    · refine ⟨⟨rfl, fun hb => absurd ((key h2).2 hb.2) (by decide), hk⟩, ?_⟩
      repeat' (first | exact rfl | exact trivial | apply And.intro)
    · refine ⟨⟨rfl, fun hb => absurd ((w57 h1).2 hb.1) (by decide), hk⟩, ?_⟩
      repeat' (first | exact rfl | exact trivial | apply And.intro)
  · refine ⟨by have := ilt_f.1 q; simp only [iofn] at this; omega, ?_⟩
    repeat' (first | exact rfl | exact trivial | apply And.intro)
theorem d2_n {a c d e f g h i j w : Int} {n : Nat} {cc : Cap} {B : List OpR} {k : Nat} (hn : B.length = n) (hnn : n ≤ 2000) (w0 : 1 ≤ w) (w1 : w ≤ 2000) (la : Nat → Int) (hc : ∀ o, B[k]? = some o → ClsP none 2 i o) :
    evW (GF none) (sp none) 60 bd none iFair (S (inv n cc w (Int.ofNat k)) (hL (cfgL a 2 c d e f g h i j) (cellsR B) (lastL la))) (K7 n cc w (Int.ofNat k) (cfgL a 2 c d e f g h i j) (cellsR B) (fun l => l = some (lastL (upd none (nxt k) la)) ∧ ¬ bad 2 w (nxt k) (upd none (nxt k) la) ∧ k < n) (fun v => v = noV ∧ bad 2 w (nxt k) (upd none (nxt k) la) ∧ k < n) (n ≤ k)) := by
  refine Eq.mpr (FR.r2_n ..) ⟨fun q => ?_, fun q => ?_⟩
  · have hk : k < n := by have := ilt_t.1 q; simp only [iofn] at this; omega
    obtain ⟨o, ho⟩ : ∃ o, B[k]? = some o := ⟨B[k], List.getElem?_eq_getElem (by omega)⟩
    have l1 : ldF (cfgL a 2 c d e f g h i j) (cellsR B) (lastL la) k = some (.agg 6 (opV o) .leaf) := load_op ho (ob := roO (cellsR B)) (by simp only [hL, T.get_put]; rfl) (.inr rfl)
    have e1 : BT.clsB none (Int.ofNat 2) i o = true := BT.clsB_of (hc o ho)
    have v1 := nxt_eq (k := k) (by omega)
    have v2 : wr .i64 (Int.sub (nxt k) w) = nxt k - w := by rw [isub, wr64 (by omega) (by omega)]
    refine ⟨rfl, q, ⟨_, l1, rfl, rfl, rfl, rfl, rfl, trivial⟩, fun y0 y1 y2 y3 y4 y5 hy => ?_⟩
    have hy : ldF (cfgL a 2 c d e f g h i j) (cellsR B) (lastL la) k = some (.agg 6 [.int .i64 y0, .int .i64 y1, .int .i64 y2, .int .i64 y3, .int .i64 y4, .str y5] .leaf) := hy
    rw [l1] at hy
    cases hy
    have key : ∀ {b}, (!ilt (wr .i64 (Int.sub (nxt k) w)) (oldF 2 (upd none (nxt k) la))) = b → (b = true ↔ oldF 2 (upd none (nxt k) la) ≤ nxt k - w) := fun {b} hb => by
      rw [v2] at hb
      subst hb
      cases hq : ilt (nxt k - w) (oldF 2 (upd none (nxt k) la)) with
      | true => have := ilt_t.1 hq; simp only [Bool.not_true]; exact ⟨fun h => (nomatch h), fun h => by omega⟩
      | false => have := ilt_f.1 hq; simp only [Bool.not_false]; exact ⟨fun _ => by omega, fun _ => trivial⟩
    have w57 : ∀ {b}, (!ilt (nxt k) w) = b → (b = true ↔ w ≤ nxt k) := fun {b} hb => by
      subst hb
      cases hq : ilt (nxt k) w with
      | true => have := ilt_t.1 hq; simp only [Bool.not_true]; exact ⟨fun h => (nomatch h), fun h => by omega⟩
      | false => have := ilt_f.1 hq; simp only [Bool.not_false]; exact ⟨fun _ => by omega, fun _ => trivial⟩
    refine ⟨by rw [show BT.clsB none (Int.ofNat 2) i { kind := o.kind, m := o.m, a := o.a, b := o.b, c := o.c, t := o.t } = true from e1]; rfl, by repeat' (first | exact rfl | exact trivial | apply And.intro), fun h1 => ⟨fun h2 => ?_, fun h2 => ?_⟩, fun h1 => ?_⟩
    · exact ⟨rfl, ⟨(w57 h1).1 rfl, (key h2).1 rfl⟩, hk⟩
    · refine ⟨⟨rfl, fun hb => absurd ((key h2).2 hb.2) (by decide), hk⟩, ?_⟩
      repeat' (first | exact rfl | exact trivial | apply And.intro)
    · refine ⟨⟨rfl, fun hb => absurd ((w57 h1).2 hb.1) (by decide), hk⟩, ?_⟩
      repeat' (first | exact rfl | exact trivial | apply And.intro)
  · refine ⟨by have := ilt_f.1 q; simp only [iofn] at this; omega, ?_⟩
    repeat' (first | exact rfl | exact trivial | apply And.intro)
theorem d2_0 {a c d e f g h i j w : Int} {n : Nat} {cc : Cap} {B : List OpR} {k : Nat} (hn : B.length = n) (hnn : n ≤ 2000) (w0 : 1 ≤ w) (w1 : w ≤ 2000) (la : Nat → Int) (hc : ∀ o, B[k]? = some o → ClsP (some 0) 2 i o) :
    evW (GF (some 0)) (sp (some 0)) 60 bd none iFair (S (inv n cc w (Int.ofNat k)) (hL (cfgL a 2 c d e f g h i j) (cellsR B) (lastL la))) (K7 n cc w (Int.ofNat k) (cfgL a 2 c d e f g h i j) (cellsR B) (fun l => l = some (lastL (upd (some 0) (nxt k) la)) ∧ ¬ bad 2 w (nxt k) (upd (some 0) (nxt k) la) ∧ k < n) (fun v => v = noV ∧ bad 2 w (nxt k) (upd (some 0) (nxt k) la) ∧ k < n) (n ≤ k)) := by
  refine Eq.mpr (FR.r2_0 ..) ⟨fun q => ?_, fun q => ?_⟩
  · have hk : k < n := by have := ilt_t.1 q; simp only [iofn] at this; omega
    obtain ⟨o, ho⟩ : ∃ o, B[k]? = some o := ⟨B[k], List.getElem?_eq_getElem (by omega)⟩
    have l1 : ldF (cfgL a 2 c d e f g h i j) (cellsR B) (lastL la) k = some (.agg 6 (opV o) .leaf) := load_op ho (ob := roO (cellsR B)) (by simp only [hL, T.get_put]; rfl) (.inr rfl)
    have e1 : BT.clsB (some 0) (Int.ofNat 2) i o = true := BT.clsB_of (hc o ho)
    have v1 := nxt_eq (k := k) (by omega)
    have v2 : wr .i64 (Int.sub (nxt k) w) = nxt k - w := by rw [isub, wr64 (by omega) (by omega)]
    refine ⟨rfl, q, ⟨_, l1, rfl, rfl, rfl, rfl, rfl, trivial⟩, fun y0 y1 y2 y3 y4 y5 hy => ?_⟩
    have hy : ldF (cfgL a 2 c d e f g h i j) (cellsR B) (lastL la) k = some (.agg 6 [.int .i64 y0, .int .i64 y1, .int .i64 y2, .int .i64 y3, .int .i64 y4, .str y5] .leaf) := hy
    rw [l1] at hy
    cases hy
    have key : ∀ {b}, (!ilt (wr .i64 (Int.sub (nxt k) w)) (oldF 2 (upd (some 0) (nxt k) la))) = b → (b = true ↔ oldF 2 (upd (some 0) (nxt k) la) ≤ nxt k - w) := fun {b} hb => by
      rw [v2] at hb
      subst hb
      cases hq : ilt (nxt k - w) (oldF 2 (upd (some 0) (nxt k) la)) with
      | true => have := ilt_t.1 hq; simp only [Bool.not_true]; exact ⟨fun h => (nomatch h), fun h => by omega⟩
      | false => have := ilt_f.1 hq; simp only [Bool.not_false]; exact ⟨fun _ => by omega, fun _ => trivial⟩
    have w57 : ∀ {b}, (!ilt (nxt k) w) = b → (b = true ↔ w ≤ nxt k) := fun {b} hb => by
      subst hb
      cases hq : ilt (nxt k) w with
      | true => have := ilt_t.1 hq; simp only [Bool.not_true]; exact ⟨fun h => (nomatch h), fun h => by omega⟩
      | false => have := ilt_f.1 hq; simp only [Bool.not_false]; exact ⟨fun _ => by omega, fun _ => trivial⟩
    refine ⟨by rw [show BT.clsB (some 0) (Int.ofNat 2) i { kind := o.kind, m := o.m, a := o.a, b := o.b, c := o.c, t := o.t } = true from e1]; rfl, by repeat' (first | exact rfl | exact trivial | apply And.intro), fun h1 => ⟨fun h2 => ?_, fun h2 => ?_⟩, fun h1 => ?_⟩
    · exact ⟨rfl, ⟨(w57 h1).1 rfl, (key h2).1 rfl⟩, hk⟩
    · refine ⟨⟨rfl, fun hb => absurd ((key h2).2 hb.2) (by decide), hk⟩, ?_⟩
      repeat' (first | exact rfl | exact trivial | apply And.intro)
    · refine ⟨⟨rfl, fun hb => absurd ((w57 h1).2 hb.1) (by decide), hk⟩, ?_⟩
      repeat' (first | exact rfl | exact trivial | apply And.intro)
  · refine ⟨by have := ilt_f.1 q; simp only [iofn] at this; omega, ?_⟩
    repeat' (first | exact rfl | exact trivial | apply And.intro)
theorem d2_1 {a c d e f g h i j w : Int} {n : Nat} {cc : Cap} {B : List OpR} {k : Nat} (hn : B.length = n) (hnn : n ≤ 2000) (w0 : 1 ≤ w) (w1 : w ≤ 2000) (la : Nat → Int) (hc : ∀ o, B[k]? = some o → ClsP (some 1) 2 i o) :
    evW (GF (some 1)) (sp (some 1)) 60 bd none iFair (S (inv n cc w (Int.ofNat k)) (hL (cfgL a 2 c d e f g h i j) (cellsR B) (lastL la))) (K7 n cc w (Int.ofNat k) (cfgL a 2 c d e f g h i j) (cellsR B) (fun l => l = some (lastL (upd (some 1) (nxt k) la)) ∧ ¬ bad 2 w (nxt k) (upd (some 1) (nxt k) la) ∧ k < n) (fun v => v = noV ∧ bad 2 w (nxt k) (upd (some 1) (nxt k) la) ∧ k < n) (n ≤ k)) := by
  refine Eq.mpr (FR.r2_1 ..) ⟨fun q => ?_, fun q => ?_⟩
  · have hk : k < n := by have := ilt_t.1 q; simp only [iofn] at this; omega
    obtain ⟨o, ho⟩ : ∃ o, B[k]? = some o := ⟨B[k], List.getElem?_eq_getElem (by omega)⟩
    have l1 : ldF (cfgL a 2 c d e f g h i j) (cellsR B) (lastL la) k = some (.agg 6 (opV o) .leaf) := load_op ho (ob := roO (cellsR B)) (by simp only [hL, T.get_put]; rfl) (.inr rfl)
    have e1 : BT.clsB (some 1) (Int.ofNat 2) i o = true := BT.clsB_of (hc o ho)
    have v1 := nxt_eq (k := k) (by omega)
    have v2 : wr .i64 (Int.sub (nxt k) w) = nxt k - w := by rw [isub, wr64 (by omega) (by omega)]
    refine ⟨rfl, q, ⟨_, l1, rfl, rfl, rfl, rfl, rfl, trivial⟩, fun y0 y1 y2 y3 y4 y5 hy => ?_⟩
    have hy : ldF (cfgL a 2 c d e f g h i j) (cellsR B) (lastL la) k = some (.agg 6 [.int .i64 y0, .int .i64 y1, .int .i64 y2, .int .i64 y3, .int .i64 y4, .str y5] .leaf) := hy
    rw [l1] at hy
    cases hy
    have key : ∀ {b}, (!ilt (wr .i64 (Int.sub (nxt k) w)) (oldF 2 (upd (some 1) (nxt k) la))) = b → (b = true ↔ oldF 2 (upd (some 1) (nxt k) la) ≤ nxt k - w) := fun {b} hb => by
      rw [v2] at hb
      subst hb
      cases hq : ilt (nxt k - w) (oldF 2 (upd (some 1) (nxt k) la)) with
      | true => have := ilt_t.1 hq; simp only [Bool.not_true]; exact ⟨fun h => (nomatch h), fun h => by omega⟩
      | false => have := ilt_f.1 hq; simp only [Bool.not_false]; exact ⟨fun _ => by omega, fun _ => trivial⟩
    have w57 : ∀ {b}, (!ilt (nxt k) w) = b → (b = true ↔ w ≤ nxt k) := fun {b} hb => by
      subst hb
      cases hq : ilt (nxt k) w with
      | true => have := ilt_t.1 hq; simp only [Bool.not_true]; exact ⟨fun h => (nomatch h), fun h => by omega⟩
      | false => have := ilt_f.1 hq; simp only [Bool.not_false]; exact ⟨fun _ => by omega, fun _ => trivial⟩
    refine ⟨by rw [show BT.clsB (some 1) (Int.ofNat 2) i { kind := o.kind, m := o.m, a := o.a, b := o.b, c := o.c, t := o.t } = true from e1]; rfl, by repeat' (first | exact rfl | exact trivial | apply And.intro), fun h1 => ⟨fun h2 => ?_, fun h2 => ?_⟩, fun h1 => ?_⟩
    · exact ⟨rfl, ⟨(w57 h1).1 rfl, (key h2).1 rfl⟩, hk⟩
    · refine ⟨⟨rfl, fun hb => absurd ((key h2).2 hb.2) (by decide), hk⟩, ?_⟩
      repeat' (first | exact rfl | exact trivial | apply And.intro)
    · refine ⟨⟨rfl, fun hb => absurd ((w57 h1).2 hb.1) (by decide), hk⟩, ?_⟩
      repeat' (first | exact rfl | exact trivial | apply And.intro)
  · refine ⟨by have := ilt_f.1 q; simp only [iofn] at this; omega, ?_⟩
    repeat' (first | exact rfl | exact trivial | apply And.intro)
theorem d2_4 {a c d e f g h i j w : Int} {n : Nat} {cc : Cap} {B : List OpR} {k : Nat} (hn : B.length = n) (hnn : n ≤ 2000) (w0 : 1 ≤ w) (w1 : w ≤ 2000) (la : Nat → Int) (hc : ∀ o, B[k]? = some o → ClsP (some 4) 2 i o) :
    evW (GF (some 4)) (sp (some 4)) 60 bd none iFair (S (inv n cc w (Int.ofNat k)) (hL (cfgL a 2 c d e f g h i j) (cellsR B) (lastL la))) (K7 n cc w (Int.ofNat k) (cfgL a 2 c d e f g h i j) (cellsR B) (fun l => l = some (lastL (upd (some 4) (nxt k) la)) ∧ ¬ bad 2 w (nxt k) (upd (some 4) (nxt k) la) ∧ k < n) (fun v => v = noV ∧ bad 2 w (nxt k) (upd (some 4) (nxt k) la) ∧ k < n) (n ≤ k)) := by
  refine Eq.mpr (FR.r2_4 ..) ⟨fun q => ?_, fun q => ?_⟩
  · have hk : k < n := by have := ilt_t.1 q; simp only [iofn] at this; omega
    obtain ⟨o, ho⟩ : ∃ o, B[k]? = some o := ⟨B[k], List.getElem?_eq_getElem (by omega)⟩
    have l1 : ldF (cfgL a 2 c d e f g h i j) (cellsR B) (lastL la) k = some (.agg 6 (opV o) .leaf) := load_op ho (ob := roO (cellsR B)) (by simp only [hL, T.get_put]; rfl) (.inr rfl)
    have e1 : BT.clsB (some 4) (Int.ofNat 2) i o = true := BT.clsB_of (hc o ho)
    have v1 := nxt_eq (k := k) (by omega)
    have v2 : wr .i64 (Int.sub (nxt k) w) = nxt k - w := by rw [isub, wr64 (by omega) (by omega)]
    refine ⟨rfl, q, ⟨_, l1, rfl, rfl, rfl, rfl, rfl, trivial⟩, fun y0 y1 y2 y3 y4 y5 hy => ?_⟩
    have hy : ldF (cfgL a 2 c d e f g h i j) (cellsR B) (lastL la) k = some (.agg 6 [.int .i64 y0, .int .i64 y1, .int .i64 y2, .int .i64 y3, .int .i64 y4, .str y5] .leaf) := hy
    rw [l1] at hy
    cases hy
    have key : ∀ {b}, (!ilt (wr .i64 (Int.sub (nxt k) w)) (oldF 2 (upd (some 4) (nxt k) la))) = b → (b = true ↔ oldF 2 (upd (some 4) (nxt k) la) ≤ nxt k - w) := fun {b} hb => by
      rw [v2] at hb
      subst hb
      cases hq : ilt (nxt k - w) (oldF 2 (upd (some 4) (nxt k) la)) with
      | true => have := ilt_t.1 hq; simp only [Bool.not_true]; exact ⟨fun h => (nomatch h), fun h => by omega⟩
      | false => have := ilt_f.1 hq; simp only [Bool.not_false]; exact ⟨fun _ => by omega, fun _ => trivial⟩
    have w57 : ∀ {b}, (!ilt (nxt k) w) = b → (b = true ↔ w ≤ nxt k) := fun {b} hb => by
      subst hb
      cases hq : ilt (nxt k) w with
      | true => have := ilt_t.1 hq; simp only [Bool.not_true]; exact ⟨fun h => (nomatch h), fun h => by omega⟩
      | false => have := ilt_f.1 hq; simp only [Bool.not_false]; exact ⟨fun _ => by omega, fun _ => trivial⟩
    refine ⟨by rw [show BT.clsB (some 4) (Int.ofNat 2) i { kind := o.kind, m := o.m, a := o.a, b := o.b, c := o.c, t := o.t } = true from e1]; rfl, by repeat' (first | exact rfl | exact trivial | apply And.intro), fun h1 => ⟨fun h2 => ?_, fun h2 => ?_⟩, fun h1 => ?_⟩
    · exact ⟨rfl, ⟨(w57 h1).1 rfl, (key h2).1 rfl⟩, hk⟩
    · refine ⟨⟨rfl, fun hb => absurd ((key h2).2 hb.2) (by decide), hk⟩, ?_⟩
      repeat' (first | exact rfl | exact trivial | apply And.intro)
    · refine ⟨⟨rfl, fun hb => absurd ((w57 h1).2 hb.1) (by decide), hk⟩, ?_⟩
      repeat' (first | exact rfl | exact trivial | apply And.intro)
  · refine ⟨by have := ilt_f.1 q; simp only [iofn] at this; omega, ?_⟩
    repeat' (first | exact rfl | exact trivial | apply And.intro)
theorem d2_5 {a c d e f g h i j w : Int} {n : Nat} {cc : Cap} {B : List OpR} {k : Nat} (hn : B.length = n) (hnn : n ≤ 2000) (w0 : 1 ≤ w) (w1 : w ≤ 2000) (la : Nat → Int) (hc : ∀ o, B[k]? = some o → ClsP (some 5) 2 i o) :
    evW (GF (some 5)) (sp (some 5)) 60 bd none iFair (S (inv n cc w (Int.ofNat k)) (hL (cfgL a 2 c d e f g h i j) (cellsR B) (lastL la))) (K7 n cc w (Int.ofNat k) (cfgL a 2 c d e f g h i j) (cellsR B) (fun l => l = some (lastL (upd (some 5) (nxt k) la)) ∧ ¬ bad 2 w (nxt k) (upd (some 5) (nxt k) la) ∧ k < n) (fun v => v = noV ∧ bad 2 w (nxt k) (upd (some 5) (nxt k) la) ∧ k < n) (n ≤ k)) := by
  refine Eq.mpr (FR.r2_5 ..) ⟨fun q => ?_, fun q => ?_⟩
  · have hk : k < n := by have := ilt_t.1 q; simp only [iofn] at this; omega
    obtain ⟨o, ho⟩ : ∃ o, B[k]? = some o := ⟨B[k], List.getElem?_eq_getElem (by omega)⟩
    have l1 : ldF (cfgL a 2 c d e f g h i j) (cellsR B) (lastL la) k = some (.agg 6 (opV o) .leaf) := load_op ho (ob := roO (cellsR B)) (by simp only [hL, T.get_put]; rfl) (.inr rfl)
    have e1 : BT.clsB (some 5) (Int.ofNat 2) i o = true := BT.clsB_of (hc o ho)
    have v1 := nxt_eq (k := k) (by omega)
    have v2 : wr .i64 (Int.sub (nxt k) w) = nxt k - w := by rw [isub, wr64 (by omega) (by omega)]
    refine ⟨rfl, q, ⟨_, l1, rfl, rfl, rfl, rfl, rfl, trivial⟩, fun y0 y1 y2 y3 y4 y5 hy => ?_⟩
    have hy : ldF (cfgL a 2 c d e f g h i j) (cellsR B) (lastL la) k = some (.agg 6 [.int .i64 y0, .int .i64 y1, .int .i64 y2, .int .i64 y3, .int .i64 y4, .str y5] .leaf) := hy
    rw [l1] at hy
    cases hy
    have key : ∀ {b}, (!ilt (wr .i64 (Int.sub (nxt k) w)) (oldF 2 (upd (some 5) (nxt k) la))) = b → (b = true ↔ oldF 2 (upd (some 5) (nxt k) la) ≤ nxt k - w) := fun {b} hb => by
      rw [v2] at hb
      subst hb
      cases hq : ilt (nxt k - w) (oldF 2 (upd (some 5) (nxt k) la)) with
      | true => have := ilt_t.1 hq; simp only [Bool.not_true]; exact ⟨fun h => (nomatch h), fun h => by omega⟩
      | false => have := ilt_f.1 hq; simp only [Bool.not_false]; exact ⟨fun _ => by omega, fun _ => trivial⟩
    have w57 : ∀ {b}, (!ilt (nxt k) w) = b → (b = true ↔ w ≤ nxt k) := fun {b} hb => by
      subst hb
      cases hq : ilt (nxt k) w with
      | true => have := ilt_t.1 hq; simp only [Bool.not_true]; exact ⟨fun h => (nomatch h), fun h => by omega⟩
      | false => have := ilt_f.1 hq; simp only [Bool.not_false]; exact ⟨fun _ => by omega, fun _ => trivial⟩
    refine ⟨by rw [show BT.clsB (some 5) (Int.ofNat 2) i { kind := o.kind, m := o.m, a := o.a, b := o.b, c := o.c, t := o.t } = true from e1]; rfl, by repeat' (first | exact rfl | exact trivial | apply And.intro), fun h1 => ⟨fun h2 => ?_, fun h2 => ?_⟩, fun h1 => ?_⟩
    · exact ⟨rfl, ⟨(w57 h1).1 rfl, (key h2).1 rfl⟩, hk⟩
    · refine ⟨⟨rfl, fun hb => absurd ((key h2).2 hb.2) (by decide), hk⟩, ?_⟩
      repeat' (first | exact rfl | exact trivial | apply And.intro)
    · refine ⟨⟨rfl, fun hb => absurd ((w57 h1).2 hb.1) (by decide), hk⟩, ?_⟩
      repeat' (first | exact rfl | exact trivial | apply And.intro)
  · refine ⟨by have := ilt_f.1 q; simp only [iofn] at this; omega, ?_⟩
    repeat' (first | exact rfl | exact trivial | apply And.intro)
theorem d2_6 {a c d e f g h i j w : Int} {n : Nat} {cc : Cap} {B : List OpR} {k : Nat} (hn : B.length = n) (hnn : n ≤ 2000) (w0 : 1 ≤ w) (w1 : w ≤ 2000) (la : Nat → Int) (hc : ∀ o, B[k]? = some o → ClsP (some 6) 2 i o) :
    evW (GF (some 6)) (sp (some 6)) 60 bd none iFair (S (inv n cc w (Int.ofNat k)) (hL (cfgL a 2 c d e f g h i j) (cellsR B) (lastL la))) (K7 n cc w (Int.ofNat k) (cfgL a 2 c d e f g h i j) (cellsR B) (fun l => l = some (lastL (upd (some 6) (nxt k) la)) ∧ ¬ bad 2 w (nxt k) (upd (some 6) (nxt k) la) ∧ k < n) (fun v => v = noV ∧ bad 2 w (nxt k) (upd (some 6) (nxt k) la) ∧ k < n) (n ≤ k)) := by
  refine Eq.mpr (FR.r2_6 ..) ⟨fun q => ?_, fun q => ?_⟩
  · have hk : k < n := by have := ilt_t.1 q; simp only [iofn] at this; omega
    obtain ⟨o, ho⟩ : ∃ o, B[k]? = some o := ⟨B[k], List.getElem?_eq_getElem (by omega)⟩
    have l1 : ldF (cfgL a 2 c d e f g h i j) (cellsR B) (lastL la) k = some (.agg 6 (opV o) .leaf) := load_op ho (ob := roO (cellsR B)) (by simp only [hL, T.get_put]; rfl) (.inr rfl)
    have e1 : BT.clsB (some 6) (Int.ofNat 2) i o = true := BT.clsB_of (hc o ho)
    have v1 := nxt_eq (k := k) (by omega)
    have v2 : wr .i64 (Int.sub (nxt k) w) = nxt k - w := by rw [isub, wr64 (by omega) (by omega)]
    refine ⟨rfl, q, ⟨_, l1, rfl, rfl, rfl, rfl, rfl, trivial⟩, fun y0 y1 y2 y3 y4 y5 hy => ?_⟩
    have hy : ldF (cfgL a 2 c d e f g h i j) (cellsR B) (lastL la) k = some (.agg 6 [.int .i64 y0, .int .i64 y1, .int .i64 y2, .int .i64 y3, .int .i64 y4, .str y5] .leaf) := hy
    rw [l1] at hy
    cases hy
    have key : ∀ {b}, (!ilt (wr .i64 (Int.sub (nxt k) w)) (oldF 2 (upd (some 6) (nxt k) la))) = b → (b = true ↔ oldF 2 (upd (some 6) (nxt k) la) ≤ nxt k - w) := fun {b} hb => by
      rw [v2] at hb
      subst hb
      cases hq : ilt (nxt k - w) (oldF 2 (upd (some 6) (nxt k) la)) with
      | true => have := ilt_t.1 hq; simp only [Bool.not_true]; exact ⟨fun h => (nomatch h), fun h => by omega⟩
      | false => have := ilt_f.1 hq; simp only [Bool.not_false]; exact ⟨fun _ => by omega, fun _ => trivial⟩
    have w57 : ∀ {b}, (!ilt (nxt k) w) = b → (b = true ↔ w ≤ nxt k) := fun {b} hb => by
      subst hb
      cases hq : ilt (nxt k) w with
      | true => have := ilt_t.1 hq; simp only [Bool.not_true]; exact ⟨fun h => (nomatch h), fun h => by omega⟩
      | false => have := ilt_f.1 hq; simp only [Bool.not_false]; exact ⟨fun _ => by omega, fun _ => trivial⟩
    refine ⟨by rw [show BT.clsB (some 6) (Int.ofNat 2) i { kind := o.kind, m := o.m, a := o.a, b := o.b, c := o.c, t := o.t } = true from e1]; rfl, by repeat' (first | exact rfl | exact trivial | apply And.intro), fun h1 => ⟨fun h2 => ?_, fun h2 => ?_⟩, fun h1 => ?_⟩
    · exact ⟨rfl, ⟨(w57 h1).1 rfl, (key h2).1 rfl⟩, hk⟩
    · refine ⟨⟨rfl, fun hb => absurd ((key h2).2 hb.2) (by decide), hk⟩, ?_⟩
      repeat' (first | exact rfl | exact trivial | apply And.intro)
    · refine ⟨⟨rfl, fun hb => absurd ((w57 h1).2 hb.1) (by decide), hk⟩, ?_⟩
      repeat' (first | exact rfl | exact trivial | apply And.intro)
  · refine ⟨by have := ilt_f.1 q; simp only [iofn] at this; omega, ?_⟩
    repeat' (first | exact rfl | exact trivial | apply And.intro)
theorem d2_7 {a c d e f g h i j w : Int} {n : Nat} {cc : Cap} {B : List OpR} {k : Nat} (hn : B.length = n) (hnn : n ≤ 2000) (w0 : 1 ≤ w) (w1 : w ≤ 2000) (la : Nat → Int) (hc : ∀ o, B[k]? = some o → ClsP (some 7) 2 i o) :
    evW (GF (some 7)) (sp (some 7)) 60 bd none iFair (S (inv n cc w (Int.ofNat k)) (hL (cfgL a 2 c d e f g h i j) (cellsR B) (lastL la))) (K7 n cc w (Int.ofNat k) (cfgL a 2 c d e f g h i j) (cellsR B) (fun l => l = some (lastL (upd (some 7) (nxt k) la)) ∧ ¬ bad 2 w (nxt k) (upd (some 7) (nxt k) la) ∧ k < n) (fun v => v = noV ∧ bad 2 w (nxt k) (upd (some 7) (nxt k) la) ∧ k < n) (n ≤ k)) := by
  refine Eq.mpr (FR.r2_7 ..) ⟨fun q => ?_, fun q => ?_⟩
  · have hk : k < n := by have := ilt_t.1 q; simp only [iofn] at this; omega
    obtain ⟨o, ho⟩ : ∃ o, B[k]? = some o := ⟨B[k], List.getElem?_eq_getElem (by omega)⟩
    have l1 : ldF (cfgL a 2 c d e f g h i j) (cellsR B) (lastL la) k = some (.agg 6 (opV o) .leaf) := load_op ho (ob := roO (cellsR B)) (by simp only [hL, T.get_put]; rfl) (.inr rfl)
    have e1 : BT.clsB (some 7) (Int.ofNat 2) i o = true := BT.clsB_of (hc o ho)
    have v1 := nxt_eq (k := k) (by omega)
    have v2 : wr .i64 (Int.sub (nxt k) w) = nxt k - w := by rw [isub, wr64 (by omega) (by omega)]
    refine ⟨rfl, q, ⟨_, l1, rfl, rfl, rfl, rfl, rfl, trivial⟩, fun y0 y1 y2 y3 y4 y5 hy => ?_⟩
    have hy : ldF (cfgL a 2 c d e f g h i j) (cellsR B) (lastL la) k = some (.agg 6 [.int .i64 y0, .int .i64 y1, .int .i64 y2, .int .i64 y3, .int .i64 y4, .str y5] .leaf) := hy
    rw [l1] at hy
    cases hy
    have key : ∀ {b}, (!ilt (wr .i64 (Int.sub (nxt k) w)) (oldF 2 (upd (some 7) (nxt k) la))) = b → (b = true ↔ oldF 2 (upd (some 7) (nxt k) la) ≤ nxt k - w) := fun {b} hb => by
      rw [v2] at hb
      subst hb
      cases hq : ilt (nxt k - w) (oldF 2 (upd (some 7) (nxt k) la)) with
      | true => have := ilt_t.1 hq; simp only [Bool.not_true]; exact ⟨fun h => (nomatch h), fun h => by omega⟩
      | false => have := ilt_f.1 hq; simp only [Bool.not_false]; exact ⟨fun _ => by omega, fun _ => trivial⟩
    have w57 : ∀ {b}, (!ilt (nxt k) w) = b → (b = true ↔ w ≤ nxt k) := fun {b} hb => by
      subst hb
      cases hq : ilt (nxt k) w with
      | true => have := ilt_t.1 hq; simp only [Bool.not_true]; exact ⟨fun h => (nomatch h), fun h => by omega⟩
      | false => have := ilt_f.1 hq; simp only [Bool.not_false]; exact ⟨fun _ => by omega, fun _ => trivial⟩
    refine ⟨by rw [show BT.clsB (some 7) (Int.ofNat 2) i { kind := o.kind, m := o.m, a := o.a, b := o.b, c := o.c, t := o.t } = true from e1]; rfl, by repeat' (first | exact rfl | exact trivial | apply And.intro), fun h1 => ⟨fun h2 => ?_, fun h2 => ?_⟩, fun h1 => ?_⟩
    · exact ⟨rfl, ⟨(w57 h1).1 rfl, (key h2).1 rfl⟩, hk⟩
    · refine ⟨⟨rfl, fun hb => absurd ((key h2).2 hb.2) (by decide), hk⟩, ?_⟩
      repeat' (first | exact rfl | exact trivial | apply And.intro)
    · refine ⟨⟨rfl, fun hb => absurd ((w57 h1).2 hb.1) (by decide), hk⟩, ?_⟩
      repeat' (first | exact rfl | exact trivial | apply And.intro)
  · refine ⟨by have := ilt_f.1 q; simp only [iofn] at this; omega, ?_⟩
    repeat' (first | exact rfl | exact trivial | apply And.intro)
end FR
end Go.Proofs.YtcbggkejlhifpaaGreatDoor
/-! bound.Fair: which scripts are fair, by whose turn each operation is: the walk. -/
namespace Go.Proofs.YtcbggkejlhifpaaGreatDoor
set_option maxRecDepth 100000
set_option maxHeartbeats 2000000
open Go.Ev Go.RowKit
namespace FR
theorem clsV_pure (cl : Option Nat) : pureV (clsV cl) = true := by cases cl <;> rfl
theorem kB_ok (cl : Option Nat) (f : FuncId) : KnownOk Tryz.prog (f, fun args h => match kB cl f args h with | some (true, v) => some v | _ => .none) := by
  intro args h v hv ρ cargs w ha hS n
  simp only at hv
  split at hv
  · rename_i v0 hq
    cases hv
    unfold kB at hq
    split at hq
    · rename_i a b c d e ff g hh i j k m x y z t hf
      have hf := (T.beq_true).1 hf
      simp only [Option.some.injEq, Prod.mk.injEq] at hq
      obtain ⟨h1, rfl⟩ := hq
      have hc := BT.clsB_t h1
      obtain ⟨c1, cs1, e1, q1, q2⟩ := ha.uncons
      obtain ⟨c2, cs2, e2, q3, q4⟩ := q2.uncons
      have q4 := q4.of_nil
      have ha2 : Rels rE [cfgV a b c d e ff g hh i j, .agg 6 [.int .i64 k, .int .i64 m, .int .i64 x, .int .i64 y, .int .i64 z, .str t] .leaf] cargs.toList := by
        rw [e1, e2, q4]
        exact Rels.cons (canonV_rel (v := cfgV a b c d e ff g hh i j) rfl q1) (Rels.cons (canonV_rel (v := V.agg 6 [.int .i64 k, .int .i64 m, .int .i64 x, .int .i64 y, .int .i64 z, .str t] .leaf) rfl q3) Rels.nil)
      subst hf
      exact (law_w (G := G0) (sp := BT.sp) (mk_ok _).1 (mk_ok _).2 ext_none (kx_none _) (v := clsV cl) (BT.turn_fn hc) (clsV_pure cl) hE_ro ha2 (sim_E w) n).mono fun en w' ⟨c, e1, e2, e3⟩ => ⟨c, e1, e2, e3 _⟩
    · cases hq
  · cases hv
theorem GF_x (cl : Option Nat) : ExtOK Tryz.prog (GF cl) := extU_ok (kB_ok cl) (extL_ok (l := [kMach]) (fun x hx => by
  simp only [List.mem_cons, List.not_mem_nil, or_false] at hx
  rcases hx with rfl
  exact Mach_ok) rfl)
theorem eqH_eq {a b : H} (h : eqH a b) : a = b := by
  obtain ⟨a1, a2⟩ := a
  obtain ⟨b1, b2⟩ := b
  obtain ⟨h1, h2⟩ := h
  cases h1
  cases h2
  rfl
theorem last_o {o : Option O} {a b c d e f g h : Int} (q : lastX o = some (L8 a b c d e f g h)) : ∃ o', o = some o' ∧ o'.rw = true ∧ ∀ ρ L c', ORel ρ o' L c' → ORel ρ (.cells .none 8 (L8 a b c d e f g h) .leaf) L c' := by
  unfold lastX at q
  split at q
  · rename_i ee n pat tr
    split at q
    · rename_i hn h1 h2 h3 h4 h5 h6 h7 h8
      cases q
      have hn := (T.beq_true).1 hn
      subst hn
      refine ⟨_, rfl, rfl, fun ρ L c' ho => ?_⟩
      obtain ⟨cs, el, lo, hi, x1, x2, x3, x4, x5, x6⟩ := ho
      refine ⟨cs, el, lo, hi, x1, x2, x3, x4, fun e' r => (nomatch r), x6.1, fun i v x hv hx => ?_⟩
      obtain ⟨hi', hv⟩ := cell_pat hv
      match i, hi', hv with
      | 0, _, hv => cases hv; exact x6.2 0 _ x h1 hx
      | 1, _, hv => cases hv; exact x6.2 1 _ x h2 hx
      | 2, _, hv => cases hv; exact x6.2 2 _ x h3 hx
      | 3, _, hv => cases hv; exact x6.2 3 _ x h4 hx
      | 4, _, hv => cases hv; exact x6.2 4 _ x h5 hx
      | 5, _, hv => cases hv; exact x6.2 5 _ x h6 hx
      | 6, _, hv => cases hv; exact x6.2 6 _ x h7 hx
      | 7, _, hv => cases hv; exact x6.2 7 _ x h8 hx
    · cases q
  · cases q
theorem hL_get {cf A L : List V} {b : Nat} {o : O} (h : (hL cf A L).tr.get b = some o) : (b = 1012 ∧ o = .cells .none 8 L .leaf) ∨ (b = 1010 ∧ o = boxO cf) ∨ (b = 1003 ∧ o = roO A) := by
  simp only [hL, T.get_put] at h
  split at h
  · rename_i q; cases h; exact .inl ⟨q, rfl⟩
  · split at h
    · rename_i q; cases h; exact .inr (.inl ⟨q, rfl⟩)
    · split at h
      · rename_i q; cases h; exact .inr (.inr ⟨q, rfl⟩)
      · rw [T.get_leaf] at h; cases h
theorem hI_get {A : List V} {b : Nat} {o : O} (h : (hI A).tr.get b = some o) : b = 1003 ∧ o = roO A := by
  simp only [hI, T.get_put] at h
  split at h
  · rename_i q; cases h; exact ⟨q, rfl⟩
  · rw [T.get_leaf] at h; cases h
theorem hI_ro (A : List V) : AllRo (hI A) := fun b o h => by
  obtain ⟨_, rfl⟩ := hI_get h
  rfl
theorem okO_ro (l : List OpR) {m : Nat} : okO m (roO (cellsR l)) := fun i v hv => by
  have hv := List.mem_of_getElem? (cell_leaf hv)
  simp only [cellsR, List.mem_flatMap] at hv
  obtain ⟨o, _, ho⟩ := hv
  simp only [opV, List.mem_cons, List.not_mem_nil, or_false] at ho
  rcases ho with rfl | rfl | rfl | rfl | rfl | rfl <;> rfl
theorem okO_last {m : Nat} (la : Nat → Int) : okO m (.cells .none 8 (lastL la) .leaf) := fun i v hv => by
  have hm := List.mem_of_getElem? (cell_leaf (L := lastL la) hv)
  simp only [lastL, List.mem_cons, List.not_mem_nil, or_false] at hm
  rcases hm with rfl | rfl | rfl | rfl | rfl | rfl | rfl | rfl <;> rfl
theorem okO_box {a b c d e f g h i j : Int} {m : Nat} : okO m (boxO (cfgL a b c d e f g h i j)) := fun i1 v hv => by
  have hm := List.mem_of_getElem? (cell_leaf (L := cfgL a b c d e f g h i j) hv)
  simp only [List.mem_cons, List.not_mem_nil, or_false] at hm
  rcases hm with rfl | rfl | rfl | rfl | rfl | rfl | rfl | rfl | rfl | rfl <;> rfl
/-- memory behind a round -/
theorem keepL {h' : H} {a b c d e f g h i j : Int} {A : List V} {la : Nat → Int} (h1 : lastX (h'.tr.get 1012) = some (lastL la)) (h2 : h'.tr.get 1010 = some (boxO (cfgL a b c d e f g h i j))) (h3 : h'.tr.get 1003 = some (roO A)) : ∀ b0 o0, (hL (cfgL a b c d e f g h i j) A (lastL la)).tr.get b0 = some o0 → ∃ o', h'.tr.get b0 = some o' ∧ (o0.rw = true → o'.rw = true) ∧ ∀ ρ L c, ORel ρ o' L c → ORel ρ o0 L c := fun b0 o0 hb => by
  rcases hL_get hb with ⟨rfl, rfl⟩ | ⟨rfl, rfl⟩ | ⟨rfl, rfl⟩
  · obtain ⟨o', p1, p2, p3⟩ := last_o h1
    exact ⟨o', p1, fun _ => p2, p3⟩
  · exact ⟨_, h2, id, fun _ _ _ h => h⟩
  · exact ⟨_, h3, id, fun _ _ _ h => h⟩
/-- the last turns behind so many operations -/
def laF (cs : Nat → Option Nat) : Nat → Nat → Int
  | 0 => fun _ => 0
  | k + 1 => upd (cs k) (nxt k) (laF cs k)
open Classical in
noncomputable def fairB (m : Nat) (cs : Nat → Option Nat) (n : Nat) (w : Int) : Bool := decide (∀ k, k < n → ¬ bad m w (nxt k) (laF cs (k + 1)))
theorem dAll {m : Nat} (hm : m = 1 ∨ m = 2) {cl : Option Nat} {a c d e f g h i j w : Int} {n : Nat} {cc : Cap} {B : List OpR} {k : Nat} (hv : k < n → ∃ o, B[k]? = some o ∧ ClsP cl m i o) (hcl : ¬ k < n → cl = none) (hn : B.length = n) (hnn : n ≤ 2000) (w0 : 1 ≤ w) (w1 : w ≤ 2000) (la : Nat → Int) :
    evW (GF cl) (sp cl) 60 bd none iFair (S (inv n cc w (Int.ofNat k)) (hL (cfgL a m c d e f g h i j) (cellsR B) (lastL la))) (K7 n cc w (Int.ofNat k) (cfgL a m c d e f g h i j) (cellsR B) (fun l => l = some (lastL (upd cl (nxt k) la)) ∧ ¬ bad m w (nxt k) (upd cl (nxt k) la) ∧ k < n) (fun v => v = noV ∧ bad m w (nxt k) (upd cl (nxt k) la) ∧ k < n) (n ≤ k)) := by
  have hc : ∀ o, B[k]? = some o → ClsP cl m i o := fun o ho => by
    have hk : k < n := by have := (List.getElem?_eq_some_iff.1 ho).1; omega
    obtain ⟨o', h1, h2⟩ := hv hk
    rw [ho] at h1
    cases h1
    exact h2
  by_cases hk : k < n
  · obtain ⟨o, ho, hq⟩ := hv hk
    rcases hm with rfl | rfl
    · unfold ClsP at hq
      split at hq
      · exact d1_0 hn hnn w0 w1 la hc
      · have := hq.2; omega
      · exact d1_4 hn hnn w0 w1 la hc
      · exact d1_5 hn hnn w0 w1 la hc
      · exact d1_6 hn hnn w0 w1 la hc
      · exact d1_7 hn hnn w0 w1 la hc
      · exact d1_n hn hnn w0 w1 la hc
      · cases hq
    · unfold ClsP at hq
      split at hq
      · exact d2_0 hn hnn w0 w1 la hc
      · exact d2_1 hn hnn w0 w1 la hc
      · exact d2_4 hn hnn w0 w1 la hc
      · exact d2_5 hn hnn w0 w1 la hc
      · exact d2_6 hn hnn w0 w1 la hc
      · exact d2_7 hn hnn w0 w1 la hc
      · exact d2_n hn hnn w0 w1 la hc
      · cases hq
  · have := hcl hk
    subst this
    rcases hm with rfl | rfl
    · exact d1_n hn hnn w0 w1 la hc
    · exact d2_n hn hnn w0 w1 la hc
end FR
end Go.Proofs.YtcbggkejlhifpaaGreatDoor
/-! bound.Fair, called: what it returns. -/
namespace Go.Proofs.YtcbggkejlhifpaaGreatDoor
set_option maxRecDepth 100000
set_option maxHeartbeats 2000000
open Go.Ev Go.RowKit
namespace FR
theorem ret_out {Q : V → Prop} {st : St} (h : retIs Q st) : ∃ h2 v, takeAll st.defs st.h = some h2 ∧ resultsO G0 h2 st.env fn = some v ∧ Q v := by
  unfold retIs at h
  split at h
  · split at h
    · exact ⟨_, _, by assumption, by assumption, h⟩
    · cases h
  · cases h
theorem toS {ρ0 : Ren} {h0 : H} {w0 : World} {st : St} {a : Act} {w : World} (hA : At ρ0 h0 w0 st a w) {l : List (Nat × V)} {h : H} (hs : hasS l st) (hh : st.h = h) : At ρ0 h0 w0 (S l h) a w := by
  subst hh
  exact at_less hA (hasT_get hs.1) (Nat.le_of_eq hs.2.1.symm) (fun _ _ q => q) rfl (noDefs_eq hs.2.2).symm
open Classical in
theorem fairB_t {m : Nat} {cs : Nat → Option Nat} {n : Nat} {w : Int} (h : ∀ k, k < n → ¬ bad m w (nxt k) (laF cs (k + 1))) : fairB m cs n w = true := by
  unfold fairB
  exact decide_eq_true h
open Classical in
theorem fairB_f {m : Nat} {cs : Nat → Option Nat} {n k : Nat} {w : Int} (hk : k < n) (h : bad m w (nxt k) (laF cs (k + 1))) : fairB m cs n w = false := by
  unfold fairB
  exact decide_eq_false fun q => q k hk h
theorem call {m : Nat} (hm : m = 1 ∨ m = 2) {a c d e f g h i j w : Int} (hM : MachV a m c d e f g h i j = 0) {n : Nat} {cc : Cap} {B : List OpR} {cs : Nat → Option Nat} (hn : B.length = n) (hnn : n ≤ 2000) (w0 : 1 ≤ w) (w1' : w ≤ 2000)
    (hc : ∀ k o, B[k]? = some o → ClsP (cs k) m i o) {ρ : Ren} {cargs : Array Value} {W : World} (ha : Rels ρ [cfgV a m c d e f g h i j, .slice 1003 0 n cc, .int .i64 w] cargs.toList) (hS : Sim ρ (hI (cellsR B)) W) (k : Nat) :
    CallsIn Fence.wide k Tryz.prog iFair cargs W (fun en w' => ∃ c, en = .returned c ∧ Below W.heap.size W w' ∧ ∀ ρ, Rel ρ (.tuple [.bool (fairB m cs n w), .int .i64 (Int.ofNat 0)]) c) := by
  have hG : ∀ cl, GOk Tryz.prog (GF cl) := fun cl => (mk_ok _).1
  have hC : ∀ cl, Codes (GF cl) := fun cl => (mk_ok _).2
  have hG0 : GOk Tryz.prog G0 := (mk_ok _).1
  have out : ∀ {st : St} {a' : Act} {w' : World} {Q : V → Prop}, At ρ (hI (cellsR B)) W st a' w' → retIs Q st → (∀ v, Q v → v = .tuple [.bool (fairB m cs n w), .int .i64 (Int.ofNat 0)]) → LeavesInM Fence.wide k Tryz.prog fn a'.tmps (fun en w' => ∃ c, en = .returned c ∧ Below W.heap.size W w' ∧ ∀ ρ, Rel ρ (.tuple [.bool (fairB m cs n w), .int .i64 (Int.ofNat 0)]) c) a'.defers .returning w' := by
    intro st a' w' Q hA hr hq
    obtain ⟨h2, v, e1, e2, e3⟩ := ret_out hr
    obtain rfl := hq v e3
    obtain ⟨ρ', s1, s2, s3, s4⟩ := hA
    exact body_out (n := k) hG0 e1 e2 s2 s1 s3 s4 fun c w2 c1 c2 c3 => ⟨c, rfl, c3.below (hI_ro _), fun ρ => pureV_rel rfl c1⟩
  refine callsIn_of_wp_marks isFn body trivial ?_
  rw [tmps]
  have hen := at_enter hS ha (n := 67) (show 3 ≤ 67 by decide)
  have A0 : At ρ (hI (cellsR B)) W (S [(0, cfgV a m c d e f g h i j), (1, .slice 1003 0 n cc), (2, .int .i64 w)] (hI (cellsR B))) _ W := at_less hen (hasT_get ⟨rfl, rfl, rfl, trivial⟩) (Nat.le_refl _) (fun _ _ h => h) rfl rfl
  rw [cut]
  refine at_list (hG none) (hC none) (GF_x none) kxU_ok (sp := sp none) (N := 60) (fn := iFair) (K := K0 [(1, .slice 1003 0 n cc), (2, .int .i64 w), (3, .ptr 1010 0), (9, .ptr 1012 0)] (cfgL a m c d e f g h i j) (cellsR B)) (rest := x4) (fun st a1 w1 k1 A1 => ?_) (fun x st a1 w1 hx k1 A1 => ?_) A0 ?_ ok0
  rotate_left
  · cases x with
    | normal => exact absurd rfl hx
    | ret => cases k1
    | exit _ => cases k1
  · refine Eq.mpr (FR.w0 ..) ?_
    rw [hM]
    have l1 : ilt (Int.ofNat 2000) (Int.ofNat n) = false := by rw [ilt_f]; simp only [iofn]; omega
    have l2 : ilt w (Int.ofNat 1) = false := by rw [ilt_f]; simp only [iofn]; omega
    have l3 : ilt (Int.ofNat 2000) w = false := by rw [ilt_f]; simp only [iofn]; omega
    rw [l1, l2, l3]
    repeat' (first | exact rfl | exact trivial | apply And.intro)
  obtain ⟨k1, k2, k3, k4, k5⟩ := k1
  have A2 : At ρ (hI (cellsR B)) W (S [(1, .slice 1003 0 n cc), (2, .int .i64 w), (3, .ptr 1010 0), (9, .ptr 1012 0)] (hL (cfgL a m c d e f g h i j) (cellsR B) (lastL (laF cs 0)))) a1 w1 := at_less (at_kept A1 (h2 := hL (cfgL a m c d e f g h i j) (cellsR B) (lastL (laF cs 0))) (Nat.le_of_eq k5) (keepL (la := laF cs 0) k2 k3 k4)) (hasT_get k1.1) (Nat.le_of_eq k1.2.1.symm) (fun _ _ h => h) rfl (noDefs_eq k1.2.2).symm
  rw [q4]
  refine wpIn_seq ?_
  rw [q5]
  refine wpIn_seq (at_w (hG none) (hC none) (GF_x none) kxU_ok (sp := sp none) (N := 60) (fn := iFair) (K := KV (inv n cc w (Int.ofNat 0)) (hL (cfgL a m c d e f g h i j) (cellsR B) (lastL (laF cs 0)))) A2 (by refine Eq.mpr (FR.w6 ..) ?_; repeat' (first | exact rfl | exact trivial | apply And.intro)) ok7 fun x st' a4 w4 hK4 A4 => ?_)
  cases x with
  | exit _ => cases hK4
  | ret => cases hK4
  | normal =>
  have A5 := toS A4 hK4.1 hK4.2
  show Code.wpIn Fence.wide k Tryz.prog bl _ a4 w4
  rw [q6]
  refine wpIn_block ?_
  rw [q7]
  refine wpIn_loop_down (fun mm a' w' => ∃ kk, mm = n - kk ∧ kk ≤ n ∧ (∀ j, j < kk → ¬ bad m w (nxt j) (laF cs (j + 1))) ∧ At ρ (hI (cellsR B)) W (S (inv n cc w (Int.ofNat kk)) (hL (cfgL a m c d e f g h i j) (cellsR B) (lastL (laF cs kk)))) a' w') (fun mm a' w' hJ => ?_) (m := n) ⟨0, by omega, by omega, fun j hj => by omega, A5⟩
  obtain ⟨kk, j1, j2, j3, A6⟩ := hJ
  let cl : Option Nat := if kk < n then cs kk else none
  have hcl1 : kk < n → cl = cs kk := fun q => by simp [cl, q]
  have hcl2 : ¬ kk < n → cl = none := fun q => by simp [cl, q]
  refine at_w (hG cl) (hC cl) (GF_x cl) kxU_ok (sp := sp cl) (N := 60) (fn := iFair) A6 (dAll hm (cl := cl) (B := B) (k := kk) (fun q => ?_) hcl2 hn hnn w0 w1' (laF cs kk)) okb fun x st a6 w6 k6 A7 => ?_
  · obtain ⟨o, ho⟩ : ∃ o, B[kk]? = some o := ⟨B[kk], List.getElem?_eq_getElem (by omega)⟩
    exact ⟨o, ho, by rw [hcl1 q]; exact hc kk o ho⟩
  cases x with
  | ret =>
    refine out A7 k6 fun v hv => ?_
    obtain ⟨rfl, hb, hlt⟩ := hv
    rw [hcl1 hlt] at hb
    have : fairB m cs n w = false := fairB_f hlt hb
    rw [this]
  | exit q =>
    obtain ⟨l0, l1, l2⟩ := k6
    rw [T.beq_true] at l1
    subst l1
    have hin : kk = n := by omega
    subst hin
    simp only [XE, Exit.then, Exit.inBlock, if_true]
    show Code.wpIn Fence.wide k Tryz.prog x5 _ a6 w6
    have A8 : At ρ (hI (cellsR B)) W (S [(2, .int .i64 w)] st.h) a6 w6 := at_less A7 (hasT_get l2.1) (Nat.le_of_eq l2.2.1.symm) (fun _ _ h => h) rfl (noDefs_eq l2.2.2).symm
    refine at_w (hG none) (hC none) (GF_x none) kxU_ok (sp := sp none) (N := 60) (fn := iFair) (K := fun x st => match x with | .ret => retIs (fun v => v = .tuple [.bool true, .int .i64 (Int.ofNat 0)]) st | _ => False) A8 (Eq.mpr (FR.w9 ..) rfl) ok5 fun x st' a8 w8 hK8 A9 => ?_
    cases x with
    | normal => cases hK8
    | exit _ => cases hK8
    | ret =>
      refine out A9 hK8 fun v hv => ?_
      have : fairB m cs kk w = true := fairB_t j3
      rw [this]
      exact hv
  | normal =>
    obtain ⟨⟨t1, t2, hlt⟩, l2, l3, l4⟩ := k6
    rw [hcl1 hlt] at t1 t2
    have hw : wr .i64 (Int.add (Int.ofNat kk) (Int.ofNat 1)) = Int.ofNat (kk + 1) := by rw [iofn, iadd, wr64 (by simp only [iofn]; omega) (by simp only [iofn]; omega)]; rfl
    rw [hw] at l2
    have A8 : At ρ (hI (cellsR B)) W ⟨envL 67 (inv n cc w (Int.ofNat (kk + 1))), ⟨(hL (cfgL a m c d e f g h i j) (cellsR B) (lastL (laF cs (kk + 1)))).tr, max st.h.next 1013⟩, []⟩ a6 w6 := at_less (at_kept A7 (h2 := ⟨(hL (cfgL a m c d e f g h i j) (cellsR B) (lastL (laF cs (kk + 1)))).tr, max st.h.next 1013⟩) (Nat.le_max_left _ _) (keepL (la := laF cs (kk + 1)) t1 l3 l4)) (hasT_get l2.1) (Nat.le_of_eq l2.2.1.symm) (fun _ _ h => h) rfl (noDefs_eq l2.2.2).symm
    have A9 := drop (sz := 67) (m := 1013) (l := inv n cc w (Int.ofNat (kk + 1))) (base := (hL (cfgL a m c d e f g h i j) (cellsR B) (lastL (laF cs (kk + 1)))).tr) A8 (Nat.le_refl _) rfl ⟨rfl, rfl, rfl, rfl, rfl, rfl, trivial⟩ (show 1010 ≤ 1013 by omega) (show 1000 ≤ 1010 by omega) (fun b0 o0 hb => by
      refine ⟨?_, ?_, hb⟩
      · rcases hL_get hb with ⟨rfl, _⟩ | ⟨rfl, _⟩ | ⟨rfl, _⟩ <;> omega
      · rcases hL_get hb with ⟨_, rfl⟩ | ⟨_, rfl⟩ | ⟨_, rfl⟩
        · exact okO_last _
        · exact okO_box
        · exact okO_ro _) (fun p hp => by
      simp only [inv, List.mem_cons, List.not_mem_nil, or_false] at hp
      rcases hp with rfl | rfl | rfl | rfl | rfl | rfl <;> rfl)
    refine ⟨n - 1 - kk, by omega, kk + 1, by omega, by omega, fun j hj => ?_, A9⟩
    by_cases q : j = kk
    · subst q; exact t2
    · exact j3 j (by omega)
end FR
end Go.Proofs.YtcbggkejlhifpaaGreatDoor

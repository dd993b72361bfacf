/- BoundBlocks: the loop that builds the script. -/
import Derived.Test.YtcbggkejlhifpaaGreatDoorLb2
namespace Go.Proofs.YtcbggkejlhifpaaGreatDoor
set_option maxRecDepth 100000
set_option maxHeartbeats 2000000
open Go.Ev Go.RowKit
namespace LB
/-- whose turn the operations of a block are -/
def cls : Nat → List (Option Nat)
  | 1 => [some 0, some 4, some 5, none, some 6, some 7]
  | _ => [some 0, some 1, some 4, some 5, none, some 6, some 7]
/-- whose turn the operation at a place is -/
def csB (mm r j : Nat) : Option Nat := (rot r (cls mm)).getD (j % BK.wid mm) none
/-- a script of blocks -/
def Good (mm r : Nat) (cap : Int) (Bs : List OpR) : Prop := ∀ (j : Nat) o, Bs[j]? = some o → ClsP (csB mm r j) mm cap o
theorem blk_len {mm : Nat} (hmm : mm = 1 ∨ mm = 2) {cap : Int} {mk : OpR} {z : Int} : (BK.blk mm cap mk z).length = BK.wid mm := by
  rcases hmm with rfl | rfl <;> rfl
theorem cls_len {mm : Nat} (hmm : mm = 1 ∨ mm = 2) : (cls mm).length = BK.wid mm := by
  rcases hmm with rfl | rfl <;> rfl
theorem rot_len {α : Type} (r : Nat) (l : List α) : (rot r l).length = l.length := by
  simp only [rot, List.length_append, List.length_drop, List.length_take]
  omega
theorem rot_at {α : Type} {r : Nat} {l : List α} (hr : r < l.length) {p : Nat} : (rot r l)[p]? = if p < l.length then l[if p + r < l.length then p + r else p + r - l.length]? else none := by
  unfold rot
  by_cases q : p < l.length - r
  · rw [List.getElem?_append_left (by rw [List.length_drop]; exact q), List.getElem?_drop, if_pos (by omega), if_pos (by omega), Nat.add_comm]
  · rw [List.getElem?_append_right (by rw [List.length_drop]; omega), List.length_drop]
    by_cases q2 : p < l.length
    · rw [if_pos q2, if_neg (by omega), List.getElem?_take_of_lt (by omega)]
      congr 1
      omega
    · rw [if_neg q2]
      exact List.getElem?_eq_none (by rw [List.length_take]; omega)
theorem blk_cls {mm : Nat} (hmm : mm = 1 ∨ mm = 2) {cap : Int} (h1 : 1 ≤ cap) (h2 : cap ≤ 1048576) {mr : MixR} (hm : mixIn mr) {p : Nat} {o : OpR} (h : (BK.blk mm cap (mixF mr.k mr.m mr.a mr.b mr.c mm) mr.c)[p]? = some o) : ClsP ((cls mm).getD p none) mm cap o := by
  obtain ⟨m1, m2, m3, m4, m5⟩ := hm
  have hz : 0 ≤ mr.c % 3 ∧ mr.c % 3 < 3 := by omega
  rcases hmm with rfl | rfl
  · match p, h with
    | 0, h => cases h; exact ⟨rfl, by decide⟩
    | 1, h => cases h; exact ⟨_, by omega, by omega, rfl⟩
    | 2, h => cases h; exact rfl
    | 3, h => cases h; exact ⟨by decide, by decide, _, _, _, _, _, m1, m2, m3, m4, m5, rfl⟩
    | 4, h => cases h; exact ⟨rfl, h1, h2⟩
    | 5, h => cases h; exact rfl
    | p + 6, h => cases h
  · match p, h with
    | 0, h => cases h; exact ⟨rfl, by decide⟩
    | 1, h => cases h; exact ⟨rfl, by decide⟩
    | 2, h => cases h; exact ⟨_, by omega, by omega, rfl⟩
    | 3, h => cases h; exact rfl
    | 4, h => cases h; exact ⟨by decide, by decide, _, _, _, _, _, m1, m2, m3, m4, m5, rfl⟩
    | 5, h => cases h; exact ⟨rfl, h1, h2⟩
    | 6, h => cases h; exact rfl
    | p + 7, h => cases h
/-- one block more -/
theorem good_app {mm : Nat} (hmm : mm = 1 ∨ mm = 2) {r : Nat} (hr : r < BK.wid mm) {cap : Int} (h1 : 1 ≤ cap) (h2 : cap ≤ 1048576) {mr : MixR} (hm : mixIn mr) {Bs : List OpR} {i : Nat} (hl : Bs.length = BK.wid mm * i) (hg : Good mm r cap Bs) : Good mm r cap (Bs ++ rot r (BK.blk mm cap (mixF mr.k mr.m mr.a mr.b mr.c mm) mr.c)) := fun j o ho => by
  have hbl := blk_len hmm (cap := cap) (mk := mixF mr.k mr.m mr.a mr.b mr.c mm) (z := mr.c)
  have hcl := cls_len hmm
  by_cases q : j < Bs.length
  · rw [List.getElem?_append_left q] at ho
    exact hg j o ho
  · rw [List.getElem?_append_right (by omega)] at ho
    have hj : j - Bs.length < BK.wid mm := by
      have := (List.getElem?_eq_some_iff.1 ho).1
      rw [rot_len, hbl] at this
      exact this
    have e : j % BK.wid mm = j - Bs.length := by
      have : j = (j - Bs.length) + BK.wid mm * i := by omega
      rw [this, Nat.add_mul_mod_self_left, Nat.mod_eq_of_lt (by omega)]
      omega
    rw [rot_at (by rw [hbl]; exact hr), hbl, if_pos hj] at ho
    have := blk_cls hmm h1 h2 hm ho
    unfold csB
    rw [e, List.getD_eq_getElem?_getD, rot_at (by rw [hcl]; exact hr), hcl, if_pos hj]
    rw [List.getD_eq_getElem?_getD] at this
    exact this
end LB
end Go.Proofs.YtcbggkejlhifpaaGreatDoor
/-! BoundBlocks: the loop that builds the script: the walk. -/
namespace Go.Proofs.YtcbggkejlhifpaaGreatDoor
set_option maxRecDepth 100000
set_option maxHeartbeats 2000000
open Go.Ev Go.RowKit
namespace LB
theorem toS {ρ0 : Ren} {h0 : H} {w0 : World} {st : St} {a : Act} {w : World} (hA : At ρ0 h0 w0 st a w) {l : List (Nat × V)} {h : H} (hs : hasS l st) (hh : st.h = h) : At ρ0 h0 w0 (S l h) a w := by
  subst hh
  exact at_less hA (hasT_get hs.1) (Nat.le_of_eq hs.2.1.symm) (fun _ _ q => q) rfl (noDefs_eq hs.2.2).symm
theorem mix_o {o : Option O} {mr : MixR} (h : mixX o = some (mixL mr)) : ∃ o', o = some o' ∧ o'.rw = true ∧ ∀ ρ L c', ORel ρ o' L c' → ORel ρ (.cells (some tMix) 5 (mixL mr) .leaf) L c' := by
  unfold mixX at h
  split at h
  · rename_i ee n pat tr
    split at h
    · rename_i h0 hn h1 h2 h3 h4 h5
      have h0 := (T.beq_true).1 h0
      have hn := (T.beq_true).1 hn
      subst h0
      subst hn
      simp only [mixL, Option.some.injEq, List.cons.injEq, and_true] at h
      obtain ⟨rfl, rfl, rfl, rfl, rfl⟩ := h
      refine ⟨_, rfl, rfl, fun ρ L c' ho => ?_⟩
      obtain ⟨cs, el, lo, hi, x1, x2, x3, x4, x5, x6⟩ := ho
      refine ⟨cs, el, lo, hi, x1, x2, x3, x4, x5, x6.1, fun i v x hv hx => ?_⟩
      obtain ⟨hi', hv⟩ := cell_pat hv
      match i, hi', hv with
      | 0, _, hv => cases hv; exact x6.2 0 _ x h1 hx
      | 1, _, hv => cases hv; exact x6.2 1 _ x h2 hx
      | 2, _, hv => cases hv; exact x6.2 2 _ x h3 hx
      | 3, _, hv => cases hv; exact x6.2 3 _ x h4 hx
      | 4, _, hv => cases hv; exact x6.2 4 _ x h5 hx
    · cases h
  · cases h
theorem isBlk : ∃ fn, Tryz.prog.funcs[iBlock]? = some fn ∧ fn.name ≠ "runtime.NumGoroutine" ∧ ∃ c, fn.body = some c := by
  have h : (match Tryz.prog.funcs[iBlock]? with
    | some f => (f.name == "runtime.NumGoroutine") == false && f.body.isSome
    | .none => false) = true := by kernel_rfl
  split at h
  · rename_i f hf
    simp only [Bool.and_eq_true, beq_iff_eq] at h
    refine ⟨f, hf, fun q => ?_, Option.isSome_iff_exists.1 h.2⟩
    rw [q] at h
    exact absurd h.1 (by decide)
  · cases h
theorem tI_lt {o : Option O} {cf : List V} {Bs : List OpR} {i b : Nat} {x : O} (h : (tI o cf Bs i).get b = some x) : b < 1004 := by
  cases i with
  | zero => have := tB_lt h; omega
  | succ i =>
    simp only [tI, tR, T.get_put] at h
    split at h
    · omega
    · have := tB_lt h; omega
/-- memory behind the mix's box -/
theorem keep6 {h' : H} {o : Option O} {cf : List V} {Bs : List OpR} {i : Nat} {mr : MixR} (h1 : mixX (h'.tr.get 1010) = some (mixL mr)) (h2 : h'.tr.get 1002 = some (boxO cf)) (h3 : h'.tr.get 1000 = o) (h4 : match rO Bs i with
    | some x => h'.tr.get 1003 = some x
    | .none => True) (h5 : Go.Ev.has h' (roL gs) = true) : ∀ b0 o0, (tX (tI o cf Bs i) (mixL mr)).get b0 = some o0 → ∃ o', h'.tr.get b0 = some o' ∧ (o0.rw = true → o'.rw = true) ∧ ∀ ρ L c, ORel ρ o' L c → ORel ρ o0 L c := fun b0 o0 hb => by
  have base : (tB o cf).get b0 = some o0 → ∃ o', h'.tr.get b0 = some o' ∧ (o0.rw = true → o'.rw = true) ∧ ∀ ρ L c, ORel ρ o' L c → ORel ρ o0 L c := fun hb => by
    rcases tB_get hb with ⟨rfl, rfl⟩ | hb
    · exact ⟨_, h2, id, fun _ _ _ h => h⟩
    · rcases tA_get hb with ⟨rfl, e⟩ | ⟨_, hb⟩
      · exact ⟨_, h3.trans e, id, fun _ _ _ h => h⟩
      · exact vars_keep h5 hb
  simp only [tX, T.get_put] at hb
  split at hb
  · rename_i q
    cases hb; subst q
    obtain ⟨o', p1, p2, p3⟩ := mix_o h1
    exact ⟨o', p1, fun _ => p2, p3⟩
  · cases i with
    | zero => exact base hb
    | succ i =>
      simp only [tI, tR, T.get_put] at hb
      split at hb
      · rename_i q
        cases hb; subst q
        exact ⟨_, h4, id, fun _ _ _ h => h⟩
      · exact base hb
section
variable {a c d e f g h i j : Int} {mm : Nat} {l : V} {o : Option O} {ms : List MixR} {W : World} {ρ : Ren} {kk : Nat} {Q : Exit → Act → World → Prop} {t q : Nat} {w : Int}
/-- how many -/
def nOf (ms : List MixR) : Nat := 3 + min ms.length 20
theorem nB_eq (n : Nat) : nB n = Int.ofNat (3 + min n 20) := by
  unfold nB
  rw [mn_eq, iadd, wr64 (by simp only [iofn]; omega) (by simp only [iofn]; omega)]
  rfl
theorem e4 (ha : ArgIs l o ms) (hh : H) : evW GL sp 60 r4 none iBlocks (S ([(11, .nils), (10, .int .i64 w)] ++ hd l t q) hh) (KV (inv l t q w .nils (Int.ofNat (nOf ms)) (Int.ofNat 0)) hh) := by
  rcases ha with ⟨rfl, rfl, rfl⟩ | ⟨cc, rfl, rfl⟩ | ⟨cc, rfl, rfl, rfl⟩
  · refine Eq.mpr (LB.w4N ..) ?_
    repeat' (first | exact rfl | exact trivial | apply And.intro)
  · have hn : Int.ofNat (nOf ms) = nB ms.length := (nB_eq _).symm
    rw [hn]
    refine Eq.mpr (LB.w4S ..) ?_
    repeat' (first | exact rfl | exact trivial | apply And.intro)
  · have hn : Int.ofNat (nOf ([] : List MixR)) = nB 0 := (nB_eq _).symm
    rw [hn]
    refine Eq.mpr (LB.w4S ..) ?_
    repeat' (first | exact rfl | exact trivial | apply And.intro)
theorem hd_ok (ha : ArgIs l o ms) {m : Nat} (hm : 1003 ≤ m) : ∀ x, x ∈ hd l t q → okB m x.2 = true := fun x hx => by
  simp only [hd, List.mem_cons, List.not_mem_nil, or_false] at hx
  rcases hx with rfl | rfl | rfl | rfl
  · rcases ha with ⟨rfl, _⟩ | ⟨cc, rfl, _⟩ | ⟨cc, rfl, _⟩
    · rfl
    · exact blt_t.2 (by omega)
    · exact blt_t.2 (by omega)
  · rfl
  · rfl
  · exact blt_t.2 (by omega)
theorem inv_has {r : V} {n k : Int} {L : List (Nat × V)} (hL : L = inv l t q w r n k) : hasT (envL 129 L) [(11, r), (10, .int .i64 w), (31, .int .i64 n), (32, .int .i64 k), (1, l), (2, u t), (3, u q), (9, bP)] := by
  subst hL
  exact ⟨rfl, rfl, rfl, rfl, rfl, rfl, rfl, rfl, trivial⟩
end
end LB
end Go.Proofs.YtcbggkejlhifpaaGreatDoor

/- The evaluator's operations that need no memory. -/
import Derived.Test.YtemanejjmkjfnaaGreatDoorEvA
import Derived.Laws.StructEq
import Derived.LaidEql
set_option maxHeartbeats 1000000
/- The evaluator's computed values are the model's: numbers, strings, comparisons. -/
namespace Go.Ev

theorem pow64 : ((2 : Int) ^ IntKind.i64.bits) = 18446744073709551616 := by decide
theorem pow63 : ((2 : Int) ^ (IntKind.i64.bits - 1)) = 9223372036854775808 := by decide
theorem pow32 : ((2 : Int) ^ IntKind.u32.bits) = 4294967296 := by decide
theorem pow8 : ((2 : Int) ^ IntKind.u8.bits) = 256 := by decide
theorem wrap_i64_pos (m : Nat) (hb : m < 9223372036854775808) : IntKind.wrap .i64 (Int.ofNat m) = Int.ofNat m := by
  unfold IntKind.wrap
  simp only [pow64, pow63, IntKind.signed, Bool.true_and, decide_eq_true_eq, Int.ofNat_eq_natCast]
  split <;> omega
theorem wrap_i64_neg (m : Nat) (hb : m < 9223372036854775808) : IntKind.wrap .i64 (Int.negSucc m) = Int.negSucc m := by
  unfold IntKind.wrap
  simp only [pow64, pow63, IntKind.signed, Bool.true_and, decide_eq_true_eq]
  split <;> omega
theorem wrap_u32_pos (m : Nat) (hb : m < 4294967296) : IntKind.wrap .u32 (Int.ofNat m) = Int.ofNat m := by
  unfold IntKind.wrap
  simp only [pow32, IntKind.signed, Bool.false_and, Bool.false_eq_true, if_false, Int.ofNat_eq_natCast]
  omega
theorem wrap_u8_pos (m : Nat) (hb : m < 256) : IntKind.wrap .u8 (Int.ofNat m) = Int.ofNat m := by
  unfold IntKind.wrap
  simp only [pow8, IntKind.signed, Bool.false_and, Bool.false_eq_true, if_false, Int.ofNat_eq_natCast]
  omega
theorem blt_true {a b : Nat} (h : Nat.blt a b = true) : a < b := Nat.le_of_ble_eq_true h
theorem wr_eq (k : IntKind) (n : Int) : wr k n = k.wrap n := by
  cases k <;> cases n <;> simp only [wr]
  · split
    · rename_i h; exact (wrap_i64_pos _ (blt_true h)).symm
    · simp only []
  · split
    · rename_i h; exact (wrap_i64_neg _ (blt_true h)).symm
    · simp only []
  · split
    · rename_i h; exact (wrap_u8_pos _ (blt_true h)).symm
    · simp only []
  · split
    · rename_i h; exact (wrap_u32_pos _ (blt_true h)).symm
    · simp only []

/-- what a computation over values does: it leaves the world alone -/
def Gives (P : Program) (s : Sem Value) (ρ : Ren) (v : V) : Prop := ∃ c, Rel ρ v c ∧ ∀ w, s.run P w = .ok c w
theorem Gives.mk {P : Program} {s : Sem Value} {ρ : Ren} {v : V} {c : Value} (h : Rel ρ v c) (hs : ∀ w, s.run P w = .ok c w) : Gives P s ρ v := ⟨c, h, hs⟩

theorem tl (s : List UInt8) : (⟨s.toArray⟩ : ByteArray).toList = s := by rw [ByteArray.toList_eq]

section
variable {P : Program} {ρ : Ren}

theorem intBin_gives {op : BinOp} {k : IntKind} {a b : Int} {v : V} (t : TypeId) (h : intBin op k a b = some v) : Gives P (Go.binOp op t (.int k a) (.int k b)) ρ v := by
  cases op <;> simp only [intBin] at h
  case add => cases h; exact .mk (.int _ _) fun w => by rw [wr_eq]; simp [Go.binOp, Op.intArith]
  case sub => cases h; exact .mk (.int _ _) fun w => by rw [wr_eq]; simp [Go.binOp, Op.intArith]; rfl
  case mul => cases h; exact .mk (.int _ _) fun w => by rw [wr_eq]; simp [Go.binOp, Op.intArith]
  case quo =>
    split at h
    · cases h
    · rename_i hb
      have hb : b ≠ 0 := by rw [ieq_eq] at hb; simpa using hb
      cases h; exact .mk (.int _ _) fun w => by rw [wr_eq]; simp [Go.binOp, Op.intDiv, hb]
  case rem =>
    split at h
    · cases h
    · rename_i hb
      have hb : b ≠ 0 := by rw [ieq_eq] at hb; simpa using hb
      cases h; exact .mk (.int _ _) fun w => by simp [Go.binOp, Op.intDiv, hb]
  case and => cases h; exact .mk (.int _ _) fun w => by rw [wr_eq]; simp [Go.binOp, Op.intBits]
  case or => cases h; exact .mk (.int _ _) fun w => by rw [wr_eq]; simp [Go.binOp, Op.intBits]
  case xor => cases h; exact .mk (.int _ _) fun w => by rw [wr_eq]; simp [Go.binOp, Op.intBits]
  case andNot => cases h; exact .mk (.int _ _) fun w => by rw [wr_eq]; simp [Go.binOp, Op.intBits]
  case eql => cases h; exact .mk (.bool _) fun w => by rw [ieq_eq]; simp [Go.binOp, Op.intCmp]; rw [Bool.eq_iff_iff]; simp
  case neq => cases h; exact .mk (.bool _) fun w => by rw [ieq_eq]; simp [Go.binOp, Op.intCmp]; rw [Bool.eq_iff_iff]; simp
  case lss => cases h; exact .mk (.bool _) fun w => by rw [ilt_eq]; simp [Go.binOp, Op.intCmp]
  case leq => cases h; exact .mk (.bool _) fun w => by rw [ilt_eq]; simp [Go.binOp, Op.intCmp]; rw [Bool.eq_iff_iff]; simp
  case gtr => cases h; exact .mk (.bool _) fun w => by rw [ilt_eq]; simp [Go.binOp, Op.intCmp]
  case geq => cases h; exact .mk (.bool _) fun w => by rw [ilt_eq]; simp [Go.binOp, Op.intCmp]; rw [Bool.eq_iff_iff]; simp
  all_goals cases h

theorem shiftBin_gives {op : BinOp} {k k' : IntKind} {a b : Int} {v : V} (t : TypeId) (h : shiftBin op k a b = some v) : Gives P (Go.binOp op t (.int k a) (.int k' b)) ρ v := by
  cases b with
  | negSucc b => simp [shiftBin] at h
  | ofNat b =>
    have h0 : ¬ (Int.ofNat b < 0) := by simp
    cases op <;> simp only [shiftBin] at h
    case shl =>
      cases h; exact .mk (.int _ _) fun w => by
        rw [wr_eq]; simp only [Go.binOp, Op.shift]
        rw [if_neg h0, Sem.run_pure]
        congr 2
    case shr =>
      cases h; exact .mk (.int _ _) fun w => by
        simp only [Go.binOp, Op.shift]
        rw [if_neg h0, Sem.run_pure]
        congr 2
    all_goals cases h

theorem app_bytes (a b : List UInt8) : (⟨a.toArray⟩ : ByteArray) ++ (⟨b.toArray⟩ : ByteArray) = ⟨(a ++ b).toArray⟩ := by
  apply ByteArray.ext
  simp

theorem strBin_gives {op : BinOp} {a b : List UInt8} {v : V} (t : TypeId) (h : strBin op a b = some v) : Gives P (Go.binOp op t (.string ⟨a.toArray⟩) (.string ⟨b.toArray⟩)) ρ v := by
  cases op <;> simp only [strBin] at h
  case add =>
    split at h
    · rename_i hb
      have hb : a.length + b.length ≤ 1000000000 := Nat.le_of_ble_eq_true hb
      cases h
      refine .mk (.str _) fun w => ?_
      have hsz : ¬ (((⟨a.toArray⟩ : ByteArray).size + (⟨b.toArray⟩ : ByteArray).size : Nat) : Int) > IntKind.i64.max := by
        simp [ByteArray.size, IntKind.max, IntKind.signed, IntKind.bits]; omega
      simp only [Go.binOp, Op.stringOp]
      rw [if_neg hsz, Sem.run_pure, app_bytes]
    · cases h
  case eql => cases h; exact .mk (.bool _) fun w => by simp [Go.binOp, Op.stringOp]
  case neq => cases h; exact .mk (.bool _) fun w => by simp [Go.binOp, Op.stringOp]
  case lss => cases h; exact .mk (.bool _) fun w => by simp [Go.binOp, Op.stringOp]
  case leq => cases h; exact .mk (.bool _) fun w => by simp [Go.binOp, Op.stringOp]
  case gtr => cases h; exact .mk (.bool _) fun w => by simp [Go.binOp, Op.stringOp]
  case geq => cases h; exact .mk (.bool _) fun w => by simp [Go.binOp, Op.stringOp]
  all_goals cases h
end

/-- the tables of a program are as the evaluator has them -/
def rowSem : Row → Array Value → Sem Value
  | .clone => Extern.MapsClone.clone
  | .same => Extern.AbiNoEscape.same
structure GOk (P : Program) (G : Γ) : Prop where
  funcs : ∀ f fn, G.funcs.get f = some fn → P.funcs[f]? = some fn ∧ fn.name ≠ "runtime.NumGoroutine"
  types : ∀ t ty, G.ty t = some ty → TYOk P t ty
  eqs : ∀ t, G.eqs.contains t = true → P.eqGuardType P.depth t = false ∧ P.stoodInHeld t = false
  rows : ∀ f r, G.rows f = some r → ∃ fn, P.funcs[f]? = some fn ∧ fn.name ≠ "runtime.NumGoroutine" ∧ fn.body = none ∧ Extern.findNext fn = none ∧ Extern.find fn = some (rowSem r)
  fields : ∀ t ty fs, G.ty t = some ty → ty.desc = .struct fs → ∀ f, f ∈ fs.toList → ∃ ft, G.ty f.type = some ft ∧ f.offset + ft.size ≤ ty.size ∧ (ft.agg = false → 0 < ft.size)
  big : ∀ t ty, G.ty t = some ty → ∃ i z, P.info? t = some i ∧ i.bytes ≤ 1048576 ∧ i.zero = some z ∧ z.cells.size = i.size ∧ ∀ x, x ∈ z.cells.toList → one x = true
  mixed : P.follows .mixedOrders = true

section
variable {P : Program} {G : Γ} (hG : GOk P G) {ρ : Ren}

theorem eqFields_run (hG : GOk P G) {eq : TypeId → V → V → Option Bool} {D : Nat} (heq : ∀ t x y b cx cy, eq t x y = some b → Rel ρ x cx → Rel ρ y cy → ∀ w, (Op.equalIn D t cx cy).run P w = .ok b w)
    {n : Nat} {pat : List V} {tr : T V} {n' : Nat} {pat' : List V} {tr' : T V} {xs ys : Array Value} (hx : AR ρ n pat tr xs) (hy : AR ρ n' pat' tr' ys) :
    ∀ {fs : List Field} {b : Bool}, eqFields G eq n pat tr n' pat' tr' fs = some b → ∀ w, (Op.eqFields D xs ys fs).run P w = .ok b w
  | [], b, h, w => by simp [eqFields] at h; subst h; simp [Op.eqFields]
  | f :: fs, b, h, w => by
    simp only [eqFields] at h
    split at h
    · cases h
    · rename_i hn
      have hn : f.name ≠ "_" := by simpa using hn
      split at h
      · cases h
      · rename_i ft hft
        have ht := hG.types _ _ hft
        split at h
        · rename_i va vb hva hvb
          obtain ⟨ca, ra, sa⟩ := hx.run_part ht hva
          obtain ⟨cb, rb, sb⟩ := hy.run_part ht hvb
          simp only [Op.eqFields, hn, ne_eq, not_false_eq_true, if_true, Sem.run_bind, sa, sb, Result.andThen_ok]
          split at h
          · rename_i he
            rw [heq _ _ _ _ _ _ he ra rb]
            simp only [Result.andThen_ok, Bool.not_true, Bool.false_eq_true, if_false]
            exact eqFields_run hG heq hx hy h w
          · rename_i r hr
            cases b with
            | true => exact absurd h (by intro e; exact hr e)
            | false =>
              rw [heq _ _ _ _ _ _ h ra rb]
              simp
        · cases h

theorem eqElems_run {eq : V → V → Option Bool} {elem : TypeId} {te : TY} (hte : TYOk P elem te) {D : Nat} (heq : ∀ x y b cx cy, eq x y = some b → Rel ρ x cx → Rel ρ y cy → ∀ w, (Op.equalIn D elem cx cy).run P w = .ok b w)
    {n : Nat} {pat : List V} {tr : T V} {n' : Nat} {pat' : List V} {tr' : T V} {xs ys : Array Value} (hx : AR ρ n pat tr xs) (hy : AR ρ n' pat' tr' ys) :
    ∀ {k i : Nat} {b : Bool}, eqElems eq te.agg te.size n pat tr n' pat' tr' i k = some b → ∀ w,
      ((forIn (m := Sem) (List.range' i k) ((none, ()) : Option Bool × Unit) fun i _ => do
        let a ← part elem xs (i * te.size)
        let b ← part elem ys (i * te.size)
        let r ← Op.equalIn D elem a b
        if (!r) = true then pure (.done (some false, ())) else pure (.yield (none, ())))).run P w = .ok (if b then (none, ()) else (some false, ())) w
  | 0, i, b, h, w => by simp [eqElems] at h; subst h; simp
  | k + 1, i, b, h, w => by
    simp only [eqElems] at h
    split at h
    · rename_i va vb hva hvb
      obtain ⟨ca, ra, sa⟩ := hx.run_part hte hva
      obtain ⟨cb, rb, sb⟩ := hy.run_part hte hvb
      have sa' : ∀ w, (part elem xs (i * te.size)).run P w = .ok ca w := sa
      have sb' : ∀ w, (part elem ys (i * te.size)).run P w = .ok cb w := sb
      rw [List.range'_succ, List.forIn_cons]
      simp only [Sem.run_bind, sa', sb', Result.andThen_ok]
      split at h
      · rename_i he
        rw [heq _ _ _ _ _ he ra rb]
        simp only [Result.andThen_ok, Bool.not_true, Bool.false_eq_true, if_false, Sem.run_pure]
        exact eqElems_run hte heq hx hy h w
      · rename_i r hr
        cases b with
        | true => exact absurd h (by intro e; exact hr e)
        | false =>
          rw [heq _ _ _ _ _ h ra rb]
          simp
    · cases h
end
end Go.Ev
/- The evaluator's '==' is the model's. -/
namespace Go.Ev
section
variable {P : Program} {G : Γ} (hG : GOk P G) {ρ : Ren}

set_option maxHeartbeats 4000000 in
theorem eqO_run (hG : GOk P G) : ∀ (d D : Nat), d ≤ D → ∀ (t : TypeId) (x y : V) (b : Bool) (cx cy : Value), eqO G d t x y = some b → Rel ρ x cx → Rel ρ y cy → ∀ w, (Op.equalIn D t cx cy).run P w = .ok b w := by
  intro d
  induction d with
  | zero => intro D _ t x y b cx cy h; simp [eqO] at h
  | succ d ih =>
    intro D hD t x y b cx cy h hx hy w
    obtain ⟨D, rfl⟩ : ∃ D', D = D' + 1 := ⟨D - 1, by omega⟩
    simp only [eqO] at h
    split at h
    · cases h
    · rename_i ty hty
      have ht := hG.types _ _ hty
      have hu := ht.under
      have ru : ∀ w, (underlying t).run P w = .ok ty.desc w := fun w => ht.run_underlying w
      split at h
      · rename_i e; cases h; cases hx; cases hy; exact run_equalIn_bool' w D t _ _ (by rw [hu, e])
      · rename_i e
        split at h
        · rename_i hk
          have hk := of_decide_eq_true hk
          subst hk
          cases h; cases hx; cases hy
          rw [run_equalIn_int w D t _ _ _ _ (by rw [hu, e])]
          rw [ieq_eq]
          congr 1
        · cases h
      · rename_i e; cases h; cases hx; cases hy
        rw [run_equalIn_string w D t _ _ (by rw [hu, e]), tl, tl]
      · rename_i e; cases h; cases hx; cases hy; simp [Op.equalIn, ru, e]
      · rename_i e; cases h; cases hx; cases hy; simp [Op.equalIn, ru, e]
      · rename_i e; cases h; cases hx; cases hy; simp [Op.equalIn, ru, e]
      · rename_i te b1 o1 b2 o2 e
        split at h
        · rename_i tt hb hte
          simp only [Bool.and_eq_true, T.beq_true] at hb
          obtain ⟨rfl, rfl⟩ := hb
          cases h
          obtain ⟨j, j1, _⟩ := (hG.types _ _ hte).info
          cases hx with
          | ptr h1 =>
            cases hy with
            | ptr h2 =>
              rw [h1] at h2; cases h2
              simp [Op.equalIn, ru, e, sizeOf, typeInfo, j1, run_sameAddr_same]
        · cases h
      · rename_i e; cases h; cases hx; cases hy; simp [Op.equalIn, ru, e]
      · rename_i e; cases h; cases hx; cases hy; simp [Op.equalIn, ru, e]
      · rename_i fs n pat tr n' pat' tr' e
        split at h
        · rename_i he
          obtain ⟨xs, rfl, ax⟩ := hx.ar
          obtain ⟨ys, rfl, ay⟩ := hy.ar
          have hf : P.fieldsOf t = fs := by simp [Program.fieldsOf, hu, e]
          rw [run_equalIn_struct w D t xs ys (by rw [hf, hu, e]) (hG.eqs t he).2, hf]
          exact eqFields_run hG (fun t' x y b cx cy h1 h2 h3 => ih D (by omega) t' x y b cx cy h1 h2 h3) ax ay h w
        · cases h
      · rename_i len elem n pat tr n' pat' tr' e
        split at h
        · rename_i te he hte
          obtain ⟨xs, rfl, ax⟩ := hx.ar
          obtain ⟨ys, rfl, ay⟩ := hy.ar
          have hte := hG.types _ _ hte
          have key := eqElems_run hte (fun x y b cx cy h1 h2 h3 => ih D (by omega) elem x y b cx cy h1 h2 h3) ax ay h w
          simp only [Op.equalIn, Sem.run_bind, ru, e, Result.andThen_ok, hte.run_sizeOf]
          rw [Std.Legacy.Range.forIn_eq_forIn_range']
          simp only [Std.Legacy.Range.size, Nat.sub_zero, Nat.add_sub_cancel, Nat.div_one]
          rw [key]
          cases b <;> simp
        · cases h
      · rename_i e; cases h; cases hx; cases hy; simp [Op.equalIn, ru, e]
      · rename_i e; cases h; cases hx; cases hy <;> simp [Op.equalIn, ru, e]
      · rename_i e; cases h; cases hy; cases hx <;> simp [Op.equalIn, ru, e]
      · rename_i e; cases h; cases hx; cases hy; simp [Op.equalIn, ru, e]
      · rename_i e; cases h; cases hx; cases hy; simp [Op.equalIn, ru, e]
      · rename_i e; cases h; cases hx; cases hy; simp [Op.equalIn, ru, e]
      · rename_i e; cases h; cases hx; cases hy; simp [Op.equalIn, ru, e]
      · rename_i e; cases h; cases hx; cases hy <;> simp [Op.equalIn, ru, e]
      · rename_i e; cases h; cases hy; cases hx <;> simp [Op.equalIn, ru, e]
      · cases h
end
end Go.Ev
/- The evaluator's computed values are the model's: the operations that need no memory, 1. -/
namespace Go.Ev

/-- pairs of values that '==' takes by their type (not two integers, not two strings, not two nil interfaces) -/
def pair2 : Value → Value → Bool
  | .bool _, .bool _ => true
  | .pointer _, .pointer _ => true
  | .nilIface, .iface _ _ => true
  | .iface _ _, .nilIface => true
  | .agg _, .agg _ => true
  | .slice .., .slice .. => true
  | .map _, .map _ => true
  | .nilFunc, .nilFunc => true
  | .nilFunc, .func .. => true
  | .func .., .nilFunc => true
  | _, _ => false
def isAgg2 : Value → Value → Bool
  | .agg _, .agg _ => true
  | _, _ => false

section
variable {P : Program}
theorem bin_eql_pair {t : TypeId} {cx cy : Value} (h : pair2 cx cy = true) (hp : ∀ a b, cx = .pointer (some a) → cy = .pointer (some b) → False) (w : World) :
    (Go.binOp .eql t cx cy).run P w = ((Op.equal t cx cy).run P w).andThen (fun b w => .ok (.bool b) w) := by
  cases cx <;> cases cy <;> first
    | (simp [pair2] at h; done)
    | (simp only [Go.binOp, Sem.run_bind, Sem.run_pure]; done)
    | skip
theorem bin_neq_pair {t : TypeId} {cx cy : Value} (h : pair2 cx cy = true) (w : World) :
    (Go.binOp .neq t cx cy).run P w = ((Op.equal t cx cy).run P w).andThen (fun b w => .ok (.bool (!b)) w) := by
  cases cx <;> cases cy <;> first
    | (simp [pair2] at h; done)
    | (simp only [Go.binOp, Sem.run_bind, Sem.run_pure]; done)
    | skip
theorem guard_pair {op : BinOp} {t : TypeId} {X Y : Operand} {cx cy : Value} (h : pair2 cx cy = true) (hg : isAgg2 cx cy = true → P.eqGuardType P.depth t = false) (w : World) :
    (eqGuard op t X Y cx cy).run P w = .ok () w := by
  by_cases ha : isAgg2 cx cy = true
  · cases cx <;> cases cy <;> first
      | (simp [isAgg2] at ha; done)
      | exact run_eqGuard_agg w op t X Y _ _ (hg ha)
  · cases cx <;> cases cy <;> first
      | (simp [pair2] at h; done)
      | (simp [isAgg2] at ha; done)
      | (cases op <;> simp [eqGuard])
end

theorem equalIn_nils {P : Program} {t : TypeId} {ms : Array (String × TypeId)} (D : Nat) (h : P.underlying t = some (.interface ms)) (w : World) : (Op.equalIn (D + 1) t .nilIface .nilIface).run P w = .ok true w := by
  simp [Op.equalIn, Go.run_underlying h]
theorem guard_nil {P : Program} {op : BinOp} {t : TypeId} {X Y : Operand} (h : (isConst X || isConst Y) = true) (w : World) : (eqGuard op t X Y .nilIface .nilIface).run P w = .ok () w := by
  cases X <;> cases Y <;> first
    | (simp [isConst] at h; done)
    | (cases op <;> simp [eqGuard])

section
variable {P : Program} {G : Γ} (hG : GOk P G) {ρ : Ren}
theorem eqO_pair (hG : GOk P G) {d : Nat} {t : TypeId} {x y : V} {b : Bool} {cx cy : Value} (h : eqO G d t x y = some b) (hx : Rel ρ x cx) (hy : Rel ρ y cy)
    (hi : ∀ k a k' a', x = .int k a → y = .int k' a' → False) (hs : ∀ a a', x = .str a → y = .str a' → False) :
    pair2 cx cy = true ∧ (isAgg2 cx cy = true → P.eqGuardType P.depth t = false) := by
  cases d with
  | zero => simp [eqO] at h
  | succ d =>
    simp only [eqO] at h
    split at h
    · cases h
    · split at h
      · cases hx; cases hy; simp [pair2, isAgg2]
      · exact absurd rfl (fun e => hi _ _ _ _ e rfl)
      · exact absurd rfl (fun e => hs _ _ e rfl)
      · cases hx; cases hy; simp [pair2, isAgg2]
      · cases hx; cases hy; simp [pair2, isAgg2]
      · cases hx; cases hy; simp [pair2, isAgg2]
      · split at h
        · cases hx; cases hy; simp [pair2, isAgg2]
        · cases h
      · cases hx; cases hy; simp [pair2, isAgg2]
      · cases hx; cases hy; simp [pair2, isAgg2]
      · split at h
        · rename_i he
          obtain ⟨xs, rfl, _⟩ := hx.ar
          obtain ⟨ys, rfl, _⟩ := hy.ar
          exact ⟨rfl, fun _ => (hG.eqs t he).1⟩
        · cases h
      · split at h
        · rename_i he _
          obtain ⟨xs, rfl, _⟩ := hx.ar
          obtain ⟨ys, rfl, _⟩ := hy.ar
          exact ⟨rfl, fun _ => (hG.eqs t he).1⟩
        · cases h
      · cases hx; cases hy; simp [pair2, isAgg2]
      · cases hx; cases hy <;> simp [pair2, isAgg2]
      · cases hy; cases hx <;> simp [pair2, isAgg2]
      · cases hx; cases hy; simp [pair2, isAgg2]
      · cases hx; cases hy; simp [pair2, isAgg2]
      · cases hx; cases hy; simp [pair2, isAgg2]
      · cases hx; cases hy; simp [pair2, isAgg2]
      · cases hx; cases hy <;> simp [pair2, isAgg2]
      · cases hy; cases hx <;> simp [pair2, isAgg2]
      · cases h

theorem pBin_gives (hG : GOk P G) {op : BinOp} {t : TypeId} {X Y : Operand} {x y : Option V} {v : V} {cx cy : Value} (h : pBin G op t (isConst X || isConst Y) x y = some v)
    (hx : ∀ a, x = some a → Rel ρ a cx) (hy : ∀ a, y = some a → Rel ρ a cy) :
    Gives P (do eqGuard op t X Y cx cy; Go.binOp op t cx cy) ρ v := by
  unfold pBin at h
  split at h
  · -- nil, nil
    have h1 := hx _ rfl
    have h2 := hy _ rfl
    cases h1; cases h2
    unfold nilBin at h
    split at h
    · rename_i hc hty
      have ht := hG.types _ _ hty
      have hg : ∀ w, (eqGuard op t X Y .nilIface .nilIface).run P w = .ok () w := by
        intro w
        exact guard_nil hc w
      split at h
      · rename_i e
        cases h
        refine .mk (.bool _) fun w => ?_
        simp only [Sem.run_bind, hg, Result.andThen_ok, Go.binOp, Op.equal, Op.maxDepth]
        rw [equalIn_nils 9999 (by rw [ht.under, e])]
        rfl
      · rename_i e
        cases h
        refine .mk (.bool _) fun w => ?_
        simp only [Sem.run_bind, hg, Result.andThen_ok, Go.binOp, Op.equal, Op.maxDepth]
        rw [equalIn_nils 9999 (by rw [ht.under, e])]
        rfl
      · cases h
    · cases h
  · have h1 := hx _ rfl
    have h2 := hy _ rfl
    cases h1; cases h2
    have hg : ∀ k a k' b w, (eqGuard op t X Y (.int k a) (.int k' b)).run P w = .ok () w := by
      intro k a k' b w; cases op <;> simp [eqGuard]
    split at h
    · obtain ⟨c, r, s⟩ := shiftBin_gives (P := P) (ρ := ρ) t h
      exact .mk r fun w => by simp only [Sem.run_bind, hg, Result.andThen_ok]; exact s w
    · obtain ⟨c, r, s⟩ := shiftBin_gives (P := P) (ρ := ρ) t h
      exact .mk r fun w => by simp only [Sem.run_bind, hg, Result.andThen_ok]; exact s w
    · split at h
      · rename_i hk
        have hk := of_decide_eq_true hk
        subst hk
        obtain ⟨c, r, s⟩ := intBin_gives (P := P) (ρ := ρ) t h
        exact .mk r fun w => by simp only [Sem.run_bind, hg, Result.andThen_ok]; exact s w
      · cases h
  · have h1 := hx _ rfl
    have h2 := hy _ rfl
    cases h1; cases h2
    have hg : ∀ a b w, (eqGuard op t X Y (.string a) (.string b)).run P w = .ok () w := by
      intro a b w; cases op <;> simp [eqGuard]
    obtain ⟨c, r, s⟩ := strBin_gives (P := P) (ρ := ρ) t h
    exact .mk r fun w => by simp only [Sem.run_bind, hg, Result.andThen_ok]; exact s w
  · rename_i x y hn hi hs
    have h1 := hx _ rfl
    have h2 := hy _ rfl
    have hi' : ∀ k a k' a', x = .int k a → y = .int k' a' → False := fun k a k' a' e1 e2 => by subst e1; subst e2; exact hi _ _ _ _ rfl rfl
    have hs' : ∀ a a', x = .str a → y = .str a' → False := fun a a' e1 e2 => by subst e1; subst e2; exact hs _ _ rfl rfl
    split at h
    · split at h
      · rename_i b hp hb
        cases h
        obtain ⟨p1, p2⟩ := eqO_pair hG hb h1 h2 hi' hs'
        refine .mk (.bool _) fun w => ?_
        simp only [Sem.run_bind, guard_pair p1 p2, Result.andThen_ok]
        rw [bin_eql_pair p1 (fun a a' e1 e2 => ?_), Op.equal, Op.maxDepth, eqO_run hG 8 10000 (by omega) _ _ _ _ _ _ hb h1 h2]
        · rfl
        · subst e1; subst e2
          cases h1; cases h2
          simp [ptr2] at hp
      · cases h
    · split at h
      · rename_i b hb
        cases h
        obtain ⟨p1, p2⟩ := eqO_pair hG hb h1 h2 hi' hs'
        refine .mk (.bool _) fun w => ?_
        simp only [Sem.run_bind, guard_pair p1 p2, Result.andThen_ok]
        rw [bin_neq_pair p1, Op.equal, Op.maxDepth, eqO_run hG 8 10000 (by omega) _ _ _ _ _ _ hb h1 h2]
        rfl
      · cases h
    · cases h
  · cases h
end
end Go.Ev
/- The evaluator's computed values are the model's: the operations that need no memory, 2. -/
namespace Go.Ev

theorem foldl_set (off : Nat) : ∀ (xs : List Value) (k : Nat) (cs : Array Value),
    ((xs.zipIdx k).foldl (fun cs (p : Value × Nat) => cs.setIfInBounds (off + p.2) p.1) cs).size = cs.size ∧
    ∀ i, ((xs.zipIdx k).foldl (fun cs (p : Value × Nat) => cs.setIfInBounds (off + p.2) p.1) cs)[i]? = if off + k ≤ i ∧ i < off + k + xs.length ∧ i < cs.size then xs[i - (off + k)]? else cs[i]?
  | [], k, cs => by
    refine ⟨by simp, fun i => ?_⟩
    simp only [List.zipIdx_nil, List.foldl_nil, List.length_nil]
    rw [if_neg (by omega)]
  | x :: xs, k, cs => by
    obtain ⟨h1, h2⟩ := foldl_set off xs (k + 1) (cs.setIfInBounds (off + k) x)
    simp only [List.zipIdx_cons, List.foldl_cons]
    refine ⟨by rw [h1]; simp, fun i => ?_⟩
    rw [h2]
    simp only [Array.size_setIfInBounds, List.length_cons]
    by_cases hi : off + (k + 1) ≤ i ∧ i < off + (k + 1) + xs.length ∧ i < cs.size
    · rw [if_pos hi, if_pos (by omega), show i - (off + k) = (i - (off + (k + 1))) + 1 by omega, List.getElem?_cons_succ]
    · rw [if_neg hi]
      by_cases e : i = off + k
      · subst e
        by_cases hl : off + k < cs.size
        · rw [if_pos (by omega), show off + k - (off + k) = 0 by omega]
          simp [hl]
        · rw [if_neg (by omega)]
          simp [hl]
      · rw [if_neg (by omega), Array.getElem?_setIfInBounds_ne (by omega)]
theorem foldl_set' (off : Nat) (xs cs : Array Value) :
    (xs.zipIdx.foldl (fun cs (p : Value × Nat) => cs.setIfInBounds (off + p.2) p.1) cs).size = cs.size ∧
    ∀ i, (xs.zipIdx.foldl (fun cs (p : Value × Nat) => cs.setIfInBounds (off + p.2) p.1) cs)[i]? = if off ≤ i ∧ i < off + xs.size ∧ i < cs.size then xs[i - off]? else cs[i]? := by
  rw [← Array.foldl_toList, Array.toList_zipIdx]
  have := foldl_set off xs.toList 0 cs
  simpa using this

/-- operands that the evaluator knows are what it says -/
def OpR (ρ : Ren) (e : Operand → Option V) (f : Operand → Value) : Prop := ∀ x v, e x = some v → Rel ρ v (f x)

theorem fillA_fill {ρ : Ren} {e : Operand → Option V} {f : Operand → Value} (hef : OpR ρ e f) {pl : Nat → Option (Nat × Nat)} {place : Nat → Option (Nat × Nat)} (hpl : ∀ i L, pl i = some L → place i = some L)
    {n : Nat} {pat : List V} : ∀ {parts : List (Nat × Operand)} {tr tr' : T V} {cs : Array Value}, fillA pl e n parts tr = some tr' → AR ρ n pat tr cs →
      ∃ cs', Instr.fill place cs (parts.map fun p => (p.1, f p.2)) = some cs' ∧ AR ρ n pat tr' cs'
  | [], tr, tr', cs, h, ha => by simp [fillA] at h; subst h; exact ⟨cs, rfl, ha⟩
  | p :: rest, tr, tr', cs, h, ha => by
    simp only [fillA] at h
    split at h
    · rename_i off size v hp hv
      split at h
      · rename_i tr1 ht
        have hr := hef _ _ hv
        obtain ⟨c1, c2, c3⟩ := putPart_spec ht hr ha.one ha.rel
        have hsz := ha.size
        obtain ⟨f1, f2⟩ := foldl_set' off (f p.2).cells cs
        have ha' := c3 ((f p.2).cells.zipIdx.foldl (fun cs (p : Value × Nat) => cs.setIfInBounds (off + p.2) p.1) cs) (by rw [f1, hsz]) (fun i => by
          rw [f2 i]
          by_cases hi : off ≤ i ∧ i < off + size
          · rw [if_pos hi, if_pos (by omega)]
          · rw [if_neg hi, if_neg (by omega)])
        obtain ⟨cs', h1, h2⟩ := fillA_fill hef hpl h ha'
        refine ⟨cs', ?_, h2⟩
        simp only [List.map_cons, Instr.fill, hpl _ _ hp]
        have : ¬ (((f p.2).cells.size ≠ size || decide (off + (f p.2).cells.size > cs.size)) = true) := by
          simp; omega
        rw [if_neg this]
        exact h1
      · cases h
    · cases h

section
variable {P : Program} {G : Γ} (hG : GOk P G) {ρ : Ren}

theorem pPick_rel {c a b : Option V} {v : V} {cc ca cb : Value} (h : pPick c a b = some v) (hc : ∀ x, c = some x → Rel ρ x cc) (ha : ∀ x, a = some x → Rel ρ x ca) (hb : ∀ x, b = some x → Rel ρ x cb) :
    Gives P (do pure (if ← asBool cc then ca else cb)) ρ v := by
  unfold pPick at h
  split at h
  · have := hc _ rfl; cases this; exact .mk (ha v h) fun w => by simp [asBool]
  · have := hc _ rfl; cases this; exact .mk (hb v h) fun w => by simp [asBool]
  · cases h
theorem pUn_gives {op : UnOp} {x : Option V} {v : V} {cx : Value} (h : pUn op x = some v) (hx : ∀ a, x = some a → Rel ρ a cx) : Gives P (Op.unary op cx) ρ v := by
  unfold pUn at h
  split at h
  · have := hx _ rfl; cases this; cases h; exact .mk (.bool _) fun w => by simp [Op.unary]
  · have := hx _ rfl; cases this; cases h; exact .mk (.int _ _) fun w => by
      have e0 : ∀ m : Int, Int.sub 0 m = -m := fun m => Int.zero_sub m
      rw [wr_eq]; simp [Op.unary, Op.intArith, e0]
  · have := hx _ rfl; cases this; cases h; exact .mk (.int _ _) fun w => by rw [wr_eq]; simp [Op.unary, Op.intBits]
  · cases h
theorem pNil_gives {x : Option V} {v : V} {cx : Value} (h : pNil x = some v) (hx : ∀ a, x = some a → Rel ρ a cx) (o : Oper) (f : Operand → Value) (X : Operand) (ho : o.op = .nilCheck X) (hX : f X = cx) :
    ∃ c, Rel ρ v c ∧ ∀ w, (execOp f o).run P w = .ok (.value c) w := by
  unfold pNil at h
  split at h
  · have h1 := hx _ rfl; cases h; cases h1 with
    | ptr hb => exact ⟨_, .ptr hb, fun w => by simp [execOp, ho, hX]⟩
  · have h1 := hx _ rfl; cases h; cases h1 with
    | func _ a b c d => exact ⟨_, .func _ a b c d, fun w => by simp [execOp, ho, hX]⟩
  · cases h
theorem pFunc_gives {e : Operand → Option V} {f : Operand → Value} (hef : OpR ρ e f) {fn : Fn} {first captured : Array Operand} {v : V} (h : pFunc e fn first.toList captured.toList = some v) :
    Gives P (Instr.makeFunc fn (first.map f) (captured.map f)) ρ v := by
  unfold pFunc at h
  split at h
  · split at h
    · rename_i a b ha hb
      cases h
      obtain ⟨a1, a2⟩ := optAll_eq ha
      obtain ⟨b1, b2⟩ := optAll_eq hb
      refine .mk (.func _ (by simp [a1]) (by simp [b1]) (fun i v x h1 h2 => ?_) (fun i v x h1 h2 => ?_)) fun w => rfl
      · simp only [Array.getElem?_map, Option.map_eq_some_iff] at h2
        obtain ⟨y, hy, rfl⟩ := h2
        exact hef _ _ (a2 i y v (by simpa using hy) h1)
      · simp only [Array.getElem?_map, Option.map_eq_some_iff] at h2
        obtain ⟨y, hy, rfl⟩ := h2
        exact hef _ _ (b2 i y v (by simpa using hy) h1)
    · cases h
  · cases h
theorem pExtract_gives {x : Option V} {i : Nat} {v : V} {cx : Value} (h : pExtract x i = some v) (hx : ∀ a, x = some a → Rel ρ a cx) : Gives P (Instr.extract cx i) ρ v := by
  unfold pExtract at h
  split at h
  · have h1 := hx _ rfl
    cases h1 with
    | tuple h2 h3 =>
      rename_i cs
      rw [nth_eq] at h
      have hl := (List.getElem?_eq_some_iff.1 h).1
      have hlt : i < cs.size := by omega
      exact .mk (h3 i v cs[i] h (by simp [hlt])) fun w => by simp [Instr.extract, hlt]
  · cases h

theorem pConv_gives (hG : GOk P G) {s d : TypeId} {x : Option V} {v : V} {cx : Value} (h : pConv (G.ty s) (G.ty d) x = some v) (hx : ∀ a, x = some a → Rel ρ a cx) : Gives P (Go.convert s d cx) ρ v := by
  unfold pConv at h
  split at h
  · rename_i hs hd
    have h1 := hx _ rfl; cases h1
    split at h
    · rename_i e
      cases h
      exact .mk (.int _ _) fun w => by rw [wr_eq]; simp [Go.convert, (hG.types _ _ hs).run_underlying, (hG.types _ _ hd).run_underlying, e, Conv.intToInt]
    · cases h
  · rename_i hs hd
    have h1 := hx _ rfl; cases h1
    split at h
    · rename_i e
      cases h
      exact .mk (.str _) fun w => by simp [Go.convert, (hG.types _ _ hs).run_underlying, (hG.types _ _ hd).run_underlying, e]
    · cases h
  · cases h
theorem pIface_gives (hG : GOk P G) {t : TypeId} {x : Option V} {v : V} {cx : Value} (h : pIface t (G.ty t) x = some v) (hx : ∀ a, x = some a → Rel ρ a cx) : Gives P (Instr.makeInterface t cx) ρ v := by
  unfold pIface at h
  split at h
  · rename_i ty u hty
    split at h
    · cases h
    · rename_i hne
      cases h
      refine .mk (.iface t (hx _ rfl)) fun w => ?_
      simp only [Instr.makeInterface, Sem.run_bind, (hG.types _ _ hty).run_underlying, Result.andThen_ok]
      cases hd : ty.desc <;> first
        | rfl
        | exact absurd hd (hne _)
  · cases h
theorem pFieldAddr_gives (hG : GOk P G) {t : TypeId} {x : Option V} {f : Nat} {v : V} {cx : Value} (h : pFieldAddr G (G.ty t) x f = some v) (hx : ∀ a, x = some a → Rel ρ a cx) : Gives P (Instr.fieldAt t cx f) ρ v := by
  unfold pFieldAddr at h
  split at h
  · rename_i ty b o hty
    have h1 := hx _ rfl
    cases h1 with
    | ptr hb =>
      rename_i B d z
      split at h
      · rename_i fs e
        split at h
        · rename_i fd hfd
          split at h
          · rename_i ft hft
            split at h
            · rename_i h0
              cases h
              have h0 : ft.size ≠ 0 := fun e => by rw [e] at h0; simp at h0
              have hg : fs[f]? = some fd := by simpa using hfd
              refine .mk (.ptr hb) fun w => ?_
              simp only [Instr.fieldAt, Sem.run_bind, (hG.types _ _ hty).run_underlying, e, Result.andThen_ok, hg, Instr.sureAddr, Sem.run_pure, fieldPlace, (hG.types _ _ hft).run_sizeOf, h0, if_false, Addr.add]
              by_cases hz : fd.offset = 0
              · simp [hz]
              · simp [hz, Nat.add_assoc]
            · cases h
          · cases h
        · cases h
      · cases h
  · cases h
theorem pField_gives (hG : GOk P G) {t : TypeId} {x : Option V} {f : Nat} {v : V} {cx : Value} (h : pField G (G.ty t) x f = some v) (hx : ∀ a, x = some a → Rel ρ a cx) : Gives P (Instr.field t cx f) ρ v := by
  unfold pField at h
  split at h
  · rename_i ty n pat tr hty
    obtain ⟨cs, rfl, ha⟩ := (hx _ rfl).ar
    split at h
    · rename_i fs e
      split at h
      · rename_i fd hfd
        split at h
        · rename_i ft hft
          obtain ⟨c, r, s⟩ := ha.run_part (hG.types _ _ hft) h
          have hg : fs[f]? = some fd := by simpa using hfd
          exact .mk r fun w => by simp [Instr.field, (hG.types _ _ hty).run_underlying, e, hg, asAgg, s]
        · cases h
      · cases h
    · cases h
  · cases h
end
end Go.Ev
/- The evaluator's computed values are the model's: the operations that need no memory, 3: indexes, slices, builds, assertions. -/
namespace Go.Ev

theorem bnd_run {e : Operand → Option V} {f : Operand → Value} {ρ : Ren} (hef : OpR ρ e f) {P : Program} {x : Operand} {d hi r : Nat} (h : bnd (some x) e d hi = some r) (Hi : Nat) (hH : hi ≤ Hi) (code : BoundsCode) :
    r ≤ hi ∧ ∀ w, (Instr.sliceBound (f x) Hi code).run P w = .ok r w := by
  unfold bnd at h
  simp only at h
  split at h
  · rename_i k n hn
    have hr := hef _ _ hn
    obtain ⟨h1, h2⟩ := idx_eq h
    have h3 : r ≤ hi := by omega
    refine ⟨h3, fun w => ?_⟩
    cases hv : f x with
    | int k' n' =>
      rw [hv] at hr
      cases hr
      simp only [Instr.sliceBound, asIntOf, Sem.run_bind, Sem.run_pure, Result.andThen_ok]
      rw [if_pos (by omega)]
      simp; omega
    | _ => rw [hv] at hr; cases hr
  · cases h

/-- the three bounds of a slice expression, at a capacity that is at least the one that the evaluator knows -/
theorem bnds_run {e : Operand → Option V} {f : Operand → Value} {ρ : Ren} (hef : OpR ρ e f) {P : Program} {lo hi mx : Option Operand} {len cap l h m : Nat} (hb : bnds e lo hi mx len cap = some (l, h, m))
    (hmh : ∀ a, mx = some a → hi ≠ none) (isS : Bool) (K : Nat) (hK : cap ≤ K) :
    (mx = none → m = cap) ∧ m ≤ cap ∧ (hi ≠ none → h ≤ m) ∧ l ≤ h ∧ (hi = none → h = len) ∧ ∀ w, (Instr.sliceBounds isS len K (lo.map f) (hi.map f) (mx.map f)).run P w = .ok (l, h, if mx = none then K else m) w := by
  unfold bnds at hb
  split at hb
  · rename_i m' hm
    split at hb
    · rename_i h' hh
      split at hb
      · rename_i l' hl
        simp only [Option.some.injEq, Prod.mk.injEq] at hb
        obtain ⟨rfl, rfl, rfl⟩ := hb
        have low : ∀ code w (A B : Nat), l' ≤ h' ∧ (match lo.map f with
            | some v => do let l ← Instr.sliceBound v h' code; pure (l, A, B)
            | none => do let l ← pure 0; pure (l, A, B) : Sem (Nat × Nat × Nat)).run P w = .ok (l', A, B) w := by
          intro code w A B
          cases lo with
          | none => simp [bnd] at hl; subst hl; simp
          | some x => obtain ⟨a, b⟩ := bnd_run hef (P := P) hl h' (Nat.le_refl _) code; exact ⟨a, by simp [b w]⟩
        cases mx with
        | none =>
          simp [bnd] at hm; subst hm
          cases hi with
          | none =>
            simp [bnd] at hh; subst hh
            refine ⟨fun _ => rfl, Nat.le_refl _, fun h => absurd rfl h, (low .sliceB default 0 0).1, fun _ => rfl, fun w => ?_⟩
            have := fun A B => (low .sliceB w A B).2
            simp only [Instr.sliceBounds, Option.map_none, Sem.run_bind, Sem.run_pure, Result.andThen_ok, Option.isSome_none, Bool.false_eq_true, if_false, if_true]
            exact this _ _
          | some y =>
            obtain ⟨a, b⟩ := bnd_run hef (P := P) hh K hK (if isS = true then .sliceAcap else .sliceAlen)
            refine ⟨fun _ => rfl, Nat.le_refl _, fun _ => a, (low .sliceB default 0 0).1, fun h => by simp at h, fun w => ?_⟩
            have := fun A B => (low .sliceB w A B).2
            simp only [Instr.sliceBounds, Option.map_none, Option.map_some, Sem.run_bind, Sem.run_pure, Result.andThen_ok, Option.isSome_none, Bool.false_eq_true, if_false, if_true]
            rw [b w]
            simp only [Result.andThen_ok]
            exact this _ _
        | some z =>
          obtain ⟨a, b⟩ := bnd_run hef (P := P) hm K hK (if isS = true then .slice3Acap else .slice3Alen)
          cases hi with
          | none => exact absurd rfl (hmh z rfl)
          | some y =>
            obtain ⟨a', b'⟩ := bnd_run hef (P := P) hh m' (Nat.le_refl _) .slice3B
            refine ⟨fun h => by simp at h, a, fun _ => a', (low .slice3C default 0 0).1, fun h => by simp at h, fun w => ?_⟩
            have := fun A B => (low .slice3C w A B).2
            simp only [Instr.sliceBounds, Option.map_some, Sem.run_bind, Option.isSome_some, if_true]
            rw [b w]
            simp only [Result.andThen_ok]
            rw [b' w]
            simp only [Result.andThen_ok]
            exact this _ _
      · cases hb
    · cases hb
  · cases hb

theorem moved_add (B d o l s m : Nat) : (if m = l then (⟨B, d + o, none⟩ : Addr) else (⟨B, d + o, none⟩ : Addr).add (l * s)) = ⟨B, d + moved o l s m, none⟩ := by
  unfold moved
  by_cases h : m = l
  · have : Nat.beq m l = true := T.beq_true.2 h
    rw [this]; simp [h]
  · rw [T.beq_false h]
    rw [if_neg h]
    simp only [Addr.add]
    by_cases hz : l * s = 0
    · simp [hz]
    · rw [if_neg hz]
      simp only [Addr.mk.injEq, true_and, and_true]
      show d + o + l * s = d + (o + l * s)
      omega

theorem extract_bytes (s : List UInt8) (l h : Nat) : (⟨s.toArray⟩ : ByteArray).extract l h = ⟨((s.drop l).take (h - l)).toArray⟩ := by
  apply ByteArray.ext
  simp [ByteArray.data_extract, List.extract_toArray]
  done

theorem Rels.tup2 {ρ : Ren} {v u : V} {a b : Value} (h : Rel ρ v a) (k : Rel ρ u b) : Rel ρ (.tuple [v, u]) (.tuple #[a, b]) := by
  refine .tuple rfl fun i x y h1 h2 => ?_
  match i with
  | 0 => simp at h1 h2; subst h1; subst h2; exact h
  | 1 => simp at h1 h2; subst h1; subst h2; exact k
  | i + 2 => simp at h1

section
variable {P : Program} {G : Γ} (hG : GOk P G) {ρ : Ren}

theorem pIndexAddr_gives (hG : GOk P G) {t : TypeId} {x ix : Option V} {v : V} {cx ci : Value} (h : pIndexAddr G (G.ty t) x ix = some v) (hx : ∀ a, x = some a → Rel ρ a cx) (hi : ∀ a, ix = some a → Rel ρ a ci) : Gives P (Instr.indexAt t cx ci) ρ v := by
  unfold pIndexAddr at h
  split at h
  · rename_i ty b o k i hty
    have h1 := hx _ rfl
    have h2 := hi _ rfl
    cases h2
    cases h1 with
    | ptr hb =>
      rename_i B d z
      split at h
      · rename_i len elem e
        split at h
        · rename_i q te hq hte
          cases h
          obtain ⟨q1, q2⟩ := idx_eq hq
          refine .mk (.ptr hb) fun w => ?_
          simp only [Instr.indexAt, asIntOf, Sem.run_bind, Sem.run_pure, Result.andThen_ok, (hG.types _ _ hty).run_underlying, e, Instr.sureAddr]
          rw [if_pos (by omega)]
          simp only [Sem.run_bind, (hG.types _ _ hte).run_sizeOf, Result.andThen_ok, Sem.run_pure, Addr.add, show i.toNat = q by omega]
          by_cases hz : q * te.size = 0
          · simp [hz]
          · rw [if_neg hz]; simp only [Nat.add_assoc]; rfl
        · cases h
      · cases h
  · rename_i ty b o len cap k i hty
    have h1 := hx _ rfl
    have h2 := hi _ rfl
    cases h2
    split at h
    · rename_i elem e
      split at h
      · rename_i q te hq hte
        cases h
        obtain ⟨q1, q2⟩ := idx_eq hq
        have go : ∀ (B d z c : Nat), ρ b = some (B, d, z) → Gives P (Instr.indexAt t (.slice (some ⟨B, d + o, none⟩) len c) (.int k i)) ρ (.ptr b (Nat.add o (Nat.mul q te.size))) := by
          intro B d z c hb
          refine .mk (.ptr hb) fun w => ?_
          simp only [Instr.indexAt, asIntOf, Sem.run_bind, Sem.run_pure, Result.andThen_ok, (hG.types _ _ hty).run_underlying, e]
          rw [if_pos (by omega)]
          simp only [Sem.run_bind, (hG.types _ _ hte).run_sizeOf, Result.andThen_ok, Sem.run_pure, Addr.add, show i.toNat = q by omega]
          by_cases hz : q * te.size = 0
          · simp [hz]
          · rw [if_neg hz]; simp only [Nat.add_assoc]; rfl
        cases h1 with
        | sliceK hb => exact go _ _ _ _ hb
        | sliceA hb _ _ => exact go _ _ _ _ hb
        | sliceZ a => omega
      · cases h
    · cases h
  · cases h
theorem pIndex_gives (hG : GOk P G) {t : TypeId} {x ix : Option V} {v : V} {cx ci : Value} (h : pIndex G (G.ty t) x ix = some v) (hx : ∀ a, x = some a → Rel ρ a cx) (hi : ∀ a, ix = some a → Rel ρ a ci) : Gives P (Instr.index t cx ci) ρ v := by
  unfold pIndex at h
  split at h
  · rename_i ty n pat tr k i hty
    obtain ⟨cs, rfl, ha⟩ := (hx _ rfl).ar
    have h2 := hi _ rfl
    cases h2
    split at h
    · rename_i len elem e
      split at h
      · rename_i q te hq hte
        obtain ⟨q1, q2⟩ := idx_eq hq
        obtain ⟨c, r, s⟩ := ha.run_part (hG.types _ _ hte) h
        refine .mk r fun w => ?_
        simp only [Instr.index, asIntOf, Sem.run_bind, Sem.run_pure, Result.andThen_ok, (hG.types _ _ hty).run_underlying, e]
        rw [if_pos (by omega)]
        simp only [Sem.run_bind, (hG.types _ _ hte).run_sizeOf, Result.andThen_ok, show i.toNat = q by omega]
        exact s w
      · cases h
    · cases h
  · rename_i ty s kk k hty
    have h1 := hx _ rfl
    have h2 := hi _ rfl
    cases h1; cases h2
    split at h
    · rename_i e
      split at h
      · rename_i b hb
        cases h
        rw [nth_eq] at hb
        refine .mk (.int _ _) fun w => ?_
        have hl := (List.getElem?_eq_some_iff.1 hb).1
        have hget : (⟨s.toArray⟩ : ByteArray)[k]? = some b := by
          have h3 : k < (⟨s.toArray⟩ : ByteArray).size := by simpa [ByteArray.size] using hl
          rw [getElem?_pos (⟨s.toArray⟩ : ByteArray) k h3]
          have := (List.getElem?_eq_some_iff.1 hb).2
          simp [ByteArray.getElem_eq_getElem_data, this]
        simp only [Instr.index, asIntOf, Sem.run_bind, Sem.run_pure, Result.andThen_ok, (hG.types _ _ hty).run_underlying, e]
        simp [hget]
      · cases h
    · cases h
  · cases h
theorem pAssert_gives (hG : GOk P G) {t xt : TypeId} {x : Option V} {ok : Bool} {v : V} {cx : Value} (h : pAssert t (G.ty t) x ok = some v) (hx : ∀ a, x = some a → Rel ρ a cx) : Gives P (Instr.typeAssert cx xt t ok) ρ v := by
  unfold pAssert at h
  split at h
  · rename_i ty u hty
    have ht := hG.types _ _ hty
    have h1 := hx _ rfl
    have zero : ∀ z, ty.zero = some z → ∃ c, (∀ w, (zeroValue t).run P w = .ok c w) ∧ Rel ρ z c := fun z hz => let ⟨c, a, b⟩ := ht.run_zero hz; ⟨c, a, b ρ⟩
    split at h
    · cases h
    · rename_i hne
      cases h1
      split at h
      · rename_i z hz
        cases h
        obtain ⟨c, s, r⟩ := zero z hz
        refine .mk (Rels.tup2 r (.bool false)) fun w => ?_
        simp only [Instr.typeAssert, Sem.run_bind, ht.run_underlying, Result.andThen_ok]
        cases hd : ty.desc <;> first
          | exact absurd hd (hne _)
          | (simp [s])
      · cases h
    · rename_i hne
      cases h1 with
      | iface _ hr =>
        split at h
        · rename_i he
          rw [T.beq_true] at he
          split at h
          · cases h
            refine .mk (Rels.tup2 hr (.bool true)) fun w => ?_
            simp only [Instr.typeAssert, Sem.run_bind, ht.run_underlying, Result.andThen_ok]
            cases hd : ty.desc <;> first
              | exact absurd hd (hne _)
              | (simp [he])
          · cases h
            refine .mk hr fun w => ?_
            simp only [Instr.typeAssert, Sem.run_bind, ht.run_underlying, Result.andThen_ok]
            cases hd : ty.desc <;> first
              | exact absurd hd (hne _)
              | (simp [he])
        · rename_i t' _ _ _ he
          have he : t' ≠ t := fun e => by rw [e] at he; simp at he
          split at h
          · rename_i z hz
            cases h
            obtain ⟨c, s, r⟩ := zero z hz
            refine .mk (Rels.tup2 r (.bool false)) fun w => ?_
            simp only [Instr.typeAssert, Sem.run_bind, ht.run_underlying, Result.andThen_ok]
            cases hd : ty.desc <;> first
              | exact absurd hd (hne _)
              | (simp [he, s])
          · cases h
    · cases h
  · cases h
end
end Go.Ev
/- The evaluator's computed values are the model's: the operations that need no memory, 4: slices, builds, cap, min, max. -/
namespace Go.Ev

theorem moved_add' (B d o l s m : Nat) : (if m = l then some (⟨B, d + o, none⟩ : Addr) else (some (⟨B, d + o, none⟩ : Addr)).map (·.add (l * s))) = some ⟨B, d + moved o l s m, none⟩ := by
  rw [← moved_add]; split <;> rfl
theorem add_addr (B d o k : Nat) : (⟨B, d + o, none⟩ : Addr).add k = ⟨B, d + (o + k), none⟩ := by
  simp only [Addr.add]
  by_cases hz : k = 0
  · simp [hz]
  · rw [if_neg hz, Nat.add_assoc]

section
variable {P : Program} {G : Γ} (hG : GOk P G) {ρ : Ren}

theorem pSlice_gives (hG : GOk P G) {e : Operand → Option V} {f : Operand → Value} (hef : OpR ρ e f) {t : TypeId} {x : Operand} {lo hi mx : Option Operand} {v : V} (h : pSlice G (G.ty t) e x lo hi mx = some v) :
    Gives P (Instr.sliceAt t (f x) (lo.map f) (hi.map f) (mx.map f)) ρ v := by
  unfold pSlice at h
  split at h
  · rename_i ty u hty hu
    have ht := hG.types _ _ hty
    have hr := hef _ _ hu
    generalize f x = cx at hr ⊢
    have exact_cap : ∀ {len c l hh m : Nat}, bnds e lo hi mx len c = some (l, hh, m) → (∀ a, mx = some a → hi ≠ none) → ∀ isS w, (Instr.sliceBounds isS len c (lo.map f) (hi.map f) (mx.map f)).run P w = .ok (l, hh, m) w := by
      intro len c l hh m hb hmh isS w
      obtain ⟨b0, b1, b2, b3, b4, b5⟩ := bnds_run hef (P := P) hb hmh isS c (Nat.le_refl _)
      rw [b5 w]
      split
      · rename_i hm; rw [b0 hm]
      · rfl
    split at h
    · -- an array's address
      rename_i n elem b o e1
      split at h
      · cases h
      · rename_i hmh
        split at h
        · rename_i l hh m te hb hte
          cases h
          have b5 := exact_cap hb (fun a ha hn => hmh a ha hn) false
          cases hr with
          | ptr hb' =>
            refine .mk (.sliceK hb') fun w => ?_
            simp only [Instr.sliceAt, Sem.run_bind, ht.run_underlying, e1, Result.andThen_ok, Instr.sureAddr, Sem.run_pure, b5, (hG.types _ _ hte).run_sizeOf, moved_add]
            rfl
        · cases h
    · -- a slice whose capacity is known
      rename_i elem b o len c e1
      split at h
      · cases h
      · rename_i hmh
        split at h
        · rename_i l hh m te hb hte
          cases h
          have b5 := exact_cap hb (fun a ha hn => hmh a ha hn) true
          cases hr with
          | sliceK hb' =>
            refine .mk (.sliceK hb') fun w => ?_
            simp only [Instr.sliceAt, Sem.run_bind, ht.run_underlying, e1, Result.andThen_ok, Instr.slice, Sem.run_pure, b5, (hG.types _ _ hte).run_sizeOf, moved_add']
            rfl
        · cases h
    · -- a slice whose capacity is known from below
      rename_i elem b o len c es e1
      split at h
      · cases h
      · -- with a bound of the capacity
        rename_i z y
        split at h
        · rename_i l hh m te hb hte
          split at h
          · rename_i hml
            rw [T.beq_true] at hml
            subst hml
            cases h
            have go : ∀ (a : Addr) (k : Nat), c ≤ k → Gives P (Instr.sliceAt t (.slice (some a) len k) (lo.map f) ((some y).map f) ((some z).map f)) ρ (.slice b o 0 (.atl 0 es)) := by
              intro a k hk
              obtain ⟨b0, b1, b2, b3, b4, b5⟩ := bnds_run hef (P := P) hb (fun a ha => by simp) true k hk
              have b2 := b2 (by simp)
              refine .mk (.sliceZ a) fun w => ?_
              simp only [Instr.sliceAt, Sem.run_bind, ht.run_underlying, e1, Result.andThen_ok, Instr.slice, Sem.run_pure, b5, (hG.types _ _ hte).run_sizeOf]
              have : hh = m := by omega
              simp [this]
            cases hr with
            | sliceA hb' hm hz => exact go _ _ hm
            | sliceZ a => exact go _ _ (Nat.le_refl _)
          · rename_i hml
            have hml : m ≠ l := fun e => by rw [e] at hml; simp at hml
            cases h
            cases hr with
            | sliceA hb' hm hz =>
              rename_i k B d zz
              obtain ⟨b0, b1, b2, b3, b4, b5⟩ := bnds_run hef (P := P) hb (fun a ha => by simp) true k hm
              refine .mk (.sliceK hb') fun w => ?_
              simp only [Instr.sliceAt, Sem.run_bind, ht.run_underlying, e1, Result.andThen_ok, Instr.slice, Sem.run_pure, b5, (hG.types _ _ hte).run_sizeOf]
              simp only [reduceCtorEq, if_false, if_neg hml, Option.map_some, add_addr]
              rfl
            | sliceZ a =>
              obtain ⟨b0, b1, b2, b3, b4, b5⟩ := bnds_run hef (P := P) hb (fun a ha => by simp) true 0 (Nat.le_refl _)
              have b2 := b2 (by simp)
              omega
        · cases h
      · -- without
        rename_i hno
        split at h
        · rename_i l hh m te hb hte
          split at h
          · rename_i hes
            simp only [Bool.and_eq_true, T.beq_true] at hes
            obtain ⟨hes, hhm⟩ := hes
            have hhm := Nat.le_of_ble_eq_true hhm
            subst hes
            cases h
            cases hr with
            | sliceA hb' hm hz =>
              rename_i k B d zz
              obtain ⟨b0, b1, b2, b3, b4, b5⟩ := bnds_run hef (P := P) hb (fun a ha => by simp at ha) true k hm
              have b0 := b0 rfl
              subst b0
              have b6 : ∀ w, (Instr.sliceAt t (.slice (some ⟨B, d + o, none⟩) len k) (lo.map f) (hi.map f) ((none : Option Operand).map f)).run P w =
                  .ok (.slice (if k = l then some ⟨B, d + o, none⟩ else some ⟨B, d + (o + l * te.size), none⟩) (hh - l) (k - l)) w := by
                intro w
                simp only [Instr.sliceAt, Sem.run_bind, ht.run_underlying, e1, Result.andThen_ok, Instr.slice, Sem.run_pure, b5, (hG.types _ _ hte).run_sizeOf]
                simp only [if_true, Option.map_some, add_addr]
              have n1 : Nat.sub hh l = hh - l := rfl
              have n2 : Nat.sub m l = m - l := rfl
              by_cases hkl : k = l
              · have hz1 : hh - l = 0 := by omega
                have hz2 : m - l = 0 := by omega
                rw [n1, n2, hz1, hz2]
                refine .mk (.sliceZ ⟨B, d + o, none⟩) fun w => ?_
                rw [b6 w, if_pos hkl, hz1, show k - l = 0 by omega]
              · refine .mk (.sliceA hb' (k := k - l) ?_ ?_) fun w => ?_
                · rw [n2]; omega
                · show d + (o + l * te.size) + (k - l) * te.size ≤ zz
                  have : l * te.size + (k - l) * te.size = k * te.size := by
                    rw [← Nat.add_mul]; congr 1; omega
                  omega
                · rw [b6 w, if_neg hkl]; rfl
            | sliceZ a =>
              obtain ⟨b0, b1, b2, b3, b4, b5⟩ := bnds_run hef (P := P) hb (fun a ha => by simp at ha) true 0 (Nat.le_refl _)
              have hl : l = 0 := by omega
              have hh0 : hh = 0 := by omega
              have hm0 : m = 0 := by omega
              subst hl; subst hh0; subst hm0
              refine .mk (.sliceZ a) fun w => ?_
              simp only [Instr.sliceAt, Sem.run_bind, ht.run_underlying, e1, Result.andThen_ok, Instr.slice, Sem.run_pure, b5, (hG.types _ _ hte).run_sizeOf]
              simp
          · cases h
        · cases h
    · -- the nil slice
      rename_i elem e1
      split at h
      · cases h
      · rename_i hmh
        split at h
        · rename_i r te hb hte
          cases h
          obtain ⟨l, hh, m⟩ := r
          have b5 := exact_cap hb (fun a ha hn => hmh a ha hn) true
          obtain ⟨b0, b1, b2, b3, b4, _⟩ := bnds_run hef (P := P) hb (fun a ha hn => hmh a ha hn) true 0 (Nat.le_refl _)
          have hm0 : m = 0 := by omega
          have hh0 : hh = 0 := by
            cases hi with
            | none => exact b4 rfl
            | some y => have := b2 (by simp); omega
          have hl : l = 0 := by omega
          subst hm0; subst hh0; subst hl
          cases hr
          refine .mk .nils fun w => ?_
          simp only [Instr.sliceAt, Sem.run_bind, ht.run_underlying, e1, Result.andThen_ok, Instr.slice, Sem.run_pure, b5, (hG.types _ _ hte).run_sizeOf]
          simp
        · cases h
    · -- a string
      rename_i s e1
      split at h
      · cases h
      · split at h
        · rename_i l hh m hb
          split at h
          · rename_i r hr'
            cases h
            have b5 := exact_cap hb (fun a ha => by simp at ha) false
            obtain ⟨r1, r2⟩ := takeN_eq _ _ _ hr'
            rw [dropN_eq] at r1
            cases hr
            refine .mk (.str r) fun w => ?_
            have hsz : (⟨s.toArray⟩ : ByteArray).size = s.length := by simp [ByteArray.size]
            simp only [Instr.sliceAt, Sem.run_bind, ht.run_underlying, e1, Result.andThen_ok, Instr.slice, Sem.run_pure, Option.map_none, Option.isSome_none, Bool.false_eq_true, if_false, hsz]
            have b5 := b5 w
            simp only [Option.map_none] at b5
            rw [b5, r1]
            simp only [Result.andThen_ok, extract_bytes]
            rfl
          · cases h
        · cases h
    · cases h
  · cases h

theorem pCap_gives (hG : GOk P G) {t ty' : TypeId} {x : Option V} {v : V} {cx : Value} (h : pCap (G.ty t) x = some v) (hx : ∀ a, x = some a → Rel ρ a cx) : Gives P (Builtin.cap_ #[t] ty' #[cx]) ρ v := by
  unfold pCap at h
  split at h
  · rename_i ty u hty
    have ht := hG.types _ _ hty
    have hr := hx _ rfl
    split at h
    · rename_i e1
      cases h
      cases hr
      refine .mk (.int _ _) fun w => ?_
      simp [Builtin.cap_, ht.run_underlying, e1, goInt]
    · rename_i e1
      cases h
      cases hr
      refine .mk (.int _ _) fun w => ?_
      simp [Builtin.cap_, ht.run_underlying, e1, goInt]
    · cases h
  · cases h
theorem pBuild_gives (hG : GOk P G) {t : TypeId} {e : Operand → Option V} {f : Operand → Value} (hef : OpR ρ e f) {parts : Array (Nat × Operand)} {v : V} (h : pBuild G (G.ty t) e parts.toList = some v) :
    Gives P (Instr.build t (parts.map fun p => (p.1, f p.2))) ρ v := by
  unfold pBuild at h
  split at h
  · rename_i ty hty
    have ht := hG.types _ _ hty
    split at h
    · rename_i n pat tr hz hbd
      split at h
      · rename_i tr' hf
        cases h
        obtain ⟨i, i1, i2, i3, i4⟩ := ht.info
        obtain ⟨c, c1, c2⟩ := i4 _ hz
        obtain ⟨cs, rfl, ha⟩ := (c2 ρ).ar
        cases hd : ty.desc with
        | struct fs =>
          have hfl : ∀ f, f ∈ fs.toList → ∃ ft, G.ty f.type = some ft := fun f hf => let ⟨ft, a, _⟩ := hG.fields t ty fs hty hd f hf; ⟨ft, a⟩
          have places : ∀ l : List Field, (∀ f, f ∈ l → ∃ ft, G.ty f.type = some ft) → ∃ ps : List (Nat × Nat), l.mapM (fun f => (P.info? f.type).map fun i => (f.offset, i.size)) = some ps ∧
              ∀ (k : Nat) (fd : Field) (ft : TY), l[k]? = some fd → G.ty fd.type = some ft → ps[k]? = some (fd.offset, ft.size) := by
            intro l
            induction l with
            | nil => intro _; exact ⟨[], rfl, fun k fd ft h => by simp at h⟩
            | cons fd l ih =>
              intro hl
              obtain ⟨ps, p1, p2⟩ := ih fun f hf => hl f (by simp [hf])
              obtain ⟨ft, hft⟩ := hl fd (by simp)
              obtain ⟨j, j1, j2, _⟩ := (hG.types _ _ hft).info
              refine ⟨(fd.offset, ft.size) :: ps, by simp [p1, j1, j2], fun k fd' ft' hk hft' => ?_⟩
              cases k with
              | zero => simp at hk; subst hk; rw [hft] at hft'; cases hft'; rfl
              | succ k => simp at hk; exact p2 k fd' ft' hk hft'
          obtain ⟨ps, p1, p2⟩ := places fs.toList hfl
          obtain ⟨cs', f1, f2⟩ := fillA_fill hef (place := (ps.toArray[·]?)) (fun k L hL => by
            unfold place at hL
            simp only [hd] at hL
            split at hL
            · rename_i fd hfd
              split at hL
              · rename_i ft hft
                cases hL
                simpa using p2 k fd ft hfd hft
              · cases hL
            · cases hL) hf ha
          refine .mk f2.rel' fun w => run_build w t _ cs' ?_
          simp only [Program.built, i1, ht.under, hd, c1, p1, Value.cells, Array.toList_map]
          exact f1
        | array len elem =>
          obtain hte | hte : (∃ te, G.ty elem = some te) ∨ G.ty elem = none := by cases G.ty elem <;> simp
          · obtain ⟨te, hte⟩ := hte
            obtain ⟨j, j1, j2, _⟩ := (hG.types _ _ hte).info
            obtain ⟨cs', f1, f2⟩ := fillA_fill hef (place := fun i => some (i * j.size, j.size)) (fun k L hL => by
              unfold place at hL
              simp only [hd, hte] at hL
              cases hL; rw [j2]; rfl) hf ha
            refine .mk f2.rel' fun w => run_build w t _ cs' ?_
            simp only [Program.built, i1, ht.under, hd, c1, j1, Value.cells, Array.toList_map]
            exact f1
          · simp [buildable, hd, hte] at hbd
        | _ => simp [buildable, hd] at hbd
      · cases h
    · cases h
  · cases h
theorem pMin_go {k : IntKind} {less : Int → Int → Bool} {f2 : Value → Value → Sem Value} (hf : ∀ k k' x y w, (f2 (.int k x) (.int k' y)).run P w = .ok (.int k (if less y x then y else x)) w) :
    ∀ {l : List V} {x : Int} {cs : List Value} {v : V}, pMin.go less k x l = some v → Rels ρ l cs → ∃ c, Rel ρ v c ∧ ∀ w, (cs.foldlM f2 (.int k x)).run P w = .ok c w
  | [], x, cs, v, h, hr => by
    rw [hr.of_nil]; simp [pMin.go] at h; subst h
    exact ⟨_, .int _ _, fun w => rfl⟩
  | .int k' y :: l, x, cs, v, h, hr => by
    obtain ⟨c, cs', rfl, h1, h2⟩ := hr.uncons
    cases h1
    simp only [pMin.go] at h
    obtain ⟨c, r, s⟩ := pMin_go hf h h2
    refine ⟨c, r, fun w => ?_⟩
    simp only [List.foldlM_cons, Sem.run_bind, hf, Result.andThen_ok]
    have := s w
    revert this
    cases less y x <;> exact id
  | .bool _ :: _, _, _, _, h, _ => by simp [pMin.go] at h
  | .str _ :: _, _, _, _, h, _ => by simp [pMin.go] at h
  | .nilp :: _, _, _, _, h, _ => by simp [pMin.go] at h
  | .ptr _ _ :: _, _, _, _, h, _ => by simp [pMin.go] at h
  | .nils :: _, _, _, _, h, _ => by simp [pMin.go] at h
  | .slice .. :: _, _, _, _, h, _ => by simp [pMin.go] at h
  | .nilm :: _, _, _, _, h, _ => by simp [pMin.go] at h
  | .map _ :: _, _, _, _, h, _ => by simp [pMin.go] at h
  | .func .. :: _, _, _, _, h, _ => by simp [pMin.go] at h
  | .nilf :: _, _, _, _, h, _ => by simp [pMin.go] at h
  | .iface .. :: _, _, _, _, h, _ => by simp [pMin.go] at h
  | .nili :: _, _, _, _, h, _ => by simp [pMin.go] at h
  | .agg .. :: _, _, _, _, h, _ => by simp [pMin.go] at h
  | .tuple _ :: _, _, _, _, h, _ => by simp [pMin.go] at h
theorem optAll_rels {e : Operand → Option V} {f : Operand → Value} (hef : OpR ρ e f) {args : List Operand} {vs : List V} (h : optAll e args = some vs) : Rels ρ vs (args.map f) := by
  obtain ⟨a1, a2⟩ := optAll_eq h
  refine ⟨by simp [a1], fun i v x h1 h2 => ?_⟩
  simp only [List.getElem?_map, Option.map_eq_some_iff] at h2
  obtain ⟨y, hy, rfl⟩ := h2
  exact hef _ _ (a2 i y v hy h1)
theorem pMin_gives {e : Operand → Option V} {f : Operand → Value} (hef : OpR ρ e f) {args : List Operand} {less : Int → Int → Bool} {f2 : Value → Value → Sem Value} (hf : ∀ k k' x y w, (f2 (.int k x) (.int k' y)).run P w = .ok (.int k (if less y x then y else x)) w)
    {v : V} (h : pMin (optAll e args) less = some v) : ∃ y ys, args.map f = y :: ys ∧ Gives P (ys.foldlM f2 y) ρ v := by
  unfold pMin at h
  split at h
  · rename_i k x rest hl
    have hr := optAll_rels hef hl
    obtain ⟨c, cs', h0, h1, h2⟩ := hr.uncons
    cases h1
    exact ⟨_, _, h0, pMin_go hf h h2⟩
  · cases h
end
end Go.Ev
/- The operations that need no memory: what the evaluator computes is what the model gives. -/
namespace Go.Ev
section
variable {P : Program} {G : Γ} (hG : GOk P G) {ρ : Ren}

theorem Gives.next {s : Sem Value} {v : V} {n : Sem Next} (h : Gives P s ρ v) (hn : n = (do pure (.value (← s)) : Sem Next)) : ∃ c, Rel ρ v c ∧ ∀ w, n.run P w = .ok (.value c) w := by
  obtain ⟨c, r, s⟩ := h
  exact ⟨c, r, fun w => by rw [hn]; simp [s w]⟩
theorem OpR.opt {e : Operand → Option V} {f : Operand → Value} (hef : OpR ρ e f) (x : Operand) : ∀ a, e x = some a → Rel ρ a (f x) := fun a h => hef x a h

set_option maxHeartbeats 1000000 in
theorem act_val (hG : GOk P G) {e : Operand → Option V} {f : Operand → Value} (hef : OpR ρ e f) {o : Oper} {v : V} (h : act G e o.op = .val (some v)) : ∃ c, Rel ρ v c ∧ ∀ w, (execOp f o).run P w = .ok (.value c) w := by
  cases ho : o.op <;> rw [ho] at h <;> simp only [act, reduceCtorEq, Ac.val.injEq] at h
  case move x => exact ⟨_, hef _ _ h, fun w => by simp [execOp, ho]⟩
  case assign x => exact ⟨_, hef _ _ h, fun w => by simp [execOp, ho]⟩
  case pick c a b =>
    obtain ⟨r, h1, h2⟩ := pPick_rel (P := P) h (hef.opt c) (hef.opt a) (hef.opt b)
    refine ⟨r, h1, fun w => ?_⟩
    have := h2 w
    simp only [Sem.run_bind, Sem.run_pure] at this
    simp only [execOp, ho, Sem.run_bind, Sem.run_pure]
    cases hb : (asBool (f c)).run P w <;> rw [hb] at this <;> simp_all
  case build t ps => exact (pBuild_gives hG hef h).next (by simp only [execOp, ho])
  case nilCheck x => exact pNil_gives h (hef.opt x) o f x ho rfl
  case binOp op t x y c => exact (pBin_gives hG h (hef.opt x) (hef.opt y)).next (by simp only [execOp, ho])
  case unOp op t x => exact (pUn_gives h (hef.opt x)).next (by simp only [execOp, ho])
  case convert s d x =>
    split at h
    · cases h
    · simp only [Ac.val.injEq] at h
      exact (pConv_gives hG h (hef.opt x)).next (by simp only [execOp, ho])
  case makeInterface t x => exact (pIface_gives hG h (hef.opt x)).next (by simp only [execOp, ho])
  case makeFunc fn first captured => exact (pFunc_gives hef h).next (by simp only [execOp, ho])
  case makeMap t r =>
    cases r <;> simp at h
  case slice t x lo hi mx => exact (pSlice_gives hG hef h).next (by simp only [execOp, ho])
  case fieldAddr s x n => exact (pFieldAddr_gives hG h (hef.opt x)).next (by simp only [execOp, ho])
  case field s x n => exact (pField_gives hG h (hef.opt x)).next (by simp only [execOp, ho])
  case indexAddr t x i => exact (pIndexAddr_gives hG h (hef.opt x) (hef.opt i)).next (by simp only [execOp, ho])
  case index t x i => exact (pIndex_gives hG h (hef.opt x) (hef.opt i)).next (by simp only [execOp, ho])
  case typeAssert x xt t ok => exact (pAssert_gives hG (xt := xt) h (hef.opt x)).next (by simp only [execOp, ho])
  case extract t i => exact (pExtract_gives h (hef.opt t)).next (by simp only [execOp, ho])
  case call c =>
    unfold actCall at h
    split at h
    · cases h
    · cases h
    · rename_i b hb
      unfold actBuiltin at h
      split at h
      · cases h
      · rename_i t x ht hx
        simp only [Ac.val.injEq] at h
        refine (pCap_gives hG (t := t) (ty' := o.type) h (hef.opt x)).next ?_
        have h1 : c.argTypes = #[t] := by rw [← Array.toArray_toList (xs := c.argTypes), ht]
        have h2 : c.args = #[x] := by rw [← Array.toArray_toList (xs := c.args), hx]
        simp only [execOp, ho, resolve, hb, pure_bind, invoke, builtin, h1, h2, List.map_toArray, List.map_cons, List.map_nil]
      · rename_i t args
        simp only [Ac.val.injEq] at h
        obtain ⟨y, ys, e1, g⟩ := pMin_gives (P := P) hef (f2 := Builtin.min2) (fun k k' x y w => by simp only [Builtin.min2, Sem.run_pure, ilt_eq, decide_eq_true_eq]) h
        refine g.next ?_
        simp only [execOp, ho, resolve, hb, pure_bind, invoke, builtin, Builtin.min_, Array.toList_map, e1]
      · rename_i t args
        simp only [Ac.val.injEq] at h
        obtain ⟨y, ys, e1, g⟩ := pMin_gives (P := P) hef (f2 := Builtin.max2) (fun k k' x y w => by simp only [Builtin.max2, Sem.run_pure, ilt_eq, decide_eq_true_eq]) h
        refine g.next ?_
        simp only [execOp, ho, resolve, hb, pure_bind, invoke, builtin, Builtin.max_, Array.toList_map, e1]
      · cases h
      · cases h
      · cases h
      · rename_i t x hx
        simp only [Ac.val.injEq] at h
        have h2 : c.args = #[x] := by rw [← Array.toArray_toList (xs := c.args), hx]
        have hn : execOp f o = (do pure (.value (← Builtin.unsafeSliceData_ c.argTypes o.type #[f x])) : Sem Next) := by
          simp only [execOp, ho, resolve, hb, pure_bind, invoke, builtin, h2, List.map_toArray, List.map_cons, List.map_nil]
        have run : ∀ c', (∀ w, (Builtin.unsafeSliceData_ c.argTypes o.type #[f x]).run P w = .ok c' w) → Rel ρ v c' → ∃ c, Rel ρ v c ∧ ∀ w, (execOp f o).run P w = .ok (.value c) w := fun c' h1 h2 => ⟨c', h2, fun w => by rw [hn]; simp [h1 w]⟩
        unfold pSliceData at h
        split at h
        · rename_i hu
          cases h
          have hr := hef x _ hu
          generalize hcx : f x = cx at hr
          cases hr
          exact run (.pointer none) (fun w => by rw [hcx]; rfl) .nilp
        · rename_i b o' n m hu
          cases h
          have hr := hef x _ hu
          generalize hcx : f x = cx at hr
          cases hr with
          | sliceK hb' => exact run _ (fun w => by rw [hcx]; rfl) (.ptr hb')
        · rename_i b o' n m es hu
          cases h
          have hr := hef x _ hu
          generalize hcx : f x = cx at hr
          cases hr with
          | sliceA hb' hm hz =>
            rename_i k B d z
            refine run (.pointer (some ⟨B, d + o', none⟩)) (fun w => ?_) (.ptr hb')
            rw [hcx]
            have : k ≠ 0 := by omega
            obtain ⟨k, rfl⟩ := Nat.exists_eq_succ_of_ne_zero this
            rfl
        · cases h
      all_goals cases h
end
end Go.Ev

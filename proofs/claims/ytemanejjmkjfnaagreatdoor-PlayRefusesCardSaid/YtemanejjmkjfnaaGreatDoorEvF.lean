/- The evaluator as a condition: runs over numbers that are not known; what is known of functions. -/
import Derived.Test.YtemanejjmkjfnaaGreatDoorEvE
import Derived.Maps.OwnSet
import Derived.Lib.SlKeysI
set_option maxHeartbeats 1000000
/- The evaluator as a condition: where it is told to, it goes both ways, and says in which case. -/
namespace Go.Ev
open Go.RowKit
noncomputable section
/-- a cell that gets a name: a number, a text -/
inductive LK where
  | int (k : IntKind)
  | str
/-- what is done with a value before it is noted -/
inductive Sp where
  | keep
  /-- a bool: both ways -/
  | both
  /-- a bool that is so -/
  | is (b : Bool)
  /-- a number: from 0 on, so many ways -/
  | upto (n : Nat)
  /-- a number that is given a name -/
  | name
  /-- an address at a place that is not known -/
  | idx
  /-- a number, a text, that lies at such a place: it gets a name -/
  | ldI (k : IntKind)
  | ldS
  /-- a struct that lies at such a place: its cells get names -/
  | ldA (ks : List LK)
  /-- a text that an operation makes which changes the memory: both get names -/
  | efS
  /-- a slice that is this one: a condition -/
  | isV (v : V)
/-- what is known of a function, in two cases -/
abbrev KX := FuncId → List V → H → Option (Bool × (V × H) × (V × H))
/-- the first case has no answer: it must not come -/
def bog : V → Bool
  | .nilf => true
  | _ => false
structure SpF where
  at' : FuncId → Tmp → Sp
  kx : KX := fun _ _ _ => none
  /-- the first case does not come -/
  must : FuncId → Bool := fun _ => false
def isIdx : Sp → Bool
  | .idx => true
  | _ => false
/-- cells of such kinds -/
def LK.shape : List LK → List V → Prop
  | [], [] => True
  | .int k :: ks, .int k' _ :: vs => k' = k ∧ LK.shape ks vs
  | .str :: ks, .str _ :: vs => LK.shape ks vs
  | _, _ => False
/-- whatever cells of such kinds there are -/
def LK.all : List LK → List V → (List V → Prop) → Prop
  | [], acc, K => K acc
  | .int k :: ks, acc, K => ∀ x, LK.all ks (acc ++ [.int k x]) K
  | .str :: ks, acc, K => ∀ x, LK.all ks (acc ++ [.str x]) K
/-- what lies at a place that is not known, by a name -/
def ldK (r : Option V) (s : Sp) (K : V → Prop) : Prop :=
  match s with
  | .ldI k => (∃ x, r = some (.int k x)) ∧ ∀ x, r = some (.int k x) → K (.int k x)
  | .ldS => (∃ x, r = some (.str x)) ∧ ∀ x, r = some (.str x) → K (.str x)
  | .ldA ks => (∃ l, r = some (.agg ks.length l .leaf) ∧ LK.shape ks l) ∧ LK.all ks [] fun l => r = some (.agg ks.length l .leaf) → K (.agg ks.length l .leaf)
  | _ => False
def isLd : Sp → Bool
  | .ldI _ => true
  | .ldS => true
  | .ldA _ => true
  | _ => false
def isSl : Sp → Option V
  | .isV v => some v
  | _ => none
def isEf : Sp → Bool
  | .efS => true
  | _ => false
/-- what an operation makes, by a name -/
def efK (r : Option (V × H)) (K : V → H → Prop) : Prop := (∃ s h, r = some (.str s, h)) ∧ ∀ s h, r = some (.str s, h) → K (.str s) h
def spT (sp : SpF) (f : FuncId) (d : Option Tmp) : Sp :=
  match d with
  | some t => sp.at' f t
  | none => .keep
def idxT (sp : SpF) (f : FuncId) (d : Option Tmp) : Bool :=
  match d with
  | some t => isIdx (sp.at' f t)
  | none => false
def idxO (sp : SpF) (f : FuncId) (x : Operand) : Bool :=
  match x with
  | .tmp t => isIdx (sp.at' f t)
  | _ => false
def putK (env : Env) (d : Option Tmp) (v : V) (K : Env → Prop) : Prop :=
  match env.put d v with
  | some e => K e
  | none => False
def uptoK (n : Nat) (k : IntKind) (x : Int) (K : V → Prop) : Prop :=
  Nat.rec (motive := fun _ => Prop) True (fun m ih => ih ∧ (x = Int.ofNat m → K (.int k (Int.ofNat m)))) n
def splitK (s : Sp) (v : V) (K : V → Prop) : Prop :=
  match s, v with
  | .both, .bool b => (b = true → K (.bool true)) ∧ (b = false → K (.bool false))
  | .is c, .bool b => b = c ∧ K (.bool c)
  | .upto n, .int k x => ilt x (Int.ofNat 0) = false ∧ ilt x (Int.ofNat n) = true ∧ uptoK n k x K
  | .name, .int k x => ∀ y, y = x → K (.int k y)
  | _, v => K v
def putW (sp : SpF) (f : FuncId) (env : Env) (d : Option Tmp) (v : V) (K : Env → Prop) : Prop :=
  match d with
  | none => K env
  | some t => splitK (sp.at' f t) v fun v => putK env (some t) v K
/-- '==' of parts, each looked at -/
def eqFieldsB (G : Γ) (eq : TypeId → V → V → Option Bool) (n : Nat) (pat : List V) (tr : T V) (n' : Nat) (pat' : List V) (tr' : T V) : List Field → Option Bool
  | [] => some true
  | f :: fs =>
    match decide (f.name = "_") with
    | true => none
    | false =>
      match G.ty f.type with
      | none => none
      | some ft =>
        match partAt ft.agg ft.size n pat tr f.offset, partAt ft.agg ft.size n' pat' tr' f.offset with
        | some a, some b => match eq f.type a b, eqFieldsB G eq n pat tr n' pat' tr' fs with
          | some x, some y => some (and x y)
          | _, _ => none
        | _, _ => none
def eqElemsB (eq : V → V → Option Bool) (agg : Bool) (s : Nat) (n : Nat) (pat : List V) (tr : T V) (n' : Nat) (pat' : List V) (tr' : T V) : Nat → Nat → Option Bool
  | _, 0 => some true
  | i, k + 1 =>
    match partAt agg s n pat tr (Nat.mul i s), partAt agg s n' pat' tr' (Nat.mul i s) with
    | some a, some b => match eq a b, eqElemsB eq agg s n pat tr n' pat' tr' (Nat.succ i) k with
      | some x, some y => some (and x y)
      | _, _ => none
    | _, _ => none
def eqB (G : Γ) : Nat → TypeId → V → V → Option Bool
  | 0, _, _, _ => none
  | d + 1, t, x, y =>
    match x, y with
    | .agg n pat tr, .agg n' pat' tr' =>
      match G.ty t with
      | none => none
      | some ty =>
        match ty.desc with
        | .struct fs =>
          match G.eqs.contains t with
          | true => eqFieldsB G (eqB G d) n pat tr n' pat' tr' fs.toList
          | false => none
        | .array len elem =>
          match G.eqs.contains t, G.ty elem with
          | true, some te => eqElemsB (eqB G d elem) te.agg te.size n pat tr n' pat' tr' 0 len
          | _, _ => none
        | _ => none
    | x, y => eqO G (d + 1) t x y
/-- binary operations: a divisor is not 0 -/
def binW (G : Γ) (op : BinOp) (t : TypeId) (c : Bool) (x y : Option V) (K : V → Prop) : Prop :=
  match op, x, y with
  | .quo, some (.int k a), some (.int k' b) => match decide (k = k') with
    | true => ieq b 0 = false ∧ K (.int k (wr k (Int.tdiv a b)))
    | false => False
  | .rem, some (.int k a), some (.int k' b) => match decide (k = k') with
    | true => ieq b 0 = false ∧ K (.int k (Int.tmod a b))
    | false => False
  | .eql, some (.agg n pat tr), some (.agg n' pat' tr') => match eqB G 8 t (.agg n pat tr) (.agg n' pat' tr') with
    | some b => K (.bool b)
    | none => False
  | .neq, some (.agg n pat tr), some (.agg n' pat' tr') => match eqB G 8 t (.agg n pat tr) (.agg n' pat' tr') with
    | some b => K (.bool (!b))
    | none => False
  | .add, some (.str a), some (.str b) => Nat.ble (Nat.add a.length b.length) 1000000000 = true ∧ K (.str (a ++ b))
  | op, x, y => match pBin G op t c x y with
    | some v => K v
    | none => False
/-- an element's address, at a place that is not known -/
def idxW (G : Γ) (ty : Option TY) (x ix : Option V) (K : V → Prop) : Prop :=
  match ty, x, ix with
  | some ty, some (.ptr b o), some (.int _ i) => match ty.desc with
    | .array len elem => match G.ty elem with
      | some te => ilt i 0 = false ∧ ilt i (Int.ofNat len) = true ∧ K (.ptr b (Nat.add o (Nat.mul i.toNat te.size)))
      | none => False
    | _ => False
  | some ty, some (.slice b o len _), some (.int _ i) => match ty.desc with
    | .slice elem => match G.ty elem with
      | some te => ilt i 0 = false ∧ ilt i (Int.ofNat len) = true ∧ K (.ptr b (Nat.add o (Nat.mul i.toNat te.size)))
      | none => False
    | _ => False
  | _, _, _ => False
/-- as many elements as a number says -/
def makeW (G : Γ) (ty : Option TY) (l c : Option V) (h : H) (K : V → H → Prop) : Prop :=
  match ty, l, c with
  | some ty, some (.int _ l), some (.int _ c) => match ty.desc with
    | .slice elem => match G.ty elem with
      | some te => match zcells te, Nat.ble te.size 100000 with
        | some z, true => ilt l 0 = false ∧ ilt c l = false ∧ ilt c 100001 = true ∧ K (.slice h.next 0 l.toNat (.known c.toNat)) (h.add (.cells (some elem) (Nat.mul c.toNat te.size) z .leaf))
        | _, _ => False
      | none => False
    | _ => False
  | _, _, _ => False
def storeW (ty : Option TY) (h : H) (a x : Option V) (K : V → H → Prop) : Prop :=
  match ty, a, x with
  | some ty, some (.ptr b o), some v => match h.tr.get b with
    | some (.cells e n pat tr) => match v with
      | .agg _ _ _ => False
      | .tuple _ => False
      | v => match Nat.beq ty.size 1 with
        | true => Nat.blt o n = true ∧ K (.tuple []) (h.set b (some (.cells e n pat (tr.put o (some v)))))
        | false => False
    | _ => False
  | _, _, _ => False
/-- the beginning of a row, as far as a number says -/
def slW (G : Γ) (ty : Option TY) (e : Operand → Option V) (x : Operand) (lo hi mx : Option Operand) (v : V) : Prop :=
  match ty, e x, lo, hi, mx, v with
  | some ty, some (.slice b o _ (.atl c es)), none, some p, none, .slice b' o' n (.atl c' es') => match ty.desc, e p with
    | .slice elem, some (.int _ i) => match G.ty elem with
      | some te => i = Int.ofNat n ∧ Nat.ble n c = true ∧ b' = b ∧ o' = o ∧ c' = c ∧ es' = es ∧ Nat.beq te.size es = true
      | none => False
    | _, _ => False
  | _, _, _, _, _, _ => False
abbrev CallK := Tgt → H → (V → H → Prop) → Prop
def stepG (G : Γ) (call : CallK) (env : Env) (h : H) (o : Oper) (K : V → H → Prop) : Prop :=
  match act G env.get o.op with
  | .val v => match v with
    | some v => K v h
    | none => False
  | .rd f => match f h with
    | some v => K v h
    | none => False
  | .al f => match f h.next with
    | some (obj, v) => K v (h.add obj)
    | none => False
  | .ef f => match f h with
    | some (v, h') => K v h'
    | none => False
  | .call t => match t with
    | some t => call t h K
    | none => False
def stepW (G : Γ) (sp : SpF) (call : CallK) (fn : FuncId) (env : Env) (h : H) (o : Oper) (K : V → H → Prop) : Prop :=
  match o.op with
  | .binOp op t x y _ => binW G op t (isConst x || isConst y) (env.get x) (env.get y) fun v => K v h
  | .indexAddr t x i => match idxT sp fn o.dst with
    | true => idxW G (G.ty t) (env.get x) (env.get i) fun v => K v h
    | false => stepG G call env h o K
  | .store t a x => match idxO sp fn a with
    | true => storeW (G.ty t) h (env.get a) (env.get x) K
    | false => stepG G call env h o K
  | .makeSlice t l c => match idxT sp fn o.dst with
    | true => makeW G (G.ty t) (env.get l) (env.get c) h K
    | false => stepG G call env h o K
  | .load t a => match isLd (spT sp fn o.dst) with
    | true => ldK (rLoad (G.ty t) h (env.get a)) (spT sp fn o.dst) fun v => K v h
    | false => stepG G call env h o K
  | .slice t x lo hi mx => match isSl (spT sp fn o.dst) with
    | some v => slW G (G.ty t) env.get x lo hi mx v ∧ K v h
    | none => stepG G call env h o K
  | _ => stepG G call env h o K
def regW (G : Γ) (sp : SpF) (call : CallK) (fn : FuncId) (ops : Array Oper) : List Oper → Env → H → (Env → H → Prop) → Prop
  | [], env, h, K => K env h
  | o :: rest, env, h, K =>
    match wantedO ops env o with
    | some true => stepW G sp call fn env h o fun v h' => putW sp fn env o.dst v fun env' => regW G sp call fn ops rest env' h' K
    | some false => putK env o.dst (.tuple []) fun env' => regW G sp call fn ops rest env' h K
    | none => False
def stepDG (G : Γ) (sp : SpF) (call : CallK) (fn : FuncId) (n0 i m : Nat) (env : Env) (base : Bs) (allocs : List (Nat × Nat × O)) (effs : List (Nat × Bs)) (reads : List (Nat × Nat × Env × Op × V)) (o : Oper) (K : DS → Prop) : Prop :=
  match act G env.get o.op with
  | .val v => match v with
    | some v => putW sp fn env o.dst v fun env' => K ⟨env', base, allocs, effs, reads⟩
    | none => False
  | .rd f => match f (hv base m allocs) with
    | some v => putW sp fn env o.dst v fun env' => K ⟨env', base, allocs, effs, (i, m, env, o.op, v) :: reads⟩
    | none => False
  | .al f => match f (Nat.add n0 i) with
    | some (obj, v) => putW sp fn env o.dst v fun env' => K ⟨env', base, (i, Nat.add n0 i, obj) :: allocs, effs, reads⟩
    | none => False
  | .ef f => match isEf (spT sp fn o.dst) with
    | true => match chain effs m with
      | true => efK (f (hv base m allocs)) fun v h => putW sp fn env o.dst v fun env' => K ⟨env', ⟨m, h⟩, allocs, (i, ⟨m, h⟩) :: effs, reads⟩
      | false => False
    | false => match chain effs m, f (hv base m allocs) with
      | true, some (v, h) => putW sp fn env o.dst v fun env' => K ⟨env', ⟨m, h⟩, allocs, (i, ⟨m, h⟩) :: effs, reads⟩
      | _, _ => False
  | .call t => match t with
    | some t => match chain effs m with
      | true => call t (hv base m allocs) fun v h => putW sp fn env o.dst v fun env' => K ⟨env', ⟨m, h⟩, allocs, (i, ⟨m, h⟩) :: effs, reads⟩
      | false => False
    | none => False
def stepDW (G : Γ) (sp : SpF) (call : CallK) (fn : FuncId) (n0 i m : Nat) (env : Env) (base : Bs) (allocs : List (Nat × Nat × O)) (effs : List (Nat × Bs)) (reads : List (Nat × Nat × Env × Op × V)) (o : Oper) (K : DS → Prop) : Prop :=
  match o.op with
  | .binOp op t x y _ => binW G op t (isConst x || isConst y) (env.get x) (env.get y) fun v => putW sp fn env o.dst v fun env' => K ⟨env', base, allocs, effs, reads⟩
  | .indexAddr t x ix => match idxT sp fn o.dst with
    | true => idxW G (G.ty t) (env.get x) (env.get ix) fun v => putW sp fn env o.dst v fun env' => K ⟨env', base, allocs, effs, reads⟩
    | false => stepDG G sp call fn n0 i m env base allocs effs reads o K
  | .load t a => match isLd (spT sp fn o.dst) with
    | true => ldK (rLoad (G.ty t) (hv base m allocs) (env.get a)) (spT sp fn o.dst) fun v => putW sp fn env o.dst v fun env' => K ⟨env', base, allocs, effs, (i, m, env, o.op, v) :: reads⟩
    | false => stepDG G sp call fn n0 i m env base allocs effs reads o K
  | _ => stepDG G sp call fn n0 i m env base allocs effs reads o K
def runDW (G : Γ) (sp : SpF) (call : CallK) (fn : FuncId) (ops : Array Oper) (n0 : Nat) : List (Oper × Nat) → Nat → DS → (DS → Prop) → Prop
  | [], _, s, K => K s
  | p :: rest, i, ⟨env, base, allocs, effs, reads⟩, K =>
    match wantedO ops env p.1 with
    | some true => stepDW G sp call fn n0 i p.2 env base allocs effs reads p.1 fun s' => runDW G sp call fn ops n0 rest (Nat.succ i) s' K
    | some false => putK env p.1.dst (.tuple []) fun env' => runDW G sp call fn ops n0 rest (Nat.succ i) ⟨env', base, allocs, effs, reads⟩ K
    | none => False
/-- the same value, as a condition -/
def listP (eq : V → V → Prop) : List V → List V → Prop
  | [], [] => True
  | a :: l, b :: l' => eq a b ∧ listP eq l l'
  | _, _ => False
def cellsP (eq : V → V → Prop) (n : Nat) (pat : List V) (tr : T V) (pat' : List V) (tr' : T V) : Nat → Nat → Prop
  | _, 0 => True
  | i, k + 1 => match cell n pat tr i, cell n pat' tr' i with
    | some a, some b => eq a b ∧ cellsP eq n pat tr pat' tr' (Nat.succ i) k
    | _, _ => False
def V.eqP : Nat → V → V → Prop
  | 0, _, _ => False
  | d + 1, x, y =>
    match x, y with
    | .bool a, .bool b => a = b
    | .int k a, .int k' b => match decide (k = k') with
      | true => a = b
      | false => False
    | .str a, .str b => a = b
    | .slice a o n c, .slice a' o' n' c' => match Nat.beq a a' with
      | true => o = o' ∧ n = n' ∧ c = c'
      | false => False
    | .agg n pat tr, .agg n' pat' tr' => match Nat.beq n n' with
      | true => cellsP (V.eqP d) n pat tr pat' tr' 0 n
      | false => False
    | .tuple a, .tuple b => listP (V.eqP d) a b
    | x, y => match V.beq (d + 1) x y with
      | true => True
      | false => False
/-- a load at a place that is not known -/
def ldOp (sp : SpF) (fn : FuncId) (op : Op) : Bool :=
  match op with
  | .load _ a => idxO sp fn a
  | _ => false
def chkAtP (G : Γ) (sp : SpF) (fn : FuncId) (m : Nat) (env : Env) (op : Op) (v : V) (allocs : List (Nat × Nat × O)) (B : Bs) : Prop :=
  match act G env.get op with
  | .rd f => match ldOp sp fn op with
    | true => f (hv B m allocs) = some v ∧ V.eqP 6 v v
    | false => match f (hv B m allocs) with
      | some v' => V.eqP 6 v' v
      | none => False
  | _ => False
def unlessK (b : Bool) (p : Prop) : Prop :=
  match b with
  | true => True
  | false => p
def chkRP (G : Γ) (sp : SpF) (fn : FuncId) (j m : Nat) (env : Env) (op : Op) (v : V) (allocs : List (Nat × Nat × O)) (B0 : Bs) : List (Nat × Bs) → Prop
  | [] => chkAtP G sp fn m env op v allocs B0
  | e :: l => unlessK (bit e.2.mask j) (chkAtP G sp fn m env op v allocs e.2) ∧ unlessK (bit m e.1) (chkRP G sp fn j m env op v allocs B0 l)
def chkAllP (G : Γ) (sp : SpF) (fn : FuncId) (allocs : List (Nat × Nat × O)) (B0 : Bs) (effs : List (Nat × Bs)) : List (Nat × Nat × Env × Op × V) → Prop
  | [] => True
  | r :: l => chkRP G sp fn r.1 r.2.1 r.2.2.1 r.2.2.2.1 r.2.2.2.2 allocs B0 effs ∧ chkAllP G sp fn allocs B0 effs l
def regDW (G : Γ) (sp : SpF) (call : CallK) (fn : FuncId) (ops : Array Oper) (env : Env) (h : H) (K : Env → H → Prop) : Prop :=
  runDW G sp call fn ops h.next (ancs ops.toList 0 .leaf) 0 ⟨env, ⟨0, ⟨h.tr, Nat.add h.next ops.toList.length⟩⟩, [], [], []⟩ fun s =>
    chkAllP G sp fn s.allocs ⟨0, ⟨h.tr, Nat.add h.next ops.toList.length⟩⟩ s.effs s.reads ∧
    K s.env (hv s.base (Nat.sub (Nat.pow 2 ops.toList.length) 1) s.allocs)
abbrev EvK := Code → Option Nat → FuncId → St → (X → St → Prop) → Prop
def optK {α β : Type} (r : Option (α × β)) (K : α → β → Prop) : Prop :=
  match r with
  | some (a, b) => K a b
  | none => False
def callBodyW (G : Γ) (ev : EvK) (f : FuncId) (fn : Func) (c : Code) (args : List V) (h : H) (K : V → H → Prop) : Prop :=
  match Nat.ble args.length fn.ntmps with
  | true => ev c none f ⟨⟨fn.ntmps, putArgs 0 args .leaf⟩, h, []⟩ fun x st =>
    match x with
    | .exit _ => False
    | _ => match takeAll st.defs st.h with
      | some h' => match resultsO G h' st.env fn with
        | some v => K v h'
        | none => False
      | none => False
  | false => False
def callGoW (G : Γ) (kx : KX) (must : FuncId → Bool) (ev : EvK) (f : FuncId) (args : List V) (h : H) (K : V → H → Prop) : Prop :=
  match G.funcs.get f with
  | none => False
  | some fn => match fn.body with
    | none => False
    | some c => match kx f args h with
      | some (b, r1, r2) => match or (must f) (bog r1.1) with
        | true => b = false ∧ K r2.1 r2.2
        | false => (b = true → K r1.1 r1.2) ∧ (b = false → K r2.1 r2.2)
      | none => match G.ext f args h with
        | some r => K r.1 r.2
        | none => callBodyW G ev f fn c args h K
def callFnW (G : Γ) (kx : KX) (must : FuncId → Bool) (ev : EvK) (f : FuncId) (args : List V) (h : H) (K : V → H → Prop) : Prop :=
  match G.rows f with
  | some r => optK (callRow r args h) K
  | none => callGoW G kx must ev f args h K
def callYieldW (ev : EvK) (l : Nat) (args : List V) (h : H) (K : V → H → Prop) : Prop :=
  match h.tr.get l with
  | some (.loop lp) =>
    match putTmps lp.params args lp.tmps with
    | some env => ev lp.assign (some l) lp.fn ⟨env, h, []⟩ fun x st =>
      match x with
      | .normal =>
        match st.h.tr.get l, st.defs with
        | some (.loop lp'), [] =>
          match isReady lp'.state with
          | true =>
            ev lp.body (some l) lp.fn ⟨st.env, st.h.set l (some (.loop { lp' with state := .busy })), []⟩ fun x st2 =>
              match st2.h.tr.get l, st2.defs with
              | some (.loop lp''), [] => match jumpOf x with
                | none => K (.bool true) (st2.h.set l (some (.loop { lp'' with state := .ready, pending := none })))
                | some j => K (.bool false) (st2.h.set l (some (.loop { lp'' with state := .done, pending := some j })))
              | _, _ => False
          | false => False
        | _, _ => False
      | _ => False
    | none => False
  | _ => False
def callTW (G : Γ) (kx : KX) (must : FuncId → Bool) (ev : EvK) (t : Tgt) (h : H) (K : V → H → Prop) : Prop :=
  match t with
  | .fn f args => callFnW G kx must ev f args h K
  | .yield l args => callYieldW ev l args h K
def rangeFW (G : Γ) (kx : KX) (must : FuncId → Bool) (ev : EvK) (f : Operand) (params : Array Tmp) (assign body : Code) (rd : Option Nat) (fn : FuncId) (st : St) (K : X → St → Prop) : Prop :=
  match st.env.get f, rd with
  | some (.func (.func g) first captured), none =>
    callGoW G kx must ev g (first ++ [.func (.yield (Nat.succ st.h.next)) [] []] ++ captured)
        ((st.h.add .deferred).add (.loop ⟨.ready, none, fn, st.env, params.toList, assign, body, st.h.next⟩)) fun _ h =>
      optK (endRange (Nat.succ st.h.next) st.env (st.h.next :: st.defs) h) K
  | some (.func (.func g) first captured), some l0 =>
    match st.h.tr.get l0 with
    | some (.loop lp0) =>
      callGoW G kx must ev g (first ++ [.func (.yield st.h.next) [] []] ++ captured)
          (st.h.add (.loop ⟨.ready, none, fn, st.env, params.toList, assign, body, lp0.defers⟩)) fun _ h =>
        optK (endRange st.h.next st.env st.defs h) K
    | _ => False
  | _, _ => False
def evW (G : Γ) (sp : SpF) : Nat → EvK
  | 0, _, _, _, _, _ => False
  | n + 1, c, rd, fn, ⟨env, h, defs⟩, K =>
    match c with
    | .skip => K .normal ⟨env, h, defs⟩
    | .region _ ops draw =>
      match draw with
      | false => regW G sp (callTW G sp.kx sp.must (evW G sp n)) fn ops ops.toList env h fun env' h' => K .normal ⟨env', h', defs⟩
      | true => regDW G sp (callTW G sp.kx sp.must (evW G sp n)) fn ops env h fun env' h' => K .normal ⟨env', h', defs⟩
    | .seq a b => evW G sp n a rd fn ⟨env, h, defs⟩ fun x st' =>
      match x with
      | .normal => evW G sp n b rd fn st' K
      | x => K x st'
    | .cond c a b => match env.get c with
      | some (.bool true) => evW G sp n a rd fn ⟨env, h, defs⟩ K
      | some (.bool false) => evW G sp n b rd fn ⟨env, h, defs⟩ K
      | _ => False
    | .block id b => evW G sp n b rd fn ⟨env, h, defs⟩ fun x st' =>
      match x with
      | .exit id' => match Nat.beq id' id with
        | true => K .normal st'
        | false => K (.exit id') st'
      | x => K x st'
    | .loop b => evW G sp n b rd fn ⟨env, h, defs⟩ fun x st' =>
      match x with
      | .normal => evW G sp n (.loop b) rd fn st' K
      | x => K x st'
    | .exit id => K (.exit id) ⟨env, h, defs⟩
    | .ret => K .ret ⟨env, h, defs⟩
    | .rangeFunc f params assign body => rangeFW G sp.kx sp.must (evW G sp n) f params assign body rd fn ⟨env, h, defs⟩ K
    | _ => False
/-- a call, but for what is known of the function itself -/
def fnW (G : Γ) (sp : SpF) (n : Nat) (f : FuncId) (args : List V) (h : H) (K : V → H → Prop) : Prop :=
  match G.funcs.get f with
  | none => False
  | some fn => match fn.body with
    | none => False
    | some c => callBodyW G (evW G sp n) f fn c args h K
end

/-! ### it says what the evaluator does -/
theorem putK_eq {env : Env} {d : Option Tmp} {v : V} {K : Env → Prop} (h : putK env d v K) : ∃ e, env.put d v = some e ∧ K e := by
  unfold putK at h
  split at h
  · exact ⟨_, by assumption, h⟩
  · cases h
theorem uptoK_at {k : IntKind} {x : Int} {K : V → Prop} : ∀ {n : Nat}, uptoK n k x K → ∀ m, m < n → x = Int.ofNat m → K (.int k x)
  | n + 1, h, m, hm, hx => by
    obtain ⟨h1, h2⟩ := h
    rcases Nat.lt_or_ge m n with q | q
    · exact uptoK_at h1 m q hx
    · have : m = n := by omega
      subst this
      have := h2 hx
      rw [hx]; exact this
theorem splitK_eq {s : Sp} {v : V} {K : V → Prop} (h : splitK s v K) : K v := by
  unfold splitK at h
  split at h
  · rename_i b
    cases b
    · exact h.2 rfl
    · exact h.1 rfl
  · rw [h.1]; exact h.2
  · obtain ⟨h1, h2, h3⟩ := h
    rename_i x
    cases x with
    | ofNat m => exact uptoK_at h3 m (Nat.le_of_ble_eq_true h2) rfl
    | negSucc m => cases h1
  · exact h _ rfl
  · exact h
theorem putW_eq {sp : SpF} {f : FuncId} {env : Env} {d : Option Tmp} {v : V} {K : Env → Prop} (h : putW sp f env d v K) : ∃ e, env.put d v = some e ∧ K e := by
  unfold putW at h
  split at h
  · exact ⟨env, rfl, h⟩
  · exact putK_eq (splitK_eq h)
/-- a call says what it does -/
def CallOK (ck : CallK) (cf : CallF) : Prop := ∀ t h K, ck t h K → ∃ v h', cf t h = some (v, h') ∧ K v h'
def EvKOK (ek : EvK) (ev : EvC) : Prop := ∀ c rd fn st K, ek c rd fn st K → ∃ x st', ev c rd fn st = some (x, st') ∧ K x st'
theorem optK_eq {α β : Type} {r : Option (α × β)} {K : α → β → Prop} (h : optK r K) : ∃ a b, r = some (a, b) ∧ K a b := by
  unfold optK at h
  split at h
  · exact ⟨_, _, rfl, h⟩
  · cases h
/-- what is known in two cases is what is known -/
def KxOK (G : Γ) (kx : KX) : Prop := ∀ f args h b r1 r2, kx f args h = some (b, r1, r2) → (b = true → bog r1.1 = false → G.ext f args h = some r1) ∧ (b = false → G.ext f args h = some r2)
section
variable {G : Γ} {sp : SpF}
theorem idx_of {i : Int} {n : Nat} (h0 : ilt i 0 = false) (h1 : ilt i (Int.ofNat n) = true) : idx i n = some i.toNat := by
  cases i with
  | ofNat k =>
    have : Nat.blt k n = true := h1
    simp only [idx, this]; rfl
  | negSucc k => cases h0
theorem idxW_eq {ty : Option TY} {x ix : Option V} {K : V → Prop} (h : idxW G ty x ix K) : ∃ v, pIndexAddr G ty x ix = some v ∧ K v := by
  unfold idxW at h
  split at h
  · split at h
    · rename_i q1
      split at h
      · rename_i q2
        obtain ⟨h0, h1, h2⟩ := h
        exact ⟨_, by simp only [pIndexAddr, q1, idx_of h0 h1, q2], h2⟩
      · cases h
    · cases h
  · split at h
    · rename_i q1
      split at h
      · rename_i q2
        obtain ⟨h0, h1, h2⟩ := h
        exact ⟨_, by simp only [pIndexAddr, q1, idx_of h0 h1, q2], h2⟩
      · cases h
    · cases h
  · cases h
theorem storeW_eq {ty : Option TY} {h : H} {a x : Option V} {K : V → H → Prop} (hw : storeW ty h a x K) : ∃ v h', fStore ty h a x = some (v, h') ∧ K v h' := by
  have key : ∀ (ty : TY) (b o : Nat) (v : V), storeW (some ty) h (some (.ptr b o)) (some v) K → ∃ u h', fStore (some ty) h (some (.ptr b o)) (some v) = some (u, h') ∧ K u h' := fun ty b o v hw => by
    simp only [storeW] at hw
    cases q1 : h.tr.get b with
    | none => rw [q1] at hw; cases hw
    | some obj =>
      rw [q1] at hw
      cases obj with
      | cells e n pat tr =>
        cases q2 : Nat.beq ty.size 1 with
        | false => rw [q2] at hw; cases v <;> cases hw
        | true =>
          rw [q2] at hw
          cases v with
          | agg a b c => cases hw
          | tuple l => cases hw
          | _ => exact ⟨_, _, by simp only [fStore, q1, q2, hw.1, Bool.and_self], hw.2⟩
      | _ => cases hw
  unfold storeW at hw
  split at hw
  · refine key _ _ _ _ ?_
    unfold storeW
    exact hw
  · cases hw
theorem makeW_eq {ty : Option TY} {l c : Option V} {h : H} {K : V → H → Prop} (hw : makeW G ty l c h K) : ∃ obj v, aMakeSlice G ty l c h.next = some (obj, v) ∧ K v (h.add obj) := by
  unfold makeW at hw
  split at hw
  · rename_i ty k1 l k2 c
    split at hw
    · rename_i elem q1
      split at hw
      · rename_i te q2
        split at hw
        · rename_i z q3 q4
          obtain ⟨h1, h2, h3, h4⟩ := hw
          cases l with
          | negSucc l => cases h1
          | ofNat l =>
            cases c with
            | negSucc c => cases h2
            | ofNat c =>
              have h2 : Nat.blt c l = false := h2
              have h3 : Nat.blt c 100001 = true := h3
              have e1 : Nat.ble l c = true := by
                cases q : Nat.ble l c with
                | true => rfl
                | false =>
                  exfalso
                  have : ¬ c < l := fun hlt => by
                    have := Nat.ble_eq_true_of_le (show c + 1 ≤ l from hlt)
                    rw [show Nat.blt c l = Nat.ble (c + 1) l from rfl, this] at h2
                    cases h2
                  have := Nat.ble_eq_true_of_le (Nat.le_of_not_lt this)
                  rw [q] at this
                  cases this
              have e2 : Nat.ble c 100000 = true := Nat.ble_eq_true_of_le (Nat.le_of_lt_succ (Nat.le_of_ble_eq_true h3))
              exact ⟨_, _, by simp only [aMakeSlice, q1, q2, q3, e1, e2, q4, Bool.and_self]; rfl, h4⟩
        · cases hw
      · cases hw
    · cases hw
  · cases hw
theorem eqFieldsB_eq {eq eq' : TypeId → V → V → Option Bool} (he : ∀ t x y b, eq t x y = some b → eq' t x y = some b) {n : Nat} {pat : List V} {tr : T V} {n' : Nat} {pat' : List V} {tr' : T V} :
    ∀ {fs : List Field} {b : Bool}, eqFieldsB G eq n pat tr n' pat' tr' fs = some b → eqFields G eq' n pat tr n' pat' tr' fs = some b
  | [], b, h => h
  | f :: fs, b, h => by
    unfold eqFieldsB at h
    unfold eqFields
    split at h
    · cases h
    · rename_i q1
      simp only [q1]
      split at h
      · cases h
      · rename_i q2
        simp only [q2]
        split at h
        · rename_i q3 q4
          simp only [q3, q4]
          split at h
          · rename_i x y q5 q6
            cases h
            simp only [he _ _ _ _ q5]
            cases x with
            | true => simpa using eqFieldsB_eq he q6
            | false => rfl
          · cases h
        · cases h
theorem eqElemsB_eq {eq eq' : V → V → Option Bool} (he : ∀ x y b, eq x y = some b → eq' x y = some b) {agg : Bool} {s : Nat} {n : Nat} {pat : List V} {tr : T V} {n' : Nat} {pat' : List V} {tr' : T V} :
    ∀ {k i : Nat} {b : Bool}, eqElemsB eq agg s n pat tr n' pat' tr' i k = some b → eqElems eq' agg s n pat tr n' pat' tr' i k = some b
  | 0, i, b, h => h
  | k + 1, i, b, h => by
    unfold eqElemsB at h
    unfold eqElems
    split at h
    · rename_i q3 q4
      simp only [q3, q4]
      split at h
      · rename_i x y q5 q6
        cases h
        simp only [he _ _ _ q5]
        cases x with
        | true => simpa using eqElemsB_eq he q6
        | false => rfl
      · cases h
    · cases h
theorem eqB_eq : ∀ (d : Nat) (t : TypeId) (x y : V) (b : Bool), eqB G d t x y = some b → eqO G d t x y = some b
  | 0, _, _, _, _, h => by cases h
  | d + 1, t, x, y, b, h => by
    unfold eqB at h
    split at h
    · split at h
      · cases h
      · rename_i q1
        unfold eqO
        simp only [q1]
        split at h
        · rename_i q2
          simp only [q2]
          split at h
          · rename_i q3
            simp only [q3]
            exact eqFieldsB_eq (eqB_eq d) h
          · cases h
        · rename_i q2
          simp only [q2]
          split at h
          · rename_i q3 q4
            simp only [q3, q4]
            exact eqElemsB_eq (fun x y b => eqB_eq d _ x y b) h
          · cases h
        · cases h
    · exact h
theorem binW_eq {op : BinOp} {t : TypeId} {c : Bool} {x y : Option V} {K : V → Prop} (h : binW G op t c x y K) : ∃ v, pBin G op t c x y = some v ∧ K v := by
  unfold binW at h
  split at h
  · split at h
    · rename_i q
      exact ⟨_, by simp only [pBin, q, intBin, h.1], h.2⟩
    · cases h
  · split at h
    · rename_i q
      exact ⟨_, by simp only [pBin, q, intBin, h.1], h.2⟩
    · cases h
  · split at h
    · rename_i q
      exact ⟨_, by simp only [pBin, ptr2, eqB_eq _ _ _ _ _ q], h⟩
    · cases h
  · split at h
    · rename_i q
      exact ⟨_, by simp only [pBin, eqB_eq _ _ _ _ _ q], h⟩
    · cases h
  · exact ⟨_, by simp only [pBin, strBin, h.1], h.2⟩
  · split at h
    · rename_i q
      exact ⟨_, q, h⟩
    · cases h
theorem LK.all_at : ∀ {ks : List LK} {acc l : List V} {K : List V → Prop}, LK.all ks acc K → LK.shape ks l → K (acc ++ l)
  | [], acc, [], K, h, _ => by rw [List.append_nil]; exact h
  | [], _, _ :: _, _, _, h => by cases h
  | .int k :: ks, acc, [], _, _, h => by cases h
  | .str :: ks, acc, [], _, _, h => by cases h
  | .int k :: ks, acc, v :: vs, K, h, hs => by
    cases v with
    | int k' x =>
      obtain ⟨rfl, hs⟩ := hs
      have := LK.all_at (h x) hs
      simpa using this
    | _ => cases hs
  | .str :: ks, acc, v :: vs, K, h, hs => by
    cases v with
    | str x =>
      have := LK.all_at (h x) hs
      simpa using this
    | _ => cases hs
theorem ldK_eq {r : Option V} {s : Sp} {K : V → Prop} (h : ldK r s K) : ∃ v, r = some v ∧ K v := by
  unfold ldK at h
  split at h
  · obtain ⟨⟨x, q⟩, h⟩ := h; exact ⟨_, q, h x q⟩
  · obtain ⟨⟨x, q⟩, h⟩ := h; exact ⟨_, q, h x q⟩
  · obtain ⟨⟨l, q, hs⟩, h⟩ := h
    have h := LK.all_at h hs
    rw [List.nil_append] at h
    exact ⟨_, q, h q⟩
  · cases h
theorem stepG_eq {ck : CallK} {cf : CallF} (hc : CallOK ck cf) {env : Env} {h : H} {o : Oper} {K : V → H → Prop} (hw : stepG G ck env h o K) : ∃ v h', step1 G cf env h o = some (v, h') ∧ K v h' := by
  unfold stepG at hw
  unfold step1
  generalize act G env.get o.op = A at hw
  cases A with
  | val v =>
    cases v with
    | none => cases hw
    | some v => exact ⟨v, h, rfl, hw⟩
  | rd f =>
    simp only at hw ⊢
    split at hw
    · rename_i q2
      simp only [q2]; exact ⟨_, _, rfl, hw⟩
    · cases hw
  | al f =>
    simp only at hw ⊢
    split at hw
    · rename_i q2
      simp only [q2]; exact ⟨_, _, rfl, hw⟩
    · cases hw
  | ef f =>
    simp only at hw ⊢
    split at hw
    · rename_i q2
      simp only [q2]; exact ⟨_, _, rfl, hw⟩
    · cases hw
  | call t =>
    cases t with
    | none => cases hw
    | some t => exact hc _ _ _ hw
theorem slW_eq {G : Γ} {ty : Option TY} {e : Operand → Option V} {x : Operand} {lo hi mx : Option Operand} {v : V} (h : slW G ty e x lo hi mx v) : pSlice G ty e x lo hi mx = some v := by
  unfold slW at h
  split at h
  · rename_i ty b o len c es p b' o' n c' es' hx
    split at h
    · rename_i elem k i hd hp
      split at h
      · rename_i te hte
        obtain ⟨rfl, h2, rfl, rfl, rfl, rfl, h3⟩ := h
        have h2' := Nat.le_of_ble_eq_true h2
        have e1 : idx (Int.ofNat n) (Nat.succ c') = some n := by
          have : Nat.blt n (Nat.succ c') = true := Nat.ble_eq_true_of_le (by omega)
          simp only [idx, this]
        have hb : bnds e none (some p) none len c' = some (0, n, c') := by
          simp only [bnds, bnd, hp, e1]
        have e2 : Nat.ble n c' = true := h2
        simp only [pSlice, hx, hd, hb, hte, h3, e2, Bool.and_self]
        have r1 : Nat.add o' (Nat.mul 0 te.size) = o' := by show o' + 0 * te.size = o'; omega
        have r2 : Nat.sub n 0 = n := rfl
        have r3 : Nat.sub c' 0 = c' := rfl
        rw [r1, r2, r3]
      · cases h
    · cases h
  · cases h
theorem stepW_eq {ck : CallK} {cf : CallF} (hc : CallOK ck cf) {env : Env} {h : H} {o : Oper} {K : V → H → Prop} {fn : FuncId} (hw : stepW G sp ck fn env h o K) : ∃ v h', step1 G cf env h o = some (v, h') ∧ K v h' := by
  unfold stepW at hw
  split at hw
  · rename_i q
    obtain ⟨v, q1, hw⟩ := binW_eq hw
    exact ⟨v, h, by simp only [step1, act, q, q1], hw⟩
  · rename_i q
    split at hw
    · obtain ⟨v, q1, hw⟩ := idxW_eq hw
      exact ⟨v, h, by simp only [step1, act, q, q1], hw⟩
    · exact stepG_eq hc hw
  · rename_i q
    split at hw
    · obtain ⟨v, h', q1, hw⟩ := storeW_eq hw
      exact ⟨v, h', by simp only [step1, act, q, q1], hw⟩
    · exact stepG_eq hc hw
  · rename_i q
    split at hw
    · obtain ⟨obj, v, q1, hw⟩ := makeW_eq hw
      exact ⟨v, _, by simp only [step1, act, q, q1], hw⟩
    · exact stepG_eq hc hw
  · rename_i q
    split at hw
    · obtain ⟨v, q1, hw⟩ := ldK_eq hw
      exact ⟨v, h, by simp only [step1, act, q, q1], hw⟩
    · exact stepG_eq hc hw
  · rename_i q
    split at hw
    · obtain ⟨q1, hw⟩ := hw
      exact ⟨_, h, by simp only [step1, act, q, slW_eq q1], hw⟩
    · exact stepG_eq hc hw
  · exact stepG_eq hc hw
theorem regW_eq {ck : CallK} {cf : CallF} (hc : CallOK ck cf) {fn : FuncId} {ops : Array Oper} : ∀ {l : List Oper} {env : Env} {h : H} {K : Env → H → Prop}, regW G sp ck fn ops l env h K → ∃ env' h', regS G cf ops l env h = some (env', h') ∧ K env' h'
  | [], env, h, K, hw => ⟨env, h, rfl, hw⟩
  | o :: rest, env, h, K, hw => by
    unfold regW at hw
    unfold regS
    split at hw
    · rename_i q
      rw [q]
      obtain ⟨v, h', q1, hw⟩ := stepW_eq hc hw
      obtain ⟨e, q2, hw⟩ := putW_eq hw
      simp only [q1, q2]
      exact regW_eq hc hw
    · rename_i q
      rw [q]
      obtain ⟨e, q2, hw⟩ := putK_eq hw
      simp only [q2]
      exact regW_eq hc hw
    · cases hw
theorem stepDG_eq {ck : CallK} {cf : CallF} (hc : CallOK ck cf) {fn : FuncId} {n0 i m : Nat} {env : Env} {base : Bs} {allocs : List (Nat × Nat × O)} {effs : List (Nat × Bs)} {reads : List (Nat × Nat × Env × Op × V)} {o : Oper} {K : DS → Prop}
    (hw : stepDG G sp ck fn n0 i m env base allocs effs reads o K) : ∃ s, stepD G cf n0 i m env base allocs effs reads o = some s ∧ K s := by
  unfold stepDG at hw
  unfold stepD
  generalize act G env.get o.op = A at hw
  cases A with
  | val v =>
    cases v with
    | none => cases hw
    | some v =>
      obtain ⟨e, q2, hw⟩ := putW_eq hw
      simp only [q2]; exact ⟨_, rfl, hw⟩
  | rd f =>
    simp only at hw ⊢
    split at hw
    · rename_i q3
      obtain ⟨e, q2, hw⟩ := putW_eq hw
      simp only [q3, q2]; exact ⟨_, rfl, hw⟩
    · cases hw
  | al f =>
    simp only at hw ⊢
    split at hw
    · rename_i q3
      obtain ⟨e, q2, hw⟩ := putW_eq hw
      simp only [q3, q2]; exact ⟨_, rfl, hw⟩
    · cases hw
  | ef f =>
    simp only at hw ⊢
    split at hw
    · split at hw
      · rename_i q3
        obtain ⟨⟨s, h, q4⟩, hw⟩ := hw
        obtain ⟨e, q2, hw⟩ := putW_eq (hw s h q4)
        simp only [q3, q4, q2]; exact ⟨_, rfl, hw⟩
      · cases hw
    · split at hw
      · rename_i q3 q4
        obtain ⟨e, q2, hw⟩ := putW_eq hw
        simp only [q3, q4, q2]; exact ⟨_, rfl, hw⟩
      · cases hw
  | call t =>
    cases t with
    | none => cases hw
    | some t =>
      simp only at hw ⊢
      split at hw
      · rename_i q3
        obtain ⟨v, h', q4, hw⟩ := hc _ _ _ hw
        obtain ⟨e, q2, hw⟩ := putW_eq hw
        simp only [q3, q4, q2]; exact ⟨_, rfl, hw⟩
      · cases hw
theorem stepDW_eq {ck : CallK} {cf : CallF} (hc : CallOK ck cf) {fn : FuncId} {n0 i m : Nat} {env : Env} {base : Bs} {allocs : List (Nat × Nat × O)} {effs : List (Nat × Bs)} {reads : List (Nat × Nat × Env × Op × V)} {o : Oper} {K : DS → Prop}
    (hw : stepDW G sp ck fn n0 i m env base allocs effs reads o K) : ∃ s, stepD G cf n0 i m env base allocs effs reads o = some s ∧ K s := by
  unfold stepDW at hw
  split at hw
  · rename_i q
    obtain ⟨v, q1, hw⟩ := binW_eq hw
    obtain ⟨e, q2, hw⟩ := putW_eq hw
    exact ⟨_, by simp only [stepD, act, q, q1, q2], hw⟩
  · rename_i q
    split at hw
    · obtain ⟨v, q1, hw⟩ := idxW_eq hw
      obtain ⟨e, q2, hw⟩ := putW_eq hw
      exact ⟨_, by simp only [stepD, act, q, q1, q2], hw⟩
    · exact stepDG_eq hc hw
  · rename_i q
    split at hw
    · obtain ⟨v, q1, hw⟩ := ldK_eq hw
      obtain ⟨e, q2, hw⟩ := putW_eq hw
      rw [q] at hw
      exact ⟨_, by simp only [stepD, act, q, q1, q2], hw⟩
    · exact stepDG_eq hc hw
  · exact stepDG_eq hc hw
theorem runDW_eq {ck : CallK} {cf : CallF} (hc : CallOK ck cf) {fn : FuncId} {ops : Array Oper} {n0 : Nat} : ∀ {l : List (Oper × Nat)} {i : Nat} {s : DS} {K : DS → Prop}, runDW G sp ck fn ops n0 l i s K → ∃ s', runD G cf ops n0 l i s = some s' ∧ K s'
  | [], i, s, K, hw => ⟨s, rfl, hw⟩
  | p :: rest, i, ⟨env, base, allocs, effs, reads⟩, K, hw => by
    unfold runDW at hw
    unfold runD
    split at hw
    · rename_i q
      rw [q]
      obtain ⟨s', q1, hw⟩ := stepDW_eq hc hw
      simp only [q1]
      exact runDW_eq hc hw
    · rename_i q
      rw [q]
      obtain ⟨e, q2, hw⟩ := putK_eq hw
      simp only [q2]
      exact runDW_eq hc hw
    · cases hw
theorem listP_eq {eq : V → V → Prop} {beq : V → V → Bool} (he : ∀ x y, eq x y → beq x y = true) : ∀ {a b : List V}, listP eq a b → beqList beq a b = true
  | [], [], _ => rfl
  | x :: a, y :: b, h => by
    simp only [beqList, he _ _ h.1, listP_eq he h.2, Bool.and_self]
  | [], _ :: _, h => by cases h
  | _ :: _, [], h => by cases h
theorem cellsP_eq {eq : V → V → Prop} {beq : V → V → Bool} (he : ∀ x y, eq x y → beq x y = true) {n : Nat} {pat : List V} {tr : T V} {pat' : List V} {tr' : T V} : ∀ {k i : Nat}, cellsP eq n pat tr pat' tr' i k → beqCells beq n pat tr pat' tr' i k = true
  | 0, i, _ => rfl
  | k + 1, i, h => by
    unfold cellsP at h
    unfold beqCells
    split at h
    · rename_i q1 q2
      simp only [q1, q2, he _ _ h.1, cellsP_eq he h.2, Bool.and_self]
    · cases h
theorem ieq_refl (a : Int) : ieq a a = true := by
  cases a <;> simp [ieq]
theorem eqP_eq : ∀ (d : Nat) (x y : V), V.eqP d x y → V.beq d x y = true
  | 0, _, _, h => by cases h
  | d + 1, x, y, h => by
    unfold V.eqP at h
    split at h
    · subst h; simp [V.beq]
    · split at h
      · rename_i q
        subst h
        simp [V.beq, q, ieq_refl]
      · cases h
    · subst h; simp [V.beq]
    · split at h
      · rename_i q
        obtain ⟨h1, h2, h3⟩ := h
        subst h1 h2 h3
        simp [V.beq, q]
      · cases h
    · split at h
      · rename_i q
        simp only [V.beq, q, cellsP_eq (eqP_eq d) h, Bool.and_self]
      · cases h
    · simp only [V.beq, listP_eq (eqP_eq d) h]
    · split at h
      · assumption
      · cases h
theorem chkAtP_eq {m : Nat} {env : Env} {op : Op} {v : V} {allocs : List (Nat × Nat × O)} {B : Bs} {fn : FuncId} (h : chkAtP G sp fn m env op v allocs B) : chkAt G m env op v allocs B = true := by
  unfold chkAtP at h
  unfold chkAt
  generalize act G env.get op = A at h
  cases A with
  | rd f =>
    simp only at h ⊢
    split at h
    · simp only [h.1]; exact eqP_eq _ _ _ h.2
    · split at h
      · rename_i q
        simp only [q]; exact eqP_eq _ _ _ h
      · cases h
  | _ => cases h
theorem unlessK_eq {b c : Bool} {p : Prop} (h : unlessK b p) (hp : p → c = true) : (b || c) = true := by
  cases b with
  | true => rfl
  | false => simpa using hp h
theorem chkRP_eq {j m : Nat} {env : Env} {op : Op} {v : V} {allocs : List (Nat × Nat × O)} {B0 : Bs} {fn : FuncId} : ∀ {effs : List (Nat × Bs)}, chkRP G sp fn j m env op v allocs B0 effs → chkR G j m env op v allocs B0 effs = true
  | [], h => chkAtP_eq h
  | e :: l, h => by
    unfold chkR
    simp only [unlessK_eq h.1 chkAtP_eq, unlessK_eq h.2 chkRP_eq, Bool.and_self]
theorem chkAllP_eq {allocs : List (Nat × Nat × O)} {B0 : Bs} {effs : List (Nat × Bs)} {fn : FuncId} : ∀ {l : List (Nat × Nat × Env × Op × V)}, chkAllP G sp fn allocs B0 effs l → chkAll G allocs B0 effs l = true
  | [], _ => rfl
  | r :: l, h => by
    unfold chkAll
    simp only [chkRP_eq h.1, chkAllP_eq h.2, Bool.and_self]
theorem regDW_eq {ck : CallK} {cf : CallF} (hc : CallOK ck cf) {fn : FuncId} {ops : Array Oper} {env : Env} {h : H} {K : Env → H → Prop} (hw : regDW G sp ck fn ops env h K) : ∃ env' h', regD G cf ops env h = some (env', h') ∧ K env' h' := by
  unfold regDW at hw
  unfold regD
  obtain ⟨s, q1, hc, hw⟩ := runDW_eq hc hw
  simp only [q1, chkAllP_eq hc]
  exact ⟨_, _, rfl, hw⟩
theorem callBodyW_eq {ek : EvK} {ev : EvC} (he : EvKOK ek ev) {f : FuncId} {fn : Func} {c : Code} {args : List V} {h : H} {K : V → H → Prop} (hw : callBodyW G ek f fn c args h K) : ∃ v h', callBody G ev f fn c args h = some (v, h') ∧ K v h' := by
  unfold callBodyW at hw
  unfold callBody
  split at hw
  · rename_i q
    rw [q]
    obtain ⟨x, st, q1, hw⟩ := he _ _ _ _ _ hw
    simp only [q1]
    cases x with
    | exit _ => cases hw
    | normal =>
      simp only at hw ⊢
      split at hw
      · rename_i q2
        simp only [q2]
        split at hw
        · rename_i q3
          simp only [q3]; exact ⟨_, _, rfl, hw⟩
        · cases hw
      · cases hw
    | ret =>
      simp only at hw ⊢
      split at hw
      · rename_i q2
        simp only [q2]
        split at hw
        · rename_i q3
          simp only [q3]; exact ⟨_, _, rfl, hw⟩
        · cases hw
      · cases hw
  · cases hw
theorem callGoW_eq {kx : KX} {must : FuncId → Bool} (hk : KxOK G kx) {ek : EvK} {ev : EvC} (he : EvKOK ek ev) {f : FuncId} {args : List V} {h : H} {K : V → H → Prop} (hw : callGoW G kx must ek f args h K) : ∃ v h', callGo G ev f args h = some (v, h') ∧ K v h' := by
  unfold callGoW at hw
  unfold callGo
  split at hw
  · cases hw
  · rename_i q
    rw [q]
    simp only
    split at hw
    · cases hw
    · rename_i q1
      simp only [q1]
      split at hw
      · rename_i b r1 r2 q0
        have q2 := hk _ _ _ _ _ _ q0
        split at hw
        · obtain ⟨h1, h2⟩ := hw
          simp only [q2.2 h1]
          exact ⟨_, _, rfl, h2⟩
        · rename_i q3
          have q4 : bog r1.1 = false := by
            cases q5 : bog r1.1 with
            | false => rfl
            | true =>
              rw [q5] at q3
              cases q6 : must f <;> rw [q6] at q3 <;> cases q3
          cases b with
          | true => simp only [q2.1 rfl q4]; exact ⟨_, _, rfl, hw.1 rfl⟩
          | false => simp only [q2.2 rfl]; exact ⟨_, _, rfl, hw.2 rfl⟩
      · split at hw
        · rename_i r q2
          obtain ⟨v, h'⟩ := r
          simp only [q2]; exact ⟨v, h', rfl, hw⟩
        · rename_i q2
          simp only [q2]
          exact callBodyW_eq he hw
theorem callFnW_eq {kx : KX} {must : FuncId → Bool} (hk : KxOK G kx) {ek : EvK} {ev : EvC} (he : EvKOK ek ev) {f : FuncId} {args : List V} {h : H} {K : V → H → Prop} (hw : callFnW G kx must ek f args h K) : ∃ v h', callFn G ev f args h = some (v, h') ∧ K v h' := by
  unfold callFnW at hw
  unfold callFn
  split at hw
  · rename_i q
    rw [q]
    exact optK_eq hw
  · rename_i q
    rw [q]
    exact callGoW_eq hk he hw
theorem callYieldW_eq {ek : EvK} {ev : EvC} (he : EvKOK ek ev) {l : Nat} {args : List V} {h : H} {K : V → H → Prop} (hw : callYieldW ek l args h K) : ∃ v h', callYield ev l args h = some (v, h') ∧ K v h' := by
  unfold callYieldW at hw
  unfold callYield
  split at hw
  · rename_i q0
    simp only [q0]
    split at hw
    · rename_i q1
      simp only [q1]
      obtain ⟨x, st, q2, hw⟩ := he _ _ _ _ _ hw
      simp only [q2]
      cases x with
      | exit _ => cases hw
      | ret => cases hw
      | normal =>
        simp only at hw ⊢
        split at hw
        · rename_i q3 q4
          simp only [q3, q4]
          split at hw
          · rename_i q5
            simp only [q5]
            obtain ⟨x2, st2, q6, hw⟩ := he _ _ _ _ _ hw
            simp only [q6]
            split at hw
            · rename_i q7 q8
              simp only [q7, q8]
              split at hw
              · rename_i q9
                simp only [q9]; exact ⟨_, _, rfl, hw⟩
              · rename_i q9
                simp only [q9]; exact ⟨_, _, rfl, hw⟩
            · cases hw
          · cases hw
        · cases hw
    · cases hw
  · cases hw
theorem callTW_eq {kx : KX} {must : FuncId → Bool} (hk : KxOK G kx) {ek : EvK} {ev : EvC} (he : EvKOK ek ev) : CallOK (callTW G kx must ek) (callT G ev) := fun t h K hw => by
  unfold callTW at hw
  unfold callT
  split at hw
  · exact callFnW_eq hk he hw
  · exact callYieldW_eq he hw
theorem rangeFW_eq {kx : KX} {must : FuncId → Bool} (hk : KxOK G kx) {ek : EvK} {ev : EvC} (he : EvKOK ek ev) {f : Operand} {params : Array Tmp} {assign body : Code} {rd : Option Nat} {fn : FuncId} {st : St} {K : X → St → Prop} (hw : rangeFW G kx must ek f params assign body rd fn st K) : ∃ x st', rangeF G ev f params assign body rd fn st = some (x, st') ∧ K x st' := by
  unfold rangeFW at hw
  unfold rangeF
  split at hw
  · rename_i q
    simp only [q]
    obtain ⟨v, h, q1, hw⟩ := callGoW_eq hk he hw
    simp only [q1]
    exact optK_eq hw
  · rename_i q
    simp only [q]
    split at hw
    · rename_i q0
      simp only [q0]
      obtain ⟨v, h, q1, hw⟩ := callGoW_eq hk he hw
      simp only [q1]
      exact optK_eq hw
    · cases hw
  · cases hw
theorem evW_eq (hk : KxOK G sp.kx) : ∀ n, EvKOK (evW G sp n) (evC G n)
  | 0, c, rd, fn, st, K, hw => by cases hw
  | n + 1, c, rd, fn, ⟨env, h, defs⟩, K, hw => by
    have ih := evW_eq hk n
    cases c with
    | skip => exact ⟨_, _, rfl, hw⟩
    | region id ops draw =>
      cases draw with
      | false =>
        obtain ⟨e, h', q, hw⟩ := regW_eq (callTW_eq hk ih) hw
        exact ⟨_, _, by simp only [evC, q], hw⟩
      | true =>
        have hw : regDW G sp (callTW G sp.kx sp.must (evW G sp n)) fn ops env h fun env' h' => K .normal ⟨env', h', defs⟩ := hw
        obtain ⟨e, h', q, hw⟩ := regDW_eq (callTW_eq hk ih) hw
        exact ⟨_, _, by simp only [evC, q], hw⟩
    | seq a b =>
      obtain ⟨x, st', q, hw⟩ := ih _ _ _ _ _ hw
      cases x with
      | normal =>
        obtain ⟨x2, st2, q2, hw⟩ := ih _ _ _ _ _ hw
        exact ⟨x2, st2, by simp only [evC, q, q2], hw⟩
      | exit id => exact ⟨_, _, by simp only [evC, q], hw⟩
      | ret => exact ⟨_, _, by simp only [evC, q], hw⟩
    | cond c a b =>
      simp only [evW] at hw
      split at hw
      · rename_i q
        obtain ⟨x, st', q2, hw⟩ := ih _ _ _ _ _ hw
        exact ⟨x, st', by simp only [evC, q, q2], hw⟩
      · rename_i q
        obtain ⟨x, st', q2, hw⟩ := ih _ _ _ _ _ hw
        exact ⟨x, st', by simp only [evC, q, q2], hw⟩
      · cases hw
    | block id b =>
      obtain ⟨x, st', q, hw⟩ := ih _ _ _ _ _ hw
      cases x with
      | normal => exact ⟨_, _, by simp only [evC, q], hw⟩
      | ret => exact ⟨_, _, by simp only [evC, q], hw⟩
      | exit id' =>
        simp only at hw
        split at hw
        · rename_i q2
          exact ⟨_, _, by simp only [evC, q, q2], hw⟩
        · rename_i q2
          exact ⟨_, _, by simp only [evC, q, q2], hw⟩
    | loop b =>
      obtain ⟨x, st', q, hw⟩ := ih _ _ _ _ _ hw
      cases x with
      | normal =>
        obtain ⟨x2, st2, q2, hw⟩ := ih _ _ _ _ _ hw
        exact ⟨x2, st2, by simp only [evC, q, q2], hw⟩
      | exit id => exact ⟨_, _, by simp only [evC, q], hw⟩
      | ret => exact ⟨_, _, by simp only [evC, q], hw⟩
    | exit id => exact ⟨_, _, rfl, hw⟩
    | ret => exact ⟨_, _, rfl, hw⟩
    | rangeFunc f params assign body =>
      obtain ⟨x, st', q, hw⟩ := rangeFW_eq hk ih hw
      exact ⟨x, st', by simp only [evC, q], hw⟩
    | _ => cases hw
end

/-! ### use -/
section
variable {P : Program} {G : Γ} {sp : SpF} (hG : GOk P G) (hcodes : Codes G) (hext : ExtOK P G) (hk : KxOK G sp.kx)
theorem at_w (hG : GOk P G) (hcodes : Codes G) (hext : ExtOK P G) (hk : KxOK G sp.kx) {ρ0 : Ren} {h0 : H} {w0 : World} {st : St} {a : Act} {w : World} {k : Nat} {Q : Exit → Act → World → Prop} {N : Nat} {c : Code} {fn : FuncId} {K : X → St → Prop} (hA : At ρ0 h0 w0 st a w) (he : evW G sp N c none fn st K) (hok : okC c = true)
    (hQ : ∀ x st' a' w', K x st' → At ρ0 h0 w0 st' a' w' → Q (XE x) a' w') : c.wpIn Fence.wide k P Q a w := by
  obtain ⟨ρ, s1, s2, s3, s4⟩ := hA
  obtain ⟨x, st', e1, e2⟩ := evW_eq hk N _ _ _ _ _ he
  exact code_use hG hcodes hext e1 hok rfl s1 s3 s4 fun ρ' a' w' t1 t2 t3 t4 => hQ x st' a' w' e2 ⟨ρ', t1, s2.trans t2, t3, t4⟩
theorem call_w (hG : GOk P G) (hcodes : Codes G) (hext : ExtOK P G) (hk : KxOK G sp.kx) {N : Nat} {f : FuncId} {args : List V} {h : H} {K : V → H → Prop} (he : fnW G sp N f args h K) {ρ : Ren} {cargs : Array Value} {w : World} (ha : Rels ρ args cargs.toList) (hS : Sim ρ h w) (k : Nat) :
    CallsIn Fence.wide k P f cargs w (fun e w' => ∃ v h' c ρ', K v h' ∧ e = .returned c ∧ Sim ρ' h' w' ∧ Ext ρ h w ρ' h' w' ∧ Rel ρ' v c) := by
  unfold fnW at he
  split at he
  · cases he
  · rename_i fn q1
    split at he
    · cases he
    · rename_i c q2
      obtain ⟨v, h', e1, e2⟩ := callBodyW_eq (evW_eq hk N) he
      exact (callBody_ok hG (evC_ok hG hcodes hext N) (hG.funcs _ _ q1).1 q2 (hcodes _ _ _ q1 q2) e1 ha hS k).mono fun e w' ⟨c, x1, ρ', x2, x3, x4⟩ => ⟨v, h', c, ρ', e2, x1, x2, x3, x4⟩
end

/-! ### what is known of functions -/
/-- a function of values alone: memory stays -/
abbrev Known := FuncId × (List V → H → Option V)
def KnownOk (P : Program) (x : Known) : Prop :=
  ∀ args h v, x.2 args h = some v → ∀ ρ (cargs : Array Value) w, Rels ρ args cargs.toList → Sim ρ h w → ∀ n, CallsIn Fence.wide n P x.1 cargs w (fun e w' => ∃ c, e = .returned c ∧ Below w.heap.size w w' ∧ Rel ρ v c)
noncomputable def extL : List Known → FuncId → List V → H → Option (V × H)
  | [], _, _, _ => none
  | x :: l, f, args, h => match Nat.beq f x.1 with
    | true => match x.2 args h with
      | some v => some (v, h)
      | none => none
    | false => extL l f args h
theorem kx_none (G : Γ) : KxOK G (fun _ _ _ => none) := fun _ _ _ _ _ _ h => nomatch h
theorem extL_ok {P : Program} {G : Γ} {l : List Known} (hl : ∀ x, x ∈ l → KnownOk P x) (hG : G.ext = extL l) : ExtOK P G := by
  intro f args h v h' hr ρ cargs w ha hS n
  rw [hG] at hr
  clear hG
  induction l with
  | nil => cases hr
  | cons x l ih =>
    unfold extL at hr
    split at hr
    · rename_i q
      rw [T.beq_true] at q
      subst q
      split at hr
      · rename_i v' q2
        cases hr
        refine (hl x (by simp) args h v q2 ρ cargs w ha hS n).mono fun e w' ⟨c, e1, e2, e3⟩ => ?_
        obtain ⟨b1, b2⟩ := below_post hS e2
        exact ⟨c, e1, ρ, b1, b2, e3⟩
      · cases hr
    · exact ih (fun y hy => hl y (by simp [hy])) hr
end Go.Ev
/- Functions of plain values: what is known of them, from conditions. -/
namespace Go.Ev
open Go.RowKit
noncomputable section
/-- values without addresses -/
def pureS : V → Bool
  | .bool _ => true
  | .int _ _ => true
  | .str _ => true
  | .nilp => true
  | .nils => true
  | .nilm => true
  | .nilf => true
  | .nili => true
  | _ => false
def pureA : V → Bool
  | .agg n pat .leaf => Nat.beq n pat.length && pat.all pureS
  | v => pureS v
def pureV : V → Bool
  | .tuple l => l.all pureA
  | v => pureA v
def canon : V → Option V
  | .agg n pat tr => match gather n pat tr 0 n with
    | some l => match l.all pureS with
      | true => some (.agg l.length l .leaf)
      | false => none
    | none => none
  | v => match pureS v with
    | true => some v
    | false => none
def canonL (l : List V) : Option (List V) := optAll canon l
def canonV : V → Option V
  | .tuple l => match optAll canon l with
    | some r => some (.tuple r)
    | none => none
  | v => canon v
/-- memory of which nothing is known -/
def hE : H := ⟨.leaf, 1000⟩
def rE : Ren := fun g => if g < 1000 then some (g, 0, 0) else none
def known (F : List V → Option V) : List V → H → Option V := fun args _ => match canonL args with
  | some l => F l
  | none => none
end
theorem sim_E (w : World) : Sim rE hE w := by
  refine ⟨fun g hg => ⟨0, by simp [rE, hg]⟩, fun b L hb => ?_, fun b o hb => ?_, fun b b' o o' L L' hb => ?_⟩
  · simp only [rE] at hb
    split at hb
    · exact ‹b < 1000›
    · cases hb
  · simp [hE, T.get_leaf] at hb
  · simp [hE, T.get_leaf] at hb
theorem hE_ro : AllRo hE := fun b o h => by simp [hE, T.get_leaf] at h
theorem pureS_rel {v : V} (hp : pureS v = true) {ρ ρ' : Ren} {c : Value} (h : Rel ρ v c) : Rel ρ' v c := by
  cases h <;> first
    | (simp [pureS] at hp; done)
    | constructor
theorem pureA_rel {v : V} (hp : pureA v = true) {ρ ρ' : Ren} {c : Value} (h : Rel ρ v c) : Rel ρ' v c := by
  unfold pureA at hp
  split at hp
  · simp only [Bool.and_eq_true, T.beq_true, List.all_eq_true] at hp
    cases h with
    | agg h1 h2 h3 =>
      refine .agg h1 h2 fun i v x hv hx => ?_
      refine pureS_rel (hp.2 v ?_) (h3 i v x hv hx)
      have := cell_list _ i v (by rw [← hp.1]; exact hv)
      exact List.mem_of_getElem? this
  · exact pureS_rel hp h
theorem pureV_rel {v : V} (hp : pureV v = true) {ρ ρ' : Ren} {c : Value} (h : Rel ρ v c) : Rel ρ' v c := by
  unfold pureV at hp
  split at hp
  · simp only [List.all_eq_true] at hp
    cases h with
    | tuple h1 h2 => exact .tuple h1 fun i v x hv hx => pureA_rel (hp v (List.mem_of_getElem? hv)) (h2 i v x hv hx)
  · exact pureA_rel hp h
theorem canon_rel {v v' : V} (hc : canon v = some v') {ρ ρ' : Ren} {c : Value} (h : Rel ρ v c) : Rel ρ' v' c := by
  unfold canon at hc
  split at hc
  · split at hc
    · rename_i l hg
      split at hc
      · rename_i hp
        cases hc
        obtain ⟨g1, g2⟩ := gather_spec hg
        cases h with
        | agg h1 h2 h3 =>
          refine .agg (by rw [h1, g1]) h2 fun i u x hu hx => ?_
          have hm := cell_list l i u hu
          refine pureS_rel (List.all_eq_true.1 hp u (List.mem_of_getElem? hm)) (h3 i u x ?_ hx)
          have := g2 i u hm
          rwa [Nat.zero_add] at this
      · cases hc
    · cases hc
  · split at hc
    · rename_i hp
      cases hc
      exact pureS_rel hp h
    · cases hc
theorem canonL_rel {ρ ρ' : Ren} : ∀ {l l' : List V} {cs : List Value}, canonL l = some l' → Rels ρ l cs → Rels ρ' l' cs
  | [], l', cs, hc, h => by
    simp only [canonL, optAll] at hc
    cases hc
    rw [h.of_nil]; exact Rels.nil
  | v :: l, l', cs, hc, h => by
    simp only [canonL, optAll] at hc
    split at hc
    · rename_i v' hv
      split at hc
      · rename_i r hr
        cases hc
        obtain ⟨c, cs', rfl, h1, h2⟩ := h.uncons
        exact Rels.cons (canon_rel hv h1) (canonL_rel (l := l) hr h2)
      · cases hc
    · cases hc
theorem known_ok {P : Program} {G : Γ} {sp : SpF} (hG : GOk P G) (hcodes : Codes G) (hext : ExtOK P G) (hk : KxOK G sp.kx) {N : Nat} {f : FuncId} {F : List V → Option V} (hF : ∀ l v, F l = some v → pureV v = true ∧ fnW G sp N f l hE (fun u _ => u = v)) : KnownOk P (f, known F) := by
  intro args h v hv ρ cargs w ha hS n
  simp only [known] at hv
  split at hv
  · rename_i l hl
    obtain ⟨h1, h2⟩ := hF l v hv
    refine (call_w hG hcodes hext hk h2 (canonL_rel (ρ' := rE) hl ha) (sim_E w) n).mono fun e w' ⟨u, h', c, ρ', e1, e2, e3, e4, e5⟩ => ?_
    subst e1
    exact ⟨c, e2, e4.below hE_ro, pureV_rel h1 e5⟩
  · cases hv
theorem canonV_rel {v v' : V} (hc : canonV v = some v') {ρ ρ' : Ren} {c : Value} (h : Rel ρ v c) : Rel ρ' v' c := by
  unfold canonV at hc
  split at hc
  · split at hc
    · rename_i l _ r hr
      cases hc
      cases h with
      | tuple h1 h2 =>
        rename_i cs
        have := canonL_rel (ρ' := ρ') hr (cs := cs.toList) ⟨by simpa using h1, fun i v x hv hx => h2 i v x hv (by simpa using hx)⟩
        exact .tuple (by simpa using this.1) fun i v x hv hx => this.2 i v x hv (by simpa using hx)
    · cases hc
  · exact canon_rel hc h
theorem known_ok2 {P : Program} {G : Γ} {sp : SpF} (hG : GOk P G) (hcodes : Codes G) (hext : ExtOK P G) (hk : KxOK G sp.kx) {N : Nat} {f : FuncId} {F : List V → Option V} (hF : ∀ l v, F l = some v → fnW G sp N f l hE (fun u _ => canonV u = some v)) : KnownOk P (f, known F) := by
  intro args h v hv ρ cargs w ha hS n
  simp only [known] at hv
  split at hv
  · rename_i l hl
    refine (call_w hG hcodes hext hk (hF l v hv) (canonL_rel (ρ' := rE) hl ha) (sim_E w) n).mono fun e w' ⟨u, h', c, ρ', e1, e2, e3, e4, e5⟩ => ?_
    exact ⟨c, e2, e4.below hE_ro, canonV_rel e1 e5⟩
  · cases hv
/-- the law itself: what it returns -/
theorem law_w {P : Program} {G : Γ} {sp : SpF} (hG : GOk P G) (hcodes : Codes G) (hext : ExtOK P G) (hk : KxOK G sp.kx) {N : Nat} {f : FuncId} {args : List V} {h : H} {v : V} (hw : fnW G sp N f args h (fun u _ => u = v)) (hp : pureV v = true) (hro : AllRo h) {ρ : Ren} {cargs : Array Value} {w : World} (ha : Rels ρ args cargs.toList) (hS : Sim ρ h w) (k : Nat) :
    CallsIn Fence.wide k P f cargs w (fun e w' => ∃ c, e = .returned c ∧ Below w.heap.size w w' ∧ ∀ ρ', Rel ρ' v c) :=
  (call_w hG hcodes hext hk hw ha hS k).mono fun e w' ⟨u, h', c, ρ', e1, e2, e3, e4, e5⟩ => ⟨c, e2, e4.below hro, fun ρ2 => by subst e1; exact pureV_rel hp e5⟩
end Go.Ev
/- What comparisons of the evaluator say. -/
namespace Go.Ev
theorem blt_t {a b : Nat} : Nat.blt a b = true ↔ a < b := ⟨Nat.le_of_ble_eq_true, Nat.ble_eq_true_of_le⟩
theorem ilt_t {a b : Int} : ilt a b = true ↔ a < b := by
  cases a with
  | ofNat a => cases b with
    | ofNat b => simp only [ilt, blt_t, Int.ofNat_eq_natCast]; omega
    | negSucc b => simp only [ilt, Int.ofNat_eq_natCast]; exact ⟨(fun h => nomatch h), fun h => by omega⟩
  | negSucc a => cases b with
    | ofNat b => simp only [ilt, Int.ofNat_eq_natCast]; exact ⟨fun _ => by omega, fun _ => trivial⟩
    | negSucc b => simp only [ilt, blt_t]; omega
theorem ilt_f {a b : Int} : ilt a b = false ↔ b ≤ a := by
  rw [← Bool.not_eq_true, ilt_t]; omega
theorem ieq_t {a b : Int} : ieq a b = true ↔ a = b := by
  cases a with
  | ofNat a => cases b with
    | ofNat b => simp only [ieq, T.beq_true, Int.ofNat_eq_natCast]; omega
    | negSucc b => simp only [ieq, Int.ofNat_eq_natCast]; exact ⟨(fun h => nomatch h), fun h => by omega⟩
  | negSucc a => cases b with
    | ofNat b => simp only [ieq, Int.ofNat_eq_natCast]; exact ⟨(fun h => nomatch h), fun h => by omega⟩
    | negSucc b => simp only [ieq, T.beq_true]; omega
theorem ieq_f {a b : Int} : ieq a b = false ↔ a ≠ b := by
  rw [← Bool.not_eq_true, ieq_t]
theorem not_t {b : Bool} : (!b) = true ↔ b = false := by cases b <;> simp
theorem not_f {b : Bool} : (!b) = false ↔ b = true := by cases b <;> simp
theorem wr64 {n : Int} (h1 : -9223372036854775808 ≤ n) (h2 : n < 9223372036854775808) : wr .i64 n = n := by
  cases n with
  | ofNat m =>
    have : Nat.blt m 9223372036854775808 = true := blt_t.2 (by simp only [Int.ofNat_eq_natCast] at *; omega)
    simp only [wr, this]
  | negSucc m =>
    have : Nat.blt m 9223372036854775808 = true := blt_t.2 (by omega)
    simp only [wr, this]
theorem wr32 {n : Int} (h1 : 0 ≤ n) (h2 : n < 4294967296) : wr .u32 n = n := by
  cases n with
  | ofNat m =>
    have : Nat.blt m 4294967296 = true := blt_t.2 (by simp only [Int.ofNat_eq_natCast] at *; omega)
    simp only [wr, this]
  | negSucc m => omega
theorem wr8 {n : Int} (h1 : 0 ≤ n) (h2 : n < 256) : wr .u8 n = n := by
  cases n with
  | ofNat m =>
    have : Nat.blt m 256 = true := blt_t.2 (by simp only [Int.ofNat_eq_natCast] at *; omega)
    simp only [wr, this]
  | negSucc m => omega
theorem iadd {a b : Int} : Int.add a b = a + b := rfl
theorem isub {a b : Int} : Int.sub a b = a - b := rfl
theorem imul {a b : Int} : Int.mul a b = a * b := rfl
theorem iofn {n : Nat} : Int.ofNat n = (n : Int) := rfl
end Go.Ev
/- Functions that make something, or say why they do not; states of which less is known. -/
namespace Go.Ev
open Go.RowKit
noncomputable section
/-- a function that makes something of plain values: is it refused, and how? -/
abbrev KnownP := FuncId × (List V → Option (Bool × Int))
def knownP (F : List V → Option (Bool × Int)) : List V → Option (Bool × Int) := fun args => match canonL args with
  | some l => F l
  | none => none
def made1 (e : Int) (h : H) : V × H := (.tuple [.nilp, .int .i64 e], h)
def made2 (h : H) : V × H := (.tuple [.ptr h.next 0, .int .i64 0], ⟨h.tr, Nat.succ h.next⟩)
def extP : List KnownP → FuncId → List V → H → Option (V × H)
  | [], _, _, _ => none
  | x :: l, f, args, h => match Nat.beq f x.1 with
    | true => match x.2 args with
      | some (b, e) => some (match b with
        | true => made1 e h
        | false => made2 h)
      | none => none
    | false => extP l f args h
def kxP : List KnownP → KX
  | [], _, _, _ => none
  | x :: l, f, args, h => match Nat.beq f x.1 with
    | true => match x.2 args with
      | some (b, e) => some (b, made1 e h, made2 h)
      | none => none
    | false => kxP l f args h
def ext2 (l : List Known) (lp : List KnownP) (f : FuncId) (args : List V) (h : H) : Option (V × H) :=
  match extL l f args h with
  | some r => some r
  | none => extP lp f args h
def kx2 (l : List Known) (lp : List KnownP) (f : FuncId) (args : List V) (h : H) : Option (Bool × (V × H) × (V × H)) :=
  match extL l f args h with
  | some _ => none
  | none => kxP lp f args h
/-- the results of a call that makes something, or says why it does not -/
def madeK (bad : Bool) (e : Int) : V → Prop
  | .tuple [.nilp, .int k n] => bad = true ∧ k = .i64 ∧ n = e
  | .tuple [.ptr _ _, .int k n] => bad = false ∧ k = .i64 ∧ n = 0
  | _ => False
end
def MadeRes (bad : Bool) (e : Int) (c : Value) : Prop :=
  (bad = true ∧ c = .tuple #[.pointer none, .int .i64 e]) ∨ (bad = false ∧ ∃ B d, c = .tuple #[.pointer (some ⟨B, d, none⟩), .int .i64 0])
def KnownPOk (P : Program) (x : KnownP) : Prop :=
  ∀ args b e, x.2 args = some (b, e) → ∀ ρ (cargs : Array Value) w, Rels ρ args cargs.toList → ∀ n, CallsIn Fence.wide n P x.1 cargs w (fun en w' => ∃ c, en = .returned c ∧ Below w.heap.size w w' ∧ MadeRes b e c)
theorem tuple2 {ρ : Ren} {x y : V} {c : Value} (h : Rel ρ (.tuple [x, y]) c) : ∃ a b, c = .tuple #[a, b] ∧ Rel ρ x a ∧ Rel ρ y b := by
  cases h with
  | tuple h1 h2 =>
    rename_i cs
    obtain ⟨l⟩ := cs
    simp only [List.size_toArray, List.length_cons, List.length_nil] at h1
    match l, h1 with
    | [a, b], _ => exact ⟨a, b, rfl, h2 0 x a rfl rfl, h2 1 y b rfl rfl⟩
theorem rel_tuple2 {ρ : Ren} {x y : V} {a b : Value} (h1 : Rel ρ x a) (h2 : Rel ρ y b) : Rel ρ (.tuple [x, y]) (.tuple #[a, b]) := by
  refine .tuple rfl fun i v c hv hc => ?_
  match i with
  | 0 => cases hv; cases hc; exact h1
  | 1 => cases hv; cases hc; exact h2
  | i + 2 => simp at hv
theorem madeK_res {b : Bool} {e : Int} {u : V} (h : madeK b e u) {ρ : Ren} {c : Value} (hr : Rel ρ u c) : MadeRes b e c := by
  unfold madeK at h
  split at h
  · obtain ⟨h1, h2, h3⟩ := h
    subst h1 h2 h3
    obtain ⟨x, y, rfl, r1, r2⟩ := tuple2 hr
    cases r1; cases r2
    exact .inl ⟨rfl, rfl⟩
  · obtain ⟨h1, h2, h3⟩ := h
    subst h1 h2 h3
    obtain ⟨x, y, rfl, r1, r2⟩ := tuple2 hr
    cases r2
    cases r1
    exact .inr ⟨rfl, _, _, rfl⟩
  · cases h
/-- one block more, of which nothing is known -/
theorem unk_post {ρ : Ren} {h : H} {w w' : World} (hS : Sim ρ h w) (hb : Below w.heap.size w w') (L : Nat × Nat × Nat) :
    Sim (ρ.with h.next L) ⟨h.tr, Nat.succ h.next⟩ w' ∧ Ext ρ h w (ρ.with h.next L) ⟨h.tr, Nat.succ h.next⟩ w' := by
  obtain ⟨s, x⟩ := below_post hS hb
  have hle := Ren.le_with ρ L hS.fresh
  have back : ∀ b o L', h.tr.get b = some o → ρ.with h.next L b = some L' → ρ b = some L' := fun b o L' hbo hL => by
    obtain ⟨L0, _, l1, _, _⟩ := hS.live b o hbo
    have := hS.dom b L0 l1
    rwa [Ren.with_ne ρ L (show b ≠ h.next by omega)] at hL
  refine ⟨⟨s.glob.mono hle, fun b L' hb' => ?_, fun b o hbo => ?_, fun b b' o o' L1 L2 h1 h2 h3 h4 => ?_⟩, ⟨Nat.le_succ _, fun b hlt => Ren.with_ne ρ L (by omega), x.size, x.frame, fun b o L' hbo hL hlt => ?_, x.tape, x.os, x.output⟩⟩
  · show b < h.next + 1
    by_cases e : b = h.next
    · omega
    · rw [Ren.with_ne ρ L e] at hb'
      have := hS.dom b L' hb'
      omega
  · obtain ⟨L', c, l1, l2, l3⟩ := s.live b o hbo
    exact ⟨L', c, hle _ _ l1, l2, l3.mono hle⟩
  · exact s.inj b b' o o' L1 L2 h1 h2 (back b o L1 h1 h3) (back b' o' L2 h2 h4)
  · exact x.origin b o L' hbo (back b o L' hbo hL) hlt
theorem ext2_ok {P : Program} {G : Γ} {l : List Known} {lp : List KnownP} (hl : ∀ x, x ∈ l → KnownOk P x) (hp : ∀ x, x ∈ lp → KnownPOk P x) (hG : G.ext = ext2 l lp) : ExtOK P G := by
  intro f args h v h' hr ρ cargs w ha hS n
  rw [hG] at hr
  unfold ext2 at hr
  split at hr
  · rename_i r q
    cases hr
    exact extL_ok (P := P) (G := { G with ext := extL l }) hl rfl f args h v h' q ρ cargs w ha hS n
  · clear hG
    induction lp with
    | nil => cases hr
    | cons x lp ih =>
      unfold extP at hr
      split at hr
      · rename_i q
        rw [T.beq_true] at q
        subst q
        split at hr
        · rename_i b e q2
          refine (hp x (by simp) args b e q2 ρ cargs w ha n).mono fun en w' ⟨c, e1, e2, e3⟩ => ?_
          rcases e3 with ⟨rfl, rfl⟩ | ⟨rfl, B, d, rfl⟩
          · cases hr
            obtain ⟨b1, b2⟩ := below_post hS e2
            exact ⟨_, e1, ρ, b1, b2, rel_tuple2 .nilp (.int _ _)⟩
          · cases hr
            obtain ⟨b1, b2⟩ := unk_post hS e2 (B, d, 0)
            exact ⟨_, e1, _, b1, b2, rel_tuple2 (Rel.ptr (o := 0) (Ren.with_same ρ h.next (B, d, 0))) (.int _ _)⟩
        · cases hr
      · exact ih (fun y hy => hp y (by simp [hy])) hr
theorem kx2_ok {G : Γ} {l : List Known} {lp : List KnownP} (hG : G.ext = ext2 l lp) : KxOK G (kx2 l lp) := by
  intro f args h b r1 r2 hk
  rw [hG]
  unfold kx2 at hk
  unfold ext2
  split at hk
  · cases hk
  · rename_i q
    clear hG q
    induction lp with
    | nil => cases hk
    | cons x lp ih =>
      unfold kxP at hk
      unfold extP
      cases q : Nat.beq f x.1 with
      | true =>
        simp only [q] at hk ⊢
        cases q2 : x.2 args with
        | none => simp only [q2] at hk; cases hk
        | some be =>
          obtain ⟨b', e⟩ := be
          simp only [q2] at hk ⊢
          cases hk
          cases b with
          | true => exact ⟨fun _ _ => rfl, fun h => nomatch h⟩
          | false => exact ⟨fun h => (nomatch h), fun _ => rfl⟩
      | false =>
        simp only [q] at hk ⊢
        exact ih hk
theorem known_p {P : Program} {G : Γ} {sp : SpF} (hG : GOk P G) (hcodes : Codes G) (hext : ExtOK P G) (hk : KxOK G sp.kx) {N : Nat} {f : FuncId} {F : List V → Option (Bool × Int)} (hF : ∀ l b e, F l = some (b, e) → fnW G sp N f l hE (fun u _ => madeK b e u)) : KnownPOk P (f, knownP F) := by
  intro args b e hv ρ cargs w ha n
  simp only [knownP] at hv
  split at hv
  · rename_i l hl
    refine (call_w hG hcodes hext hk (hF l b e hv) (canonL_rel (ρ' := rE) hl ha) (sim_E w) n).mono fun en w' ⟨u, h', c, ρ', e1, e2, e3, e4, e5⟩ => ?_
    exact ⟨c, e2, e4.below hE_ro, madeK_res e1 e5⟩
  · cases hv

/-! ### states of which less is known -/
noncomputable section
def putL : List (Nat × V) → T V
  | [] => .leaf
  | x :: l => (putL l).put x.1 (some x.2)
def envL (sz : Nat) (l : List (Nat × V)) : Env := ⟨sz, putL l⟩
def hasT (e : Env) : List (Nat × V) → Prop
  | [] => True
  | x :: l => e.tr.get x.1 = some x.2 ∧ hasT e l
end
theorem hasT_get {e : Env} : ∀ {l : List (Nat × V)}, hasT e l → ∀ t v, (putL l).get t = some v → e.tr.get t = some v
  | [], _, t, v, h => by simp [putL, T.get_leaf] at h
  | x :: l, hl, t, v, h => by
    simp only [putL, T.get_put] at h
    split at h
    · rename_i q; cases h; rw [q]; exact hl.1
    · exact hasT_get hl.2 t v h
theorem at_less {ρ0 : Ren} {h0 : H} {w0 : World} {st : St} {a : Act} {w : World} (hA : At ρ0 h0 w0 st a w) {env : Env} {h : H} {defs : List Nat} (he : ∀ t v, env.tr.get t = some v → st.env.tr.get t = some v) (hs : env.sz ≤ st.env.sz)
    (hh : ∀ b o, h.tr.get b = some o → st.h.tr.get b = some o) (hn : h.next = st.h.next) (hd : defs = st.defs) : At ρ0 h0 w0 ⟨env, h, defs⟩ a w := by
  obtain ⟨ρ, s1, s2, s3, s4⟩ := hA
  refine ⟨ρ, s1.sub (Nat.le_of_eq hn.symm) hh, ⟨by show h0.next ≤ h.next; rw [hn]; exact s2.next, s2.agree, s2.size, s2.frame, fun b o L hb => s2.origin b o L (hh b o hb), s2.tape, s2.os, s2.output⟩, ⟨Nat.le_trans hs s3.1, fun t v hv => s3.2 t v (he t v hv)⟩, by rw [hd]; exact s4⟩
end Go.Ev
/- Functions that make one block whose cells are known in part: contracts with that block. -/
namespace Go.Ev
open Go.RowKit
noncomputable section
/-- a function that makes a block of plain cells: is it refused, how, and what is known of the block? -/
abbrev KnownM := FuncId × (List V → Option (Bool × Int × O))
def knownM (F : List V → Option (Bool × Int × O)) : List V → Option (Bool × Int × O) := fun args => match canonL args with
  | some l => F l
  | none => none
def made5 (o : O) (h : H) : V × H := (.tuple [.ptr h.next 0, .int .i64 0], h.add o)
def extM : List KnownM → FuncId → List V → H → Option (V × H)
  | [], _, _, _ => none
  | x :: l, f, args, h => match Nat.beq f x.1 with
    | true => match x.2 args with
      | some (b, e, o) => some (match b with
        | true => made1 e h
        | false => made5 o h)
      | none => none
    | false => extM l f args h
def kxM : List KnownM → KX
  | [], _, _, _ => none
  | x :: l, f, args, h => match Nat.beq f x.1 with
    | true => match x.2 args with
      | some (b, e, o) => some (b, made1 e h, made5 o h)
      | none => none
    | false => kxM l f args h
def ext5 (l : List Known) (lp : List KnownM) (f : FuncId) (args : List V) (h : H) : Option (V × H) :=
  match extL l f args h with
  | some r => some r
  | none => extM lp f args h
def kx5 (l : List Known) (lp : List KnownM) (f : FuncId) (args : List V) (h : H) : Option (Bool × (V × H) × (V × H)) :=
  match extL l f args h with
  | some _ => none
  | none => kxM lp f args h
end
def MadeM (bad : Bool) (e : Int) (o : O) (n : Nat) (w' : World) (c : Value) : Prop :=
  (bad = true ∧ c = .tuple #[.pointer none, .int .i64 e]) ∨ (bad = false ∧ ∃ L cb, c = .tuple #[.pointer (some ⟨L.1, L.2.1, none⟩), .int .i64 0] ∧ n ≤ L.1 ∧ w'.heap[L.1]? = some cb ∧ ∀ ρ, ORel ρ o L cb)
def KnownMOk (P : Program) (x : KnownM) : Prop :=
  ∀ args b e o, x.2 args = some (b, e, o) → ∀ ρ (cargs : Array Value) w, Rels ρ args cargs.toList → ∀ n, CallsIn Fence.wide n P x.1 cargs w (fun en w' => ∃ c, en = .returned c ∧ Below w.heap.size w w' ∧ MadeM b e o w.heap.size w' c)
theorem add_post {ρ : Ren} {h : H} {w w' : World} (hS : Sim ρ h w) (hb : Below w.heap.size w w') {o : O} {L : Nat × Nat × Nat} {c : Obj} (hL : w.heap.size ≤ L.1) (hw : w'.heap[L.1]? = some c) (ho : ORel (ρ.with h.next L) o L c) :
    Sim (ρ.with h.next L) (h.add o) w' ∧ Ext ρ h w (ρ.with h.next L) (h.add o) w' := by
  obtain ⟨s, x⟩ := below_post hS hb
  have hle := Ren.le_with ρ L hS.fresh
  have hlt : ∀ b o' L', h.tr.get b = some o' → ρ b = some L' → L'.1 < w.heap.size := fun b o' L' a b' => hS.lt a b'
  have hne : ∀ b o', h.tr.get b = some o' → b ≠ h.next := fun b o' hbo e => by
    obtain ⟨L', _, l1, _⟩ := hS.live b o' hbo
    rw [e, hS.fresh] at l1
    cases l1
  refine ⟨⟨s.glob.mono hle, fun b L' hb' => ?_, fun b o' hbo => ?_, fun b b' o1 o2 L1 L2 h1 h2 h3 h4 he => ?_⟩, ⟨Nat.le_succ _, fun b hlt => Ren.with_ne ρ L (by omega), x.size, x.frame, fun b o' L' hbo hL' hlt' => ?_, x.tape, x.os, x.output⟩⟩
  · show b < h.next + 1
    by_cases e : b = h.next
    · omega
    · rw [Ren.with_ne ρ L e] at hb'
      have := hS.dom b L' hb'
      omega
  · rw [H.add_get] at hbo
    split at hbo
    · rename_i e; subst e; cases hbo; exact ⟨L, c, Ren.with_same .., hw, ho⟩
    · obtain ⟨L', c', l1, l2, l3⟩ := s.live b o' hbo
      exact ⟨L', c', hle _ _ l1, l2, l3.mono hle⟩
  · rw [H.add_get] at h1 h2
    by_cases e1 : b = h.next <;> by_cases e2 : b' = h.next
    · rw [e1, e2]
    · rw [if_neg e2] at h2
      rw [Ren.with_ne ρ L e2] at h4
      rw [e1, Ren.with_same] at h3; cases h3
      have := hlt _ _ _ h2 h4
      omega
    · rw [if_neg e1] at h1
      rw [Ren.with_ne ρ L e1] at h3
      rw [e2, Ren.with_same] at h4; cases h4
      have := hlt _ _ _ h1 h3
      omega
    · rw [if_neg e1] at h1
      rw [if_neg e2] at h2
      rw [Ren.with_ne ρ L e1] at h3
      rw [Ren.with_ne ρ L e2] at h4
      exact hS.inj b b' o1 o2 L1 L2 h1 h2 h3 h4 he
  · rw [H.add_get] at hbo
    split at hbo
    · rename_i e
      subst e
      rw [Ren.with_same] at hL'; cases hL'
      omega
    · rename_i e
      rw [Ren.with_ne ρ L e] at hL'
      exact ⟨b, o', L', hbo, hL', rfl, id⟩
theorem ext5_ok {P : Program} {G : Γ} {l : List Known} {lp : List KnownM} (hl : ∀ x, x ∈ l → KnownOk P x) (hp : ∀ x, x ∈ lp → KnownMOk P x) (hG : G.ext = ext5 l lp) : ExtOK P G := by
  intro f args h v h' hr ρ cargs w ha hS n
  rw [hG] at hr
  unfold ext5 at hr
  split at hr
  · rename_i r q
    cases hr
    exact extL_ok (P := P) (G := { G with ext := extL l }) hl rfl f args h v h' q ρ cargs w ha hS n
  · clear hG
    induction lp with
    | nil => cases hr
    | cons x lp ih =>
      unfold extM at hr
      split at hr
      · rename_i q
        rw [T.beq_true] at q
        subst q
        split at hr
        · rename_i b e o q2
          refine (hp x (by simp) args b e o q2 ρ cargs w ha n).mono fun en w' ⟨c, e1, e2, e3⟩ => ?_
          rcases e3 with ⟨rfl, rfl⟩ | ⟨rfl, L, cb, rfl, e4, e5, e6⟩
          · cases hr
            obtain ⟨b1, b2⟩ := below_post hS e2
            exact ⟨_, e1, ρ, b1, b2, rel_tuple2 .nilp (.int _ _)⟩
          · cases hr
            obtain ⟨b1, b2⟩ := add_post hS e2 e4 e5 (e6 (ρ.with h.next L))
            exact ⟨_, e1, _, b1, b2, rel_tuple2 (Rel.ptr (o := 0) (B := L.1) (d := L.2.1) (z := L.2.2) (Ren.with_same ρ h.next L)) (.int _ _)⟩
        · cases hr
      · exact ih (fun y hy => hp y (by simp [hy])) hr
theorem kx5_ok {G : Γ} {l : List Known} {lp : List KnownM} (hG : G.ext = ext5 l lp) : KxOK G (kx5 l lp) := by
  intro f args h b r1 r2 hk
  rw [hG]
  unfold kx5 at hk
  unfold ext5
  split at hk
  · cases hk
  · rename_i q
    clear hG q
    induction lp with
    | nil => cases hk
    | cons x lp ih =>
      unfold kxM at hk
      unfold extM
      cases q : Nat.beq f x.1 with
      | true =>
        simp only [q] at hk ⊢
        cases q2 : x.2 args with
        | none => simp only [q2] at hk; cases hk
        | some be =>
          obtain ⟨b', e, o⟩ := be
          simp only [q2] at hk ⊢
          cases hk
          cases b with
          | true => exact ⟨fun _ _ => rfl, fun h => nomatch h⟩
          | false => exact ⟨fun h => (nomatch h), fun _ => rfl⟩
      | false =>
        simp only [q] at hk ⊢
        exact ih hk
end Go.Ev
/- Rows that grow by equal elements: append, whatever their number; states whose blocks get other numbers. -/
namespace Go.Ev
open Go.RowKit
theorem nth_get {α : Type} (l : List α) (i : Nat) : nth l i = l[i]? := nth_eq l i
theorem rp_len {α : Type} : ∀ (k : Nat) (l : List α), (rep k l).length = k * l.length
  | 0, l => by simp [rep]
  | k + 1, l => by simp only [rep, List.length_append, rp_len k l, Nat.succ_mul]; omega
theorem rp_get {α : Type} {l : List α} (hl : 0 < l.length) : ∀ (k i : Nat), i < k * l.length → (rep k l)[i]? = l[i % l.length]?
  | 0, i, h => by omega
  | k + 1, i, h => by
    simp only [rep]
    by_cases q : i < l.length
    · rw [List.getElem?_append_left q, Nat.mod_eq_of_lt q]
    · have q : l.length ≤ i := by omega
      rw [List.getElem?_append_right q, rp_get hl k (i - l.length) (by rw [Nat.succ_mul] at h; omega)]
      congr 1
      rw [Nat.mod_eq_sub_mod q]
theorem rep_succ {α : Type} : ∀ (k : Nat) (l : List α), rep k l ++ l = rep (k + 1) l
  | 0, l => by simp [rep]
  | k + 1, l => by
    have := rep_succ k l
    simp only [rep, List.append_assoc] at this ⊢
    rw [this]
/-- a pattern's cell -/
theorem cell_pat {n : Nat} {pat : List V} {i : Nat} {v : V} (h : cell n pat .leaf i = some v) : i < n ∧ pat[i % pat.length]? = some v := by
  have hi := cell_lt h
  have hb : Nat.blt i n = true := Nat.ble_eq_true_of_le hi
  simp only [cell, hb, T.get_leaf, patAt, nth_get] at h
  refine ⟨hi, ?_⟩
  split at h
  · rename_i x hx
    cases h
    have := (List.getElem?_eq_some_iff.1 hx).1
    rw [Nat.mod_eq_of_lt this]; exact hx
  · exact h
theorem cell_pat' {n : Nat} {pat : List V} {i : Nat} {v : V} (hi : i < n) (h : pat[i % pat.length]? = some v) : cell n pat .leaf i = some v := by
  have hb : Nat.blt i n = true := Nat.ble_eq_true_of_le hi
  simp only [cell, hb, T.get_leaf, patAt, nth_get]
  by_cases q : i < pat.length
  · rw [Nat.mod_eq_of_lt q] at h
    rw [h]
  · rw [List.getElem?_eq_none (by omega)]
    exact h
theorem gather_all {n : Nat} {pat : List V} {tr : T V} : ∀ (k i : Nat) (l : List V), l.length = k → (∀ j v, l[j]? = some v → cell n pat tr (i + j) = some v) → gather n pat tr i k = some l
  | 0, i, l, hl, _ => by
    have : l = [] := List.length_eq_zero_iff.1 hl
    subst this; rfl
  | k + 1, i, [], hl, _ => by simp at hl
  | k + 1, i, v :: l, hl, h => by
    have h0 := h 0 v rfl
    have h1 := gather_all k (i + 1) l (by simpa using hl) fun j u hj => by
      have := h (j + 1) u (by simpa using hj)
      rw [show i + 1 + j = i + (j + 1) by omega]; exact this
    simp only [gather]
    rw [show i + 0 = i from rfl] at h0
    rw [h0]
    simp only
    rw [show Nat.succ i = i + 1 from rfl, h1]
theorem gather_pat {pat : List V} (hp : 0 < pat.length) (k : Nat) : gather (k * pat.length) pat .leaf 0 (k * pat.length) = some (rep k pat) := by
  refine gather_all _ _ _ (rp_len k pat) fun j v hj => ?_
  have hlt := (List.getElem?_eq_some_iff.1 hj).1
  rw [rp_len] at hlt
  rw [rp_get hp k j hlt] at hj
  rw [Nat.zero_add]
  exact cell_pat' hlt hj
section
variable {P : Program} {G : Γ}
/-- the same memory, in other words: what a block is known to hold is said otherwise, or less of it -/
theorem at_shape {ρ0 : Ren} {h0 : H} {w0 : World} {st : St} {a : Act} {w : World} (hA : At ρ0 h0 w0 st a w) {h : H} (hn : h.next = st.h.next)
    (hh : ∀ b o, h.tr.get b = some o → ∃ o', st.h.tr.get b = some o' ∧ (o.rw = true → o'.rw = true) ∧ ∀ ρ L c, ORel ρ o' L c → ORel ρ o L c) : At ρ0 h0 w0 ⟨st.env, h, st.defs⟩ a w := by
  obtain ⟨ρ, s1, s2, s3, s4⟩ := hA
  refine ⟨ρ, ⟨s1.glob, fun b L hb => by show b < h.next; rw [hn]; exact s1.dom b L hb, fun b o hb => ?_, fun b b' o o' L L' hb hb' => ?_⟩, ⟨by show h0.next ≤ h.next; rw [hn]; exact s2.next, s2.agree, s2.size, s2.frame, fun b o L hb hL hlt => ?_, s2.tape, s2.os, s2.output⟩, s3, s4⟩
  · obtain ⟨o', p1, _, p3⟩ := hh b o hb
    obtain ⟨L, c, l1, l2, l3⟩ := s1.live b o' p1
    exact ⟨L, c, l1, l2, p3 ρ L c l3⟩
  · obtain ⟨x, p1, _⟩ := hh b o hb
    obtain ⟨y, p2, _⟩ := hh b' o' hb'
    exact s1.inj b b' x y L L' p1 p2
  · obtain ⟨o', p1, p2, _⟩ := hh b o hb
    obtain ⟨b1, o1, L1, x1, x2, x3, x4⟩ := s2.origin b o' L p1 hL hlt
    exact ⟨b1, o1, L1, x1, x2, x3, fun q => x4 (p2 q)⟩
/-- blocks get other numbers: 'f' says which block a number stands for -/
theorem at_rename {ρ0 : Ren} {h0 : H} {w0 : World} {st : St} {a : Act} {w : World} (hA : At ρ0 h0 w0 st a w) (f : Nat → Option Nat) {env : Env} {h : H} (hid : ∀ b, b < h0.next → f b = some b) (hn : h0.next ≤ h.next) (hdom : ∀ b b', f b = some b' → b < h.next) (hg : 1000 ≤ h0.next)
    (hinj : ∀ b1 b2 b', f b1 = some b' → f b2 = some b' → b1 = b2)
    (hh : ∀ b o, h.tr.get b = some o → ∃ b' o', f b = some b' ∧ st.h.tr.get b' = some o' ∧ (o.rw = true → o'.rw = true) ∧ ∀ ρ ρ' : Ren, (∀ b b', f b = some b' → ρ' b = ρ b') → ∀ L c, ORel ρ o' L c → ORel ρ' o L c)
    (hs : env.sz ≤ st.env.sz) (he : ∀ t v, env.tr.get t = some v → ∃ v', st.env.tr.get t = some v' ∧ ∀ ρ ρ' : Ren, (∀ b b', f b = some b' → ρ' b = ρ b') → ∀ c, Rel ρ v' c → Rel ρ' v c) (hd : st.defs = []) : At ρ0 h0 w0 ⟨env, h, []⟩ a w := by
  obtain ⟨ρ, s1, s2, s3, s4⟩ := hA
  let ρ' : Ren := fun b => match f b with
    | some b' => ρ b'
    | none => none
  have hρ : ∀ b b', f b = some b' → ρ' b = ρ b' := fun b b' q => by simp only [ρ', q]
  have live : ∀ b o, h.tr.get b = some o → ∃ b' o' L c, f b = some b' ∧ st.h.tr.get b' = some o' ∧ ρ' b = some L ∧ w.heap[L.1]? = some c ∧ ORel ρ' o L c ∧ (o.rw = true → o'.rw = true) := fun b o hb => by
    obtain ⟨b', o', p1, p2, p3, p4⟩ := hh b o hb
    obtain ⟨L, c, l1, l2, l3⟩ := s1.live b' o' p2
    exact ⟨b', o', L, c, p1, p2, by rw [hρ b b' p1]; exact l1, l2, p4 ρ ρ' hρ L c l3, p3⟩
  refine ⟨ρ', ⟨fun g hg' => ?_, fun b L hb => ?_, fun b o hb => ?_, fun b b2 o o2 L L2 hb hb2 hL hL2 e => ?_⟩, ⟨hn, fun b hb => ?_, s2.size, s2.frame, fun b o L hb hL hlt => ?_, s2.tape, s2.os, s2.output⟩, ⟨Nat.le_trans hs s3.1, fun t v hv => ?_⟩, ?_⟩
  · obtain ⟨z, hz⟩ := s1.glob g hg'
    exact ⟨z, by rw [hρ g g (hid g (by omega))]; exact hz⟩
  · show b < h.next
    simp only [ρ'] at hb
    split at hb
    · rename_i b' q; exact hdom b b' q
    · cases hb
  · obtain ⟨_, _, L, c, _, _, l1, l2, l3, _⟩ := live b o hb
    exact ⟨L, c, l1, l2, l3⟩
  · obtain ⟨b', o', p1, p2, _, _⟩ := hh b o hb
    obtain ⟨b2', o2', q1, q2, _, _⟩ := hh b2 o2 hb2
    rw [hρ b b' p1] at hL
    rw [hρ b2 b2' q1] at hL2
    have := s1.inj b' b2' o' o2' L L2 p2 q2 hL hL2 e
    subst this
    exact hinj b b2 b' p1 q1
  · rw [hρ b b (hid b hb)]
    exact s2.agree b hb
  · obtain ⟨b', o', p1, p2, p3, _⟩ := hh b o hb
    rw [hρ b b' p1] at hL
    obtain ⟨b1, o1, L1, x1, x2, x3, x4⟩ := s2.origin b' o' L p2 hL hlt
    exact ⟨b1, o1, L1, x1, x2, x3, fun q => x4 (p3 q)⟩
  · obtain ⟨v', p1, p2⟩ := he t v hv
    obtain ⟨c, c1, c2⟩ := s3.2 t v' p1
    exact ⟨c, c1, p2 ρ ρ' hρ c c2⟩
  · rw [hd] at s4
    generalize a.defers = ds at s4 ⊢
    cases ds with
    | nil => trivial
    | cons => exact s4
end
/-- a row's cells, said by a pattern -/
theorem orel_cells {e : Option TypeId} {n : Nat} {pat pat' : List V} {tr tr' : T V} (h : ∀ i v, cell n pat' tr' i = some v → cell n pat tr i = some v) {ρ : Ren} {L : Nat × Nat × Nat} {c : Obj} (ho : ORel ρ (.cells e n pat tr) L c) : ORel ρ (.cells e n pat' tr') L c := by
  obtain ⟨cs, el, lo, hi, h1, h2, h3, h4, h5, h6⟩ := ho
  exact ⟨cs, el, lo, hi, h1, h2, h3, h4, h5, h6.1, fun i v x hv hx => h6.2 i v x (h i v hv) hx⟩
theorem mkO_full (e : Option TypeId) (l : List V) : ∃ pat tr, mkO e l = .cells e l.length pat tr ∧ ∀ i v, l[i]? = some v → cell l.length pat tr i = some v := by
  unfold mkO
  split
  · refine ⟨l, .leaf, rfl, fun i v h => ?_⟩
    have hi := (List.getElem?_eq_some_iff.1 h).1
    have hb : Nat.blt i l.length = true := Nat.ble_eq_true_of_le hi
    simp only [cell, hb, T.get_leaf, patAt, nth_get, h]
  · refine ⟨[], _, rfl, fun i v h => ?_⟩
    have hi := (List.getElem?_eq_some_iff.1 h).1
    have hb : Nat.blt i l.length = true := Nat.ble_eq_true_of_le hi
    simp only [cell, hb, T.get_ofList some l.length l i (Nat.le_refl _), h]
    rfl
theorem mkO_pat {e : Option TypeId} {pat : List V} (hp : 0 < pat.length) (k : Nat) {ρ : Ren} {L : Nat × Nat × Nat} {c : Obj} (h : ORel ρ (mkO e (rep k pat)) L c) : ORel ρ (.cells e (k * pat.length) pat .leaf) L c := by
  obtain ⟨p, t, q1, q2⟩ := mkO_full e (rep k pat)
  rw [q1] at h
  have hl : (rep k pat).length = k * pat.length := rp_len k pat
  rw [hl] at h q2
  refine orel_cells (fun i v hv => ?_) h
  obtain ⟨hi, hv⟩ := cell_pat hv
  exact q2 i v (by rw [rp_get hp k i hi]; exact hv)
theorem mkO_rw (e : Option TypeId) (l : List V) : (mkO e l).rw = true := by
  unfold mkO
  split <;> rfl
section
variable {P : Program} {G : Γ} (hG : GOk P G) (hcodes : Codes G) (hext : ExtOK P G)
/-- append of one more of the elements that a row consists of -/
theorem at_append (hG : GOk P G) (hcodes : Codes G) (hext : ExtOK P G) {ρ0 : Ren} {h0 : H} {w0 : World} {env : Env} {h : H} {defs : List Nat} {a : Act} {w : World} {kk i m : Nat} {ops : Array Oper} {o : Oper} {Q : Exit → Act → World → Prop}
    (hA : At ρ0 h0 w0 ⟨env, h, defs⟩ a w) (hle : i + 1 ≤ ops.size) (ho : opsPart ops i 1 = [o]) (hgd : o.guard = none) {t t' : TypeId} {x y : Operand} (hop : act G env.get o.op = .ef (fun h => fAppend G (G.ty t) (G.ty t') h (env.get x) (env.get y)))
    {ty tx te : TY} {elem : TypeId} (h1 : G.ty t = some ty) (h2 : ty.desc = .slice elem) (h3 : G.ty elem = some te) (h4 : G.ty t' = some tx) (h5 : isInt tx.desc = some false) {pat : List V} (h6 : te.size = pat.length) (h7 : 0 < pat.length) (h8 : pat.length ≤ 100000)
    {b k : Nat} {e : Option TypeId} (hx : env.get x = some (.slice b 0 k (.atl k pat.length))) (hb : h.tr.get b = some (.cells e (k * pat.length) pat .leaf)) (hk : k + 1 ≤ 100000) {yv : V} (hy : env.get y = some yv) (hel : elems h te.size yv = some (1, pat)) {d : Tmp} (hd : o.dst = some d) (hsz : Nat.blt d env.sz = true)
    (hQ : ∀ (e' : Option TypeId) a' w', At ρ0 h0 w0 ⟨⟨env.sz, env.tr.put d (some (.slice h.next 0 (k + 1) (.atl (k + 1) pat.length)))⟩, ⟨(h.tr.put b none).put h.next (some (.cells e' ((k + 1) * pat.length) pat .leaf)), h.next + 1⟩, defs⟩ a' w' → wpOpsIn Fence.wide kk P ops Q (List.range' (i + 1) m) a' w') :
    wpOpsIn Fence.wide kk P ops Q (List.range' i (1 + m)) a w := by
  have n1 : Nat.beq pat.length pat.length = true := (T.beq_true).2 rfl
  have n2 : Nat.ble (Nat.add k 1) k = false := by
    cases q : Nat.ble (Nat.add k 1) k with
    | false => rfl
    | true => have := Nat.le_of_ble_eq_true q; have : k + 1 ≤ k := this; omega
  have n3 : Nat.ble (Nat.add k 1) 100000 = true := Nat.ble_eq_true_of_le hk
  have n4 : Nat.ble pat.length 100000 = true := Nat.ble_eq_true_of_le h8
  have n5 : rGather h b 0 (Nat.mul k pat.length) = some (rep k pat) := by
    simp only [rGather, hb]
    exact gather_pat h7 k
  have hfa : fAppend G (G.ty t) (G.ty t') h (env.get x) (env.get y) = some (.slice h.next 0 (k + 1) (.atl (k + 1) pat.length), (h.set b none).add (mkO (sameE0 0 e elem) (rep (k + 1) pat))) := by
    rw [h6] at hel
    rw [h1, h4, hx, hy]
    simp only [fAppend, h2, h3, h5, news, hel, append2, h6, n1, n2, hb, n5, grown, n3, n4, Bool.and_self, rep_succ]
    rfl
  have hput : env.put (some d) (.slice h.next 0 (k + 1) (.atl (k + 1) pat.length)) = some ⟨env.sz, env.tr.put d (some (.slice h.next 0 (k + 1) (.atl (k + 1) pat.length)))⟩ := by
    obtain ⟨sz, tr⟩ := env
    have hsz : Nat.blt d sz = true := hsz
    simp only [Env.put, hsz]
  have hr : regS G (callT G (evC G 0)) ops (opsPart ops i 1) env h = some (⟨env.sz, env.tr.put d (some (.slice h.next 0 (k + 1) (.atl (k + 1) pat.length)))⟩, (h.set b none).add (mkO (sameE0 0 e elem) (rep (k + 1) pat))) := by
    rw [ho]
    simp only [regS, wantedO, hgd, step1, hop, hfa, hd, hput]
  refine at_part hG hcodes hext (N := 0) (n := 1) hA hle hr fun a' w' hA' => hQ (sameE0 0 e elem) a' w' ?_
  refine at_shape hA' rfl fun x obj hx => ?_
  simp only [T.get_put] at hx
  by_cases q : x = h.next
  · rw [if_pos q] at hx
    cases hx
    refine ⟨mkO (sameE0 0 e elem) (rep (k + 1) pat), ?_, fun _ => mkO_rw _ _, fun ρ L c hc => mkO_pat h7 (k + 1) hc⟩
    show ((h.set b none).add _).tr.get x = _
    rw [H.add_get, if_pos (by rw [q]; rfl)]
  · rw [if_neg q] at hx
    refine ⟨obj, ?_, id, fun _ _ _ hc => hc⟩
    show ((h.set b none).add _).tr.get x = _
    rw [H.add_get, if_neg (by exact q), H.set_get]
    exact hx
end
section
variable {P : Program} {G : Γ} {sp : SpF} (hG : GOk P G) (hcodes : Codes G) (hext : ExtOK P G) (hkx : KxOK G sp.kx)
/-- a part of a region, as a condition -/
theorem at_partW (hG : GOk P G) (hcodes : Codes G) (hext : ExtOK P G) (hkx : KxOK G sp.kx) {ρ0 : Ren} {h0 : H} {w0 : World} {st : St} {a : Act} {w : World} {kk N i n m : Nat} {fn : FuncId} {ops : Array Oper} {Q : Exit → Act → World → Prop} {K : Env → H → Prop} (hA : At ρ0 h0 w0 st a w) (hle : i + n ≤ ops.size)
    (hw : regW G sp (callTW G sp.kx sp.must (evW G sp N)) fn ops (opsPart ops i n) st.env st.h K)
    (hQ : ∀ env' h' a' w', K env' h' → At ρ0 h0 w0 ⟨env', h', st.defs⟩ a' w' → wpOpsIn Fence.wide kk P ops Q (List.range' (i + n) m) a' w') : wpOpsIn Fence.wide kk P ops Q (List.range' i (n + m)) a w := by
  obtain ⟨env', h', q1, q2⟩ := regW_eq (callTW_eq hkx (evW_eq hkx N)) hw
  exact at_part hG hcodes hext (N := N) hA hle q1 fun a' w' hA' => hQ env' h' a' w' q2 hA'
end
end Go.Ev
/- Rows of known elements: append of one more, however many there are; a load of one that is named. -/
namespace Go.Ev
open Go.RowKit
theorem cell_leaf {L : List V} {i : Nat} {v : V} (h : cell L.length L .leaf i = some v) : L[i]? = some v := by
  obtain ⟨hi, hv⟩ := cell_pat h
  rwa [Nat.mod_eq_of_lt hi] at hv
theorem leaf_cell {L : List V} {i : Nat} {v : V} (h : L[i]? = some v) : cell L.length L .leaf i = some v := by
  have hi := (List.getElem?_eq_some_iff.1 h).1
  exact cell_pat' hi (by rw [Nat.mod_eq_of_lt hi]; exact h)
theorem gather_leaf (L : List V) : gather L.length L .leaf 0 L.length = some L :=
  gather_all _ _ _ rfl fun j v hj => by rw [Nat.zero_add]; exact leaf_cell hj
theorem mkO_list {e : Option TypeId} {L : List V} {ρ : Ren} {M : Nat × Nat × Nat} {c : Obj} (h : ORel ρ (mkO e L) M c) : ORel ρ (.cells e L.length L .leaf) M c := by
  obtain ⟨p, t, q1, q2⟩ := mkO_full e L
  rw [q1] at h
  exact orel_cells (fun i v hv => q2 i v (cell_leaf hv)) h
section
variable {P : Program} {G : Γ} (hG : GOk P G) (hcodes : Codes G) (hext : ExtOK P G)
/-- append of one element, its cells known, to a row whose cells are known -/
theorem at_appendL (hG : GOk P G) (hcodes : Codes G) (hext : ExtOK P G) {ρ0 : Ren} {h0 : H} {w0 : World} {env : Env} {h : H} {defs : List Nat} {a : Act} {w : World} {kk i m : Nat} {ops : Array Oper} {o : Oper} {Q : Exit → Act → World → Prop}
    (hA : At ρ0 h0 w0 ⟨env, h, defs⟩ a w) (hle : i + 1 ≤ ops.size) (ho : opsPart ops i 1 = [o]) (hgd : o.guard = none) {t t' : TypeId} {x y : Operand} (hop : act G env.get o.op = .ef (fun h => fAppend G (G.ty t) (G.ty t') h (env.get x) (env.get y)))
    {ty tx te : TY} {elem : TypeId} (h1 : G.ty t = some ty) (h2 : ty.desc = .slice elem) (h3 : G.ty elem = some te) (h4 : G.ty t' = some tx) (h5 : isInt tx.desc = some false) {L el : List V} {s : Nat} (h6 : te.size = s) (h8 : s ≤ 100000)
    {b k : Nat} {e : Option TypeId} (hL : L.length = k * s) (hx : env.get x = some (.slice b 0 k (.atl k s))) (hb : h.tr.get b = some (.cells e L.length L .leaf)) (hk : k + 1 ≤ 100000) {yv : V} (hy : env.get y = some yv) (hel : elems h te.size yv = some (1, el)) {d : Tmp} (hd : o.dst = some d) (hsz : Nat.blt d env.sz = true)
    (hQ : ∀ (e' : Option TypeId) a' w', At ρ0 h0 w0 ⟨⟨env.sz, env.tr.put d (some (.slice h.next 0 (k + 1) (.atl (k + 1) s)))⟩, ⟨(h.tr.put b none).put h.next (some (.cells e' (L ++ el).length (L ++ el) .leaf)), h.next + 1⟩, defs⟩ a' w' → wpOpsIn Fence.wide kk P ops Q (List.range' (i + 1) m) a' w') :
    wpOpsIn Fence.wide kk P ops Q (List.range' i (1 + m)) a w := by
  have n1 : Nat.beq s s = true := (T.beq_true).2 rfl
  have n2 : Nat.ble (Nat.add k 1) k = false := by
    cases q : Nat.ble (Nat.add k 1) k with
    | false => rfl
    | true => have := Nat.le_of_ble_eq_true q; have : k + 1 ≤ k := this; omega
  have n3 : Nat.ble (Nat.add k 1) 100000 = true := Nat.ble_eq_true_of_le hk
  have n4 : Nat.ble s 100000 = true := Nat.ble_eq_true_of_le h8
  have n5 : rGather h b 0 (Nat.mul k s) = some L := by
    simp only [rGather, hb]
    rw [show Nat.mul k s = L.length from hL.symm]
    exact gather_leaf L
  have hfa : fAppend G (G.ty t) (G.ty t') h (env.get x) (env.get y) = some (.slice h.next 0 (k + 1) (.atl (k + 1) s), (h.set b none).add (mkO (sameE0 0 e elem) (L ++ el))) := by
    rw [h6] at hel
    rw [h1, h4, hx, hy]
    simp only [fAppend, h2, h3, h5, news, hel, append2, h6, n1, n2, hb, n5, grown, n3, n4, Bool.and_self]
    rfl
  have hput : env.put (some d) (.slice h.next 0 (k + 1) (.atl (k + 1) s)) = some ⟨env.sz, env.tr.put d (some (.slice h.next 0 (k + 1) (.atl (k + 1) s)))⟩ := by
    obtain ⟨sz, tr⟩ := env
    have hsz : Nat.blt d sz = true := hsz
    simp only [Env.put, hsz]
  have hr : regS G (callT G (evC G 0)) ops (opsPart ops i 1) env h = some (⟨env.sz, env.tr.put d (some (.slice h.next 0 (k + 1) (.atl (k + 1) s)))⟩, (h.set b none).add (mkO (sameE0 0 e elem) (L ++ el))) := by
    rw [ho]
    simp only [regS, wantedO, hgd, step1, hop, hfa, hd, hput]
  refine at_part hG hcodes hext (N := 0) (n := 1) hA hle hr fun a' w' hA' => hQ (sameE0 0 e elem) a' w' ?_
  refine at_shape hA' rfl fun x obj hx => ?_
  simp only [T.get_put] at hx
  by_cases q : x = h.next
  · rw [if_pos q] at hx
    cases hx
    refine ⟨mkO (sameE0 0 e elem) (L ++ el), ?_, fun _ => mkO_rw _ _, fun ρ M c hc => mkO_list hc⟩
    show ((h.set b none).add _).tr.get x = _
    rw [H.add_get, if_pos (by rw [q]; rfl)]
  · rw [if_neg q] at hx
    refine ⟨obj, ?_, id, fun _ _ _ hc => hc⟩
    show ((h.set b none).add _).tr.get x = _
    rw [H.add_get, if_neg (by exact q), H.set_get]
    exact hx
end
end Go.Ev
/- slices.Sorted(maps.Keys(m)), the keys whole numbers: a call that is known. -/
namespace Go.Ev
open Go.RowKit
/-- a new block, behind a call that leaves all else as it was -/
theorem new_post {ρ : Ren} {h : H} {w w' : World} (hS : Sim ρ h w) (hb : Below w.heap.size w w') {o : O} {B z : Nat} {c : Obj} (hB : w.heap.size ≤ B) (hc : w'.heap[B]? = some c) (ho : ORel (ρ.with h.next (B, 0, z)) o (B, 0, z) c) :
    Sim (ρ.with h.next (B, 0, z)) (h.add o) w' ∧ Ext ρ h w (ρ.with h.next (B, 0, z)) (h.add o) w' := by
  obtain ⟨s, x⟩ := below_post hS hb
  have hle := Ren.le_with ρ (B, 0, z) hS.fresh
  have gb : ∀ b o', (h.add o).tr.get b = some o' → (b = h.next ∧ o' = o) ∨ (b ≠ h.next ∧ h.tr.get b = some o') := fun b o' hbo => by
    rw [H.add_get] at hbo
    split at hbo
    · cases hbo; exact .inl ⟨by assumption, rfl⟩
    · exact .inr ⟨by assumption, hbo⟩
  have same : ρ.with h.next (B, 0, z) h.next = some (B, 0, z) := Ren.with_same _ _ _
  refine ⟨⟨s.glob.mono hle, fun b L' hb' => ?_, fun b o' hbo => ?_, fun b b' o1 o2 L1 L2 h1 h2 h3 h4 e => ?_⟩, ⟨Nat.le_succ _, fun b hlt => Ren.with_ne ρ _ (by omega), x.size, x.frame, fun b o' L' hbo hL hlt => ?_, x.tape, x.os, x.output⟩⟩
  · show b < h.next + 1
    by_cases e : b = h.next
    · omega
    · rw [Ren.with_ne ρ _ e] at hb'
      have := hS.dom b L' hb'
      omega
  · rcases gb b o' hbo with ⟨rfl, rfl⟩ | ⟨hne, hbo⟩
    · exact ⟨_, c, same, hc, ho⟩
    · obtain ⟨L', c', l1, l2, l3⟩ := s.live b o' hbo
      exact ⟨L', c', hle _ _ l1, l2, l3.mono hle⟩
  · rcases gb b o1 h1 with ⟨e1, _⟩ | ⟨n1, k1⟩ <;> rcases gb b' o2 h2 with ⟨e2, _⟩ | ⟨n2, k2⟩
    · rw [e1, e2]
    · rw [Ren.with_ne ρ _ n2] at h4
      rw [e1, same] at h3
      cases h3
      have := hS.lt k2 h4
      have : B = L2.1 := e
      omega
    · rw [Ren.with_ne ρ _ n1] at h3
      rw [e2, same] at h4
      cases h4
      have := hS.lt k1 h3
      have : L1.1 = B := e
      omega
    · rw [Ren.with_ne ρ _ n1] at h3
      rw [Ren.with_ne ρ _ n2] at h4
      exact hS.inj b b' o1 o2 L1 L2 k1 k2 h3 h4 e
  · rcases gb b o' hbo with ⟨rfl, rfl⟩ | ⟨hne, hbo⟩
    · rw [same] at hL
      cases hL
      have : B < w.heap.size := hlt
      omega
    · rw [Ren.with_ne ρ _ hne] at hL
      exact x.origin b o' L' hbo hL hlt

/-! ### the keys -/
noncomputable section
def keysI : List (V × V × Nat) → Option (List Int)
  | [] => some []
  | e :: l => match e.1 with
    | .int .i64 k => match keysI l with
      | some r => some (k :: r)
      | none => none
    | _ => none
def insI (x : Int) : List Int → List Int
  | [] => [x]
  | y :: l => match ilt x y with
    | true => x :: y :: l
    | false => y :: insI x l
def sortI : List Int → List Int
  | [] => []
  | x :: l => insI x (sortI l)
/-- each greater than the one before -/
def rising : List Int → Bool
  | [] => true
  | x :: l => match l with
    | [] => true
    | y :: _ => ilt x y && rising l
def inI64 : List Int → Bool
  | [] => true
  | x :: l => (match x with
    | .ofNat n => Nat.blt n 9223372036854775808
    | .negSucc n => Nat.blt n 9223372036854775808) && inI64 l
/-- the stamps go up, and stay below the clock -/
def upTo (clock : Nat) : Nat → List (V × V × Nat) → Bool
  | _, [] => true
  | lo, e :: l => Nat.ble lo e.2.2 && Nat.blt e.2.2 clock && upTo clock (Nat.succ e.2.2) l
/-- slices.Sorted of the keys of a map: a new row, the keys in order -/
def sortedX (iS iK : FuncId) (e : TypeId) (f : FuncId) (args : List V) (h : H) : Option (V × H) :=
  match Nat.beq f iS, args with
  | true, [.func (.func g) [] [.ptr b 0]] => match Nat.beq g iK, h.tr.get b with
    | true, some (.cells (some _) n pat tr) => match cell n pat tr 0 with
      | some (.map r) => match h.tr.get r with
        | some (.map es clock) => match keysI es with
          | some (k :: ks) => match rising (sortI (k :: ks)) && inI64 (k :: ks) && upTo clock 0 es && Nat.ble es.length 1000 with
            | true => some (.slice h.next 0 (Nat.succ ks.length) (.atl (Nat.succ ks.length) 1), h.add (.cells (some e) (Nat.succ ks.length) ((sortI (k :: ks)).map (.int .i64)) .leaf))
            | false => none
          | _ => none
        | _ => none
      | _ => none
    | _, _ => none
  | _, _ => none
end
theorem ilt_iff {a b : Int} : ilt a b = true ↔ a < b := ilt_t
theorem insI_perm (x : Int) : ∀ l, (insI x l).Perm (x :: l)
  | [] => .refl _
  | y :: l => by
    unfold insI
    split
    · exact .refl _
    · exact ((insI_perm x l).cons y).trans (.swap x y l)
theorem sortI_perm : ∀ l, (sortI l).Perm l
  | [] => .refl _
  | x :: l => (insI_perm x _).trans ((sortI_perm l).cons x)
theorem rising_lt : ∀ {l : List Int}, rising l = true → l.Pairwise (fun a b => a < b)
  | [], _ => .nil
  | [x], _ => by simp
  | x :: y :: l, h => by
    have h : (ilt x y && rising (y :: l)) = true := h
    simp only [Bool.and_eq_true, ilt_iff] at h
    obtain ⟨h1, h2⟩ := h
    have ih := rising_lt h2
    refine List.pairwise_cons.2 ⟨fun z hz => ?_, ih⟩
    rcases List.mem_cons.1 hz with rfl | hz
    · exact h1
    · have := (List.pairwise_cons.1 ih).1 z hz
      omega
theorem sort_eq {ss ks : List Int} (h1 : ss.Perm ks) (h2 : rising (sortI ks) = true) : ss.mergeSort leI = sortI ks := by
  have hp : ss.Perm (sortI ks) := h1.trans (sortI_perm ks).symm
  rw [mergeSort_of_perm_i hp]
  refine List.mergeSort_of_pairwise (le := leI) ((rising_lt h2).imp fun {a b} hab => ?_)
  simp only [leI, decide_eq_true_eq]; omega
theorem inI64_wf : ∀ {l : List Int}, inI64 l = true → ∀ x ∈ l, (Lit.int .i64 x).wf = true
  | y :: l, h, x, hx => by
    simp only [inI64, Bool.and_eq_true] at h
    rcases List.mem_cons.1 hx with rfl | hx
    · have m1 : IntKind.i64.min = -9223372036854775808 := by decide
      have m2 : IntKind.i64.max = 9223372036854775807 := by decide
      simp only [Lit.wf, Bool.and_eq_true, decide_eq_true_eq, m1, m2]
      have h1 := h.1
      cases x with
      | ofNat n =>
        have : n < 9223372036854775808 := by simpa [Nat.blt_eq] using h1
        simp only [Int.ofNat_eq_natCast]; omega
      | negSucc n =>
        have : n < 9223372036854775808 := by simpa [Nat.blt_eq] using h1
        omega
    · exact inI64_wf h.2 x hx
theorem keysI_get : ∀ {es : List (V × V × Nat)} {ks : List Int}, keysI es = some ks → ks.length = es.length ∧ ∀ (i : Nat) e, es[i]? = some e → ∃ k, ks[i]? = some k ∧ e.1 = .int .i64 k
  | [], ks, h => by cases h; exact ⟨rfl, fun i e h => by simp at h⟩
  | e :: l, ks, h => by
    simp only [keysI] at h
    split at h
    · rename_i k hk
      split at h
      · rename_i r hr
        cases h
        obtain ⟨l1, l2⟩ := keysI_get hr
        refine ⟨by simp [l1], fun i e' he => ?_⟩
        cases i with
        | zero => simp at he; subst he; exact ⟨k, rfl, hk⟩
        | succ i => simp at he; obtain ⟨k', q1, q2⟩ := l2 i e' he; exact ⟨k', by simpa using q1, q2⟩
      · cases h
    · cases h
theorem upTo_get : ∀ {es : List (V × V × Nat)} {clock lo : Nat}, upTo clock lo es = true → (∀ (i : Nat) e, es[i]? = some e → lo ≤ e.2.2 ∧ e.2.2 < clock) ∧ (es.map (·.2.2)).Pairwise (· < ·)
  | [], _, _, _ => ⟨fun i e h => by simp at h, .nil⟩
  | e :: l, clock, lo, h => by
    simp only [upTo, Bool.and_eq_true] at h
    obtain ⟨⟨h1, h2⟩, h3⟩ := h
    have h1 := Nat.le_of_ble_eq_true h1
    have h2 : e.2.2 < clock := by simpa [Nat.blt_eq] using h2
    obtain ⟨i1, i2⟩ := upTo_get h3
    refine ⟨fun i e' he => ?_, ?_⟩
    · cases i with
      | zero => simp at he; subst he; exact ⟨h1, h2⟩
      | succ i => simp at he; have := i1 i e' he; omega
    · rw [List.map_cons]
      refine List.pairwise_cons.2 ⟨fun x hx => ?_, i2⟩
      obtain ⟨e', he, rfl⟩ := List.mem_map.1 hx
      obtain ⟨i, hi⟩ := List.getElem?_of_mem he
      have := i1 i e' hi
      omega
/-- what the shelf says of slices.Sorted(maps.Keys(m)) -/
def ShelfSorted (P : Program) (iS iK : FuncId) (e : TypeId) : Prop := ∀ (Bm b nn : Nat) (D0 : DataW Unit) (w : World), w.cell? ⟨Bm, 0, none⟩ = some (.map (some b)) → w.ownsMap P e (fun _ => some (.nil, [])) b nn D0 → Maps.size D0 ≤ 1000 →
  Calls P iS #[.func (.func iK) #[] #[.pointer (some ⟨Bm, 0, none⟩)]] w fun en w' => ∃ (v : Value) (ss : List Int), en = .returned v ∧ ss.Perm (intKeys D0) ∧ w'.ownsRow w.heap.size e 1 v ss.length ((ss.mergeSort (fun x y => decide (x ≤ y))).map encZ) ∧ (v = .slice none 0 0 ↔ ss = []) ∧ Below w.heap.size w w'
theorem sortedX_ok {P : Program} {iS iK : FuncId} {e : TypeId} (hu : P.underlying e = some (.int .i64)) (hs : ShelfSorted P iS iK e) {f : FuncId} {args : List V} {h : H} {v : V} {h' : H} (hr : sortedX iS iK e f args h = some (v, h'))
    {ρ : Ren} {cargs : Array Value} {w : World} (ha : Rels ρ args cargs.toList) (hS : Sim ρ h w) (n : Nat) : CallsIn Fence.wide n P f cargs w (Ret (Post ρ h w v h')) := by
  unfold sortedX at hr
  split at hr
  · rename_i g b q0
    rw [T.beq_true] at q0
    subst q0
    split at hr
    · rename_i e0 n0 pat tr q1 hb
      rw [T.beq_true] at q1
      subst q1
      split at hr
      · rename_i r hc
        split at hr
        · rename_i es clock hm
          split at hr
          · rename_i k ks hk
            split at hr
            · rename_i q2
              simp only [Bool.and_eq_true] at q2
              obtain ⟨⟨⟨p1, p2⟩, p3⟩, p4⟩ := q2
              have p4 := Nat.le_of_ble_eq_true p4
              cases hr
              -- the argument
              obtain ⟨c, cs', e1, r1, e2⟩ := ha.uncons
              have e2 := e2.of_nil
              subst e2
              have ec : cargs = #[c] := by rw [← Array.toArray_toList (xs := cargs), e1]
              subst ec
              cases r1 with
              | func _ s1 s2 s3 s4 =>
              rename_i fa ca
              have fa0 : fa = #[] := Array.eq_empty_of_size_eq_zero (by simpa using s1)
              subst fa0
              obtain ⟨x, hx⟩ : ∃ x, ca = #[x] := by
                obtain ⟨l⟩ := ca
                match l, s2 with
                | [x], _ => exact ⟨x, rfl⟩
              subst hx
              have rx := s4 0 _ x rfl rfl
              cases rx with
              | ptr hρ =>
              rename_i B d z
              obtain ⟨L, c, l1, l2, l3⟩ := hS.live b _ hb
              rw [hρ] at l1
              cases l1
              obtain ⟨cs, el, lo, hi, g1, g2, g3, g4, g5, g6⟩ := l3
              obtain ⟨_, d0⟩ := g5 e0 rfl
              have d0 : d = 0 := d0
              subst d0
              subst g1
              have g2 : cs.size = z := g2
              have g3 : 0 + n0 ≤ z := g3
              have h0 := cell_lt hc
              have hcs : cs[0]? = some cs[0] := Array.getElem?_eq_getElem (by omega)
              have rm := g6.2 0 _ cs[0] hc (by simp)
              obtain ⟨M, hM⟩ : ∃ M dm zm, ρ r = some (M, dm, zm) ∧ cs[0] = .map (some M) := by
                generalize cs[0] = y at rm
                cases rm with
                | map hq => exact ⟨_, _, _, hq, rfl⟩
              obtain ⟨dm, zm, hM, hc0⟩ := hM
              obtain ⟨L2, c2, m1, m2, m3⟩ := hS.live r _ hm
              rw [hM] at m1
              cases m1
              obtain ⟨es', t1, t2, t3⟩ := m3
              subst t1
              obtain ⟨k1, k2⟩ := keysI_get hk
              obtain ⟨u1, u2⟩ := upTo_get p3
              have ent : ∀ (i : Nat) x, es'[i]? = some x → ∃ a k', es[i]? = some a ∧ (k :: ks)[i]? = some k' ∧ x.key = .int .i64 k' ∧ x.born = a.2.2 := fun i x hx => by
                have hi := (Array.getElem?_eq_some_iff.1 hx).1
                have ha : es[i]? = some (es[i]'(by omega)) := List.getElem?_eq_getElem (by omega)
                obtain ⟨r1, r2, r3⟩ := t3 i _ x ha hx
                obtain ⟨k', q1, q2⟩ := k2 i _ ha
                rw [q2] at r1
                exact ⟨_, k', ha, q1, by generalize x.key = y at r1; cases r1; rfl, r3⟩
              have hkeys : es'.toList.map (·.key) = (k :: ks).map (Value.int .i64) := by
                refine List.ext_getElem? fun i => ?_
                rw [List.getElem?_map, List.getElem?_map, Array.getElem?_toList]
                cases hx : es'[i]? with
                | none =>
                  have := Array.getElem?_eq_none_iff.1 hx
                  rw [List.getElem?_eq_none (by omega)]; rfl
                | some x =>
                  obtain ⟨a, k', _, q2, q3, _⟩ := ent i x hx
                  rw [q2]; simp [q3]
              have hborn : es'.toList.map (·.born) = es.map (·.2.2) := by
                refine List.ext_getElem? fun i => ?_
                rw [List.getElem?_map, List.getElem?_map, Array.getElem?_toList]
                cases hx : es'[i]? with
                | none =>
                  have := Array.getElem?_eq_none_iff.1 hx
                  rw [List.getElem?_eq_none (by omega)]; rfl
                | some x =>
                  obtain ⟨a, k', q1, _, _, q4⟩ := ent i x hx
                  rw [q1]; simp [q4]
              have wf := inI64_wf p2
              have hnd : (k :: ks).Nodup := by
                have : (sortI (k :: ks)).Nodup := (rising_lt p1).imp fun {a b} hab => by omega
                exact (sortI_perm _).nodup_iff.1 this
              have reads : ∀ x ∈ es'.toList, ∃ k', k' ∈ k :: ks ∧ x.key = .int .i64 k' ∧ WideElems.rd (H := Unit) P e (fun _ => some (.nil, [])) x = some (.int .i64 k', .nil) := fun x hx => by
                obtain ⟨i, hi⟩ := List.getElem?_of_mem hx
                rw [Array.getElem?_toList] at hi
                obtain ⟨a, k', _, q2, q3, _⟩ := ent i x hi
                have hk' := List.mem_of_getElem? q2
                have w1 := wf k' hk'
                refine ⟨k', hk', q3, ?_⟩
                unfold WideElems.rd keyOf mapKey
                simp only [hu, q3, w1]
                rfl
              have fit : WideElems.Fit P e (fun _ => some ((.nil : DataW Unit), [])) es' clock := by
                refine ⟨?_, ⟨fun x hx => ?_, ?_, ?_⟩, fun x hx => ?_⟩
                · have : maxLen = 9223372036854775807 := by decide
                  omega
                · obtain ⟨i, hi⟩ := List.getElem?_of_mem hx
                  rw [Array.getElem?_toList] at hi
                  obtain ⟨a, k', q1, _, _, q4⟩ := ent i x hi
                  rw [q4]
                  exact (u1 i a q1).2
                · rw [hborn]
                  exact u2.imp fun {a b} hab => by omega
                · rw [hkeys]
                  exact List.pairwise_map.2 (hnd.imp fun {a b} hab q => hab (by cases q; rfl))
                · obtain ⟨k', _, _, q⟩ := reads x hx
                  exact ⟨_, q⟩
              have hD : intKeys (.map ((es'.toList.map (WideElems.rg P e (fun _ => some ((.nil : DataW Unit), [])))).foldr DataW.insert [])) |>.Perm (k :: ks) := by
                have s1 := (WideShapes.sorted_perm (es'.toList.map (WideElems.rg P e (fun _ => some ((.nil : DataW Unit), []))))).map fun p => intOf p.1
                refine s1.trans ?_
                have : ((es'.toList.map (WideElems.rg P e (fun _ => some ((.nil : DataW Unit), [])))).map fun p => intOf p.1) = k :: ks := by
                  have h1 : ((es'.toList.map (·.key)).map fun v : Value => match v with | .int _ a => a | _ => 0) = k :: ks := by
                    rw [hkeys, List.map_map]
                    simp [Function.comp_def]
                  rw [← h1, List.map_map, List.map_map]
                  refine List.map_congr_left fun x hx => ?_
                  obtain ⟨k', _, q3, q⟩ := reads x hx
                  simp only [Function.comp_def, WideElems.rg, q, Option.getD_some, intOf, q3]
                rw [this]
              have own : w.ownsMap P e (fun _ => some ((.nil : DataW Unit), [])) M es'.size (.map ((es'.toList.map (WideElems.rg P e (fun _ => some ((.nil : DataW Unit), [])))).foldr DataW.insert [])) := ⟨es', clock, m2, fit, Nat.le_refl _, rfl⟩
              have hcell : w.cell? ⟨B, 0, none⟩ = some (.map (some M)) := by
                unfold World.cell?
                rw [l2]
                show cs[0]? = _
                rw [hcs, hc0]
              refine (callsIn_wide.2 (hs B M _ _ w hcell own (Nat.le_trans own.size_le (by omega)))).mono fun en w' ⟨v, ss, x1, x2, x3, x4, x5⟩ => ?_
              subst x1
              have hss : ss.Perm (k :: ks) := x2.trans hD
              have hl : ss.length = ks.length + 1 := by rw [hss.length_eq]; rfl
              have hsrt := sort_eq hss p1
              have hsrt' : ss.mergeSort (fun x y => decide (x ≤ y)) = sortI (k :: ks) := hsrt
              rw [hsrt', hl] at x3
              obtain ⟨_, x3⟩ := x3
              rcases x3 with ⟨_, z0⟩ | ⟨gb, cap, cur, rfl, y1, y2, y3, y4, y5, y6⟩
              · omega
              · have hsl : (sortI (k :: ks)).length = ks.length + 1 := by rw [(sortI_perm _).length_eq]; rfl
                have y5 : cur.size = cap := by rw [y5, Nat.mul_one]
                rw [Nat.mul_one] at y6
                have hcur : ∀ (i : Nat) x, i < ks.length + 1 → cur[i]? = some x → ∃ k', (sortI (k :: ks))[i]? = some k' ∧ x = .int .i64 k' := fun i x hi hx => by
                  have : (cur.toList.take (ks.length + 1))[i]? = some x := by rw [List.getElem?_take_of_lt hi, Array.getElem?_toList]; exact hx
                  rw [y6, List.getElem?_map, Option.map_eq_some_iff] at this
                  obtain ⟨k', q1, q2⟩ := this
                  exact ⟨k', q1, q2.symm⟩
                have ho : ORel (ρ.with h.next (gb, 0, cap)) (.cells (some e) (Nat.succ ks.length) ((sortI (k :: ks)).map (.int .i64)) .leaf) (gb, 0, cap) (.cells cur e (0, 0)) := by
                  refine ⟨cur, e, 0, 0, rfl, y5, by show 0 + (ks.length + 1) ≤ cap; omega, fun i _ => by omega, fun e' q => by cases q; exact ⟨rfl, rfl⟩, fun i x hi hx => ?_, fun i v x hv hx => ?_⟩
                  · rw [Nat.zero_add] at hx
                    obtain ⟨k', _, rfl⟩ := hcur i x hi hx
                    rfl
                  · rw [Nat.zero_add] at hx
                    have hi := cell_lt hv
                    obtain ⟨k', q1, rfl⟩ := hcur i x hi hx
                    have hlen : (Nat.succ ks.length) = ((sortI (k :: ks)).map (V.int .i64)).length := by rw [List.length_map, hsl]
                    rw [hlen] at hv
                    have := cell_list _ i v hv
                    rw [List.getElem?_map, q1] at this
                    cases this
                    exact .int _ _
                obtain ⟨z1, z2⟩ := new_post hS x5 y1 y2 ho
                exact ⟨_, rfl, _, z1, z2, .sliceA (B := gb) (d := 0) (z := cap) (Ren.with_same _ _ _) y3 (by omega)⟩
            · cases hr
          · cases hr
        · cases hr
      · cases hr
    · cases hr
  · cases hr
/-- two ways to know a call -/
noncomputable def ext3 (x y : FuncId → List V → H → Option (V × H)) (f : FuncId) (args : List V) (h : H) : Option (V × H) :=
  match x f args h with
  | some r => some r
  | none => y f args h
theorem ext3_ok {P : Program} {eqs : List TypeId} {rows : List (FuncId × Row)} {x y : FuncId → List V → H → Option (V × H)} (hx : ExtOK P (mkG P eqs rows x)) (hy : ExtOK P (mkG P eqs rows y)) : ExtOK P (mkG P eqs rows (ext3 x y)) := by
  intro f args h v h' hr
  have hr : ext3 x y f args h = some (v, h') := hr
  unfold ext3 at hr
  split at hr
  · rename_i q
    cases hr
    exact hx f args h v h' q
  · exact hy f args h v h' hr
end Go.Ev
/- A call that is known at a part of the memory is known at the whole; append of many; the text of a row. -/
namespace Go.Ev
open Go.RowKit
/-- memory: a part of it as it is behind a call, all else as it was -/
structure Framed (h h2 h2' h' : H) : Prop where
  next2 : h2.next = h.next
  part : ∀ b o, h2.tr.get b = some o → h.tr.get b = some o
  next : h'.next = h2'.next
  get : ∀ b o, h'.tr.get b = some o → h2'.tr.get b = some o ∨ (b < h.next ∧ h2.tr.get b = none ∧ h.tr.get b = some o)
theorem frame_rule {ρ ρ' : Ren} {h h2 h2' h' : H} {w w' : World} (F : Framed h h2 h2' h') (hS : Sim ρ h w) (hS' : Sim ρ' h2' w') (hE : Ext ρ h2 w ρ' h2' w') : Sim ρ' h' w' ∧ Ext ρ h w ρ' h' w' := by
  have hS2 : Sim ρ h2 w := hS.sub (Nat.le_of_eq F.next2.symm) F.part
  have hle : ρ.le ρ' := hE.le hS2
  -- what was aside stands
  have aside : ∀ b o, b < h.next → h2.tr.get b = none → h.tr.get b = some o → ∃ L c, ρ' b = some L ∧ ρ b = some L ∧ L.1 < w.heap.size ∧ w'.heap[L.1]? = some c ∧ ORel ρ' o L c := by
    intro b o hb hn ho
    obtain ⟨L, c, l1, l2, l3⟩ := hS.live b o ho
    have hlt : L.1 < w.heap.size := (Array.getElem?_eq_some_iff.1 l2).1
    refine ⟨L, c, hle _ _ l1, l1, hlt, ?_, l3.mono hle⟩
    rw [hE.frame L.1 hlt fun b2 o2 L2 g1 _ g3 e => ?_]
    · exact l2
    · have : b2 = b := hS.inj b2 b o2 o L2 L (F.part _ _ g1) ho g3 l1 e
      rw [this, hn] at g1
      cases g1
  -- what was touched lies elsewhere
  have apart : ∀ b o b1 o1 L L1, b < h.next → h2.tr.get b = none → h.tr.get b = some o → ρ b = some L → h2'.tr.get b1 = some o1 → ρ' b1 = some L1 → L.1 = L1.1 → False := by
    intro b o b1 o1 L L1 hb hn ho hL h1 hL1 e
    have hlt : L.1 < w.heap.size := hS.lt ho hL
    obtain ⟨b0, o0, L0, p1, p2, p3, _⟩ := hE.origin b1 o1 L1 h1 hL1 (by rw [← e]; exact hlt)
    have : b0 = b := hS.inj b0 b o0 o L0 L (F.part _ _ p1) ho p2 hL (by rw [p3, e])
    rw [this, hn] at p1
    cases p1
  refine ⟨⟨hS'.glob, fun b L hb => by rw [F.next]; exact hS'.dom b L hb, fun b o hb => ?_, fun b b' o o' L L' hb hb' hL hL' e => ?_⟩, ⟨?_, fun b hb => hE.agree b (by rw [F.next2]; exact hb), hE.size, fun B hB hn => hE.frame B hB fun b o L g1 g2 g3 => hn b o L (F.part _ _ g1) g2 g3, fun b o L hb hL hlt => ?_, hE.tape, hE.os, hE.output⟩⟩
  · rcases F.get b o hb with q | ⟨q1, q2, q3⟩
    · exact hS'.live b o q
    · obtain ⟨L, c, l1, _, _, l2, l3⟩ := aside b o q1 q2 q3
      exact ⟨L, c, l1, l2, l3⟩
  · rcases F.get b o hb with q | ⟨q1, q2, q3⟩ <;> rcases F.get b' o' hb' with p | ⟨p1, p2, p3⟩
    · exact hS'.inj b b' o o' L L' q p hL hL' e
    · obtain ⟨M, c, l1, l0, _⟩ := aside b' o' p1 p2 p3
      rw [l1] at hL'
      cases hL'
      exact absurd e.symm fun e => apart b' o' b o _ L p1 p2 p3 l0 q hL e
    · obtain ⟨M, c, l1, l0, _⟩ := aside b o q1 q2 q3
      rw [l1] at hL
      cases hL
      exact absurd e fun e => apart b o b' o' _ L' q1 q2 q3 l0 p hL' e
    · obtain ⟨M, c, l1, l0, _⟩ := aside b o q1 q2 q3
      obtain ⟨M', c', l1', l0', _⟩ := aside b' o' p1 p2 p3
      rw [l1] at hL
      rw [l1'] at hL'
      cases hL
      cases hL'
      exact hS.inj b b' o o' _ _ q3 p3 l0 l0' e
  · show h.next ≤ h'.next
    rw [F.next, ← F.next2]
    exact hE.next
  · rcases F.get b o hb with q | ⟨q1, q2, q3⟩
    · obtain ⟨b0, o0, L0, p1, p2, p3, p4⟩ := hE.origin b o L q hL hlt
      exact ⟨b0, o0, L0, F.part _ _ p1, p2, p3, p4⟩
    · obtain ⟨M, c, l1, l0, _⟩ := aside b o q1 q2 q3
      rw [l1] at hL
      cases hL
      exact ⟨b, o, _, q3, l0, rfl, id⟩

section
variable {P : Program} {G : Γ} (hG : GOk P G) (hcodes : Codes G) (hext : ExtOK P G)
/-- append of some elements, their cells known, to a row whose cells are known -/
theorem at_appendM (hG : GOk P G) (hcodes : Codes G) (hext : ExtOK P G) {ρ0 : Ren} {h0 : H} {w0 : World} {env : Env} {h : H} {defs : List Nat} {a : Act} {w : World} {kk i m : Nat} {ops : Array Oper} {o : Oper} {Q : Exit → Act → World → Prop}
    (hA : At ρ0 h0 w0 ⟨env, h, defs⟩ a w) (hle : i + 1 ≤ ops.size) (ho : opsPart ops i 1 = [o]) (hgd : o.guard = none) {t t' : TypeId} {x y : Operand} (hop : act G env.get o.op = .ef (fun h => fAppend G (G.ty t) (G.ty t') h (env.get x) (env.get y)))
    {ty tx te : TY} {elem : TypeId} (h1 : G.ty t = some ty) (h2 : ty.desc = .slice elem) (h3 : G.ty elem = some te) (h4 : G.ty t' = some tx) (h5 : isInt tx.desc = some false) {L el : List V} {s : Nat} (h6 : te.size = s) (h8 : s ≤ 100000)
    {b k n : Nat} {e : Option TypeId} (h0n : 0 < n) (hL : L.length = k * s) (hx : env.get x = some (.slice b 0 k (.atl k s))) (hb : h.tr.get b = some (.cells e L.length L .leaf)) (hk : k + n ≤ 100000) {yv : V} (hy : env.get y = some yv) (hel : elems h te.size yv = some (n, el)) {d : Tmp} (hd : o.dst = some d) (hsz : Nat.blt d env.sz = true)
    (hQ : ∀ a' w', At ρ0 h0 w0 ⟨⟨env.sz, env.tr.put d (some (.slice h.next 0 (k + n) (.atl (k + n) s)))⟩, ⟨(h.tr.put b none).put h.next (some (.cells (sameE0 0 e elem) (L ++ el).length (L ++ el) .leaf)), h.next + 1⟩, defs⟩ a' w' → wpOpsIn Fence.wide kk P ops Q (List.range' (i + 1) m) a' w') :
    wpOpsIn Fence.wide kk P ops Q (List.range' i (1 + m)) a w := by
  have n1 : Nat.beq s s = true := (T.beq_true).2 rfl
  have n2 : Nat.ble (Nat.add k n) k = false := by
    cases q : Nat.ble (Nat.add k n) k with
    | false => rfl
    | true => have := Nat.le_of_ble_eq_true q; have : k + n ≤ k := this; omega
  have n3 : Nat.ble (Nat.add k n) 100000 = true := Nat.ble_eq_true_of_le hk
  have n4 : Nat.ble s 100000 = true := Nat.ble_eq_true_of_le h8
  have n5 : rGather h b 0 (Nat.mul k s) = some L := by
    simp only [rGather, hb]
    rw [show Nat.mul k s = L.length from hL.symm]
    exact gather_leaf L
  have hfa : fAppend G (G.ty t) (G.ty t') h (env.get x) (env.get y) = some (.slice h.next 0 (k + n) (.atl (k + n) s), (h.set b none).add (mkO (sameE0 0 e elem) (L ++ el))) := by
    rw [h6] at hel
    rw [h1, h4, hx, hy]
    simp only [fAppend, h2, h3, h5, news, hel, append2, h6, n1, n2, hb, n5, grown, n3, n4, Bool.and_self]
    rfl
  have hput : env.put (some d) (.slice h.next 0 (k + n) (.atl (k + n) s)) = some ⟨env.sz, env.tr.put d (some (.slice h.next 0 (k + n) (.atl (k + n) s)))⟩ := by
    obtain ⟨sz, tr⟩ := env
    have hsz : Nat.blt d sz = true := hsz
    simp only [Env.put, hsz]
  have hr : regS G (callT G (evC G 0)) ops (opsPart ops i 1) env h = some (⟨env.sz, env.tr.put d (some (.slice h.next 0 (k + n) (.atl (k + n) s)))⟩, (h.set b none).add (mkO (sameE0 0 e elem) (L ++ el))) := by
    rw [ho]
    simp only [regS, wantedO, hgd, step1, hop, hfa, hd, hput]
  refine at_part hG hcodes hext (N := 0) (n := 1) hA hle hr fun a' w' hA' => hQ a' w' ?_
  refine at_shape hA' rfl fun x obj hx => ?_
  simp only [T.get_put] at hx
  by_cases q : x = h.next
  · rw [if_pos q] at hx
    cases hx
    refine ⟨mkO (sameE0 0 e elem) (L ++ el), ?_, fun _ => mkO_rw _ _, fun ρ M c hc => ?_⟩
    · show ((h.set b none).add _).tr.get x = _
      rw [H.add_get, if_pos (by rw [q]; rfl)]
    · exact mkO_list hc
  · rw [if_neg q] at hx
    refine ⟨obj, ?_, id, fun _ _ _ hc => hc⟩
    show ((h.set b none).add _).tr.get x = _
    rw [H.add_get, if_neg (by exact q), H.set_get]
    exact hx
/-- append of some elements, their cells known, to the nil slice -/
theorem at_appendN (hG : GOk P G) (hcodes : Codes G) (hext : ExtOK P G) {ρ0 : Ren} {h0 : H} {w0 : World} {env : Env} {h : H} {defs : List Nat} {a : Act} {w : World} {kk i m : Nat} {ops : Array Oper} {o : Oper} {Q : Exit → Act → World → Prop}
    (hA : At ρ0 h0 w0 ⟨env, h, defs⟩ a w) (hle : i + 1 ≤ ops.size) (ho : opsPart ops i 1 = [o]) (hgd : o.guard = none) {t t' : TypeId} {x y : Operand} (hop : act G env.get o.op = .ef (fun h => fAppend G (G.ty t) (G.ty t') h (env.get x) (env.get y)))
    {ty tx te : TY} {elem : TypeId} (h1 : G.ty t = some ty) (h2 : ty.desc = .slice elem) (h3 : G.ty elem = some te) (h4 : G.ty t' = some tx) (h5 : isInt tx.desc = some false) {el : List V} {s : Nat} (h6 : te.size = s) (h8 : s ≤ 100000)
    {n : Nat} (h0n : 0 < n) (hx : env.get x = some .nils) (hk : n ≤ 100000) {yv : V} (hy : env.get y = some yv) (hel : elems h te.size yv = some (n, el)) {d : Tmp} (hd : o.dst = some d) (hsz : Nat.blt d env.sz = true)
    (hQ : ∀ a' w', At ρ0 h0 w0 ⟨⟨env.sz, env.tr.put d (some (.slice h.next 0 n (.atl n s)))⟩, ⟨h.tr.put h.next (some (.cells (some elem) el.length el .leaf)), h.next + 1⟩, defs⟩ a' w' → wpOpsIn Fence.wide kk P ops Q (List.range' (i + 1) m) a' w') :
    wpOpsIn Fence.wide kk P ops Q (List.range' i (1 + m)) a w := by
  have n2 : Nat.beq n 0 = false := by
    cases q : Nat.beq n 0 with
    | false => rfl
    | true => have := (T.beq_true).1 q; omega
  have n3 : Nat.ble n 100000 = true := Nat.ble_eq_true_of_le hk
  have n4 : Nat.ble s 100000 = true := Nat.ble_eq_true_of_le h8
  have hfa : fAppend G (G.ty t) (G.ty t') h (env.get x) (env.get y) = some (.slice h.next 0 n (.atl n s), h.add (mkO (some elem) el)) := by
    rw [h6] at hel
    rw [h1, h4, hx, hy]
    simp only [fAppend, h2, h3, h5, news, hel, append2, h6, n2, grown, n3, n4, Bool.and_self]
  have hput : env.put (some d) (.slice h.next 0 n (.atl n s)) = some ⟨env.sz, env.tr.put d (some (.slice h.next 0 n (.atl n s)))⟩ := by
    obtain ⟨sz, tr⟩ := env
    have hsz : Nat.blt d sz = true := hsz
    simp only [Env.put, hsz]
  have hr : regS G (callT G (evC G 0)) ops (opsPart ops i 1) env h = some (⟨env.sz, env.tr.put d (some (.slice h.next 0 n (.atl n s)))⟩, h.add (mkO (some elem) el)) := by
    rw [ho]
    simp only [regS, wantedO, hgd, step1, hop, hfa, hd, hput]
  refine at_part hG hcodes hext (N := 0) (n := 1) hA hle hr fun a' w' hA' => hQ a' w' ?_
  refine at_shape hA' rfl fun x obj hx => ?_
  simp only [T.get_put] at hx
  by_cases q : x = h.next
  · rw [if_pos q] at hx
    cases hx
    refine ⟨mkO (some elem) el, ?_, fun _ => mkO_rw _ _, fun ρ M c hc => ?_⟩
    · show (h.add _).tr.get x = _
      rw [H.add_get, if_pos (by rw [q])]
    · exact mkO_list hc
  · rw [if_neg q] at hx
    refine ⟨obj, ?_, id, fun _ _ _ hc => hc⟩
    show (h.add _).tr.get x = _
    rw [H.add_get, if_neg (by exact q)]
    exact hx
end
/-- what was there before has its name still -/
theorem Ext.keep {ρ ρ' : Ren} {h h' : H} {w w' : World} (hs : Sim ρ h w) (e : Ext ρ h w ρ' h' w') {env : Env} {t : Array Value} (hE : ERel ρ env t) : ERel ρ' env t := hE.mono (e.le hs)
section
variable {P : Program} {G : Γ} (hG : GOk P G)
/-- a call whose contract is known, the memory included -/
theorem at_callM (hG : GOk P G) {ρ0 : Ren} {h0 : H} {w0 : World} {st : St} {a : Act} {w : World} {k : Nat} {Q : Exit → Act → World → Prop} {i m : Nat} {ops : Array Oper} {o : Oper} (hA : At ρ0 h0 w0 st a w) (ho : ops[i]? = some o) (hgd : o.guard = none) {f : FuncId} {args : List V} (hact : act G st.env.get o.op = .call (some (.fn f args)))
    {fn : Func} {c : Code} (hf : P.funcs[f]? = some fn) (hname : fn.name ≠ "runtime.NumGoroutine") (hb : fn.body = some c) {v : V} {h' : H}
    (hcall : ∀ ρ (cargs : Array Value), Sim ρ st.h w → Rels ρ args cargs.toList → ∀ k, CallsIn Fence.wide k P f cargs w (Ret (Post ρ st.h w v h')))
    {env' : Env} (hput : st.env.put o.dst v = some env')
    (hQ : ∀ a' w', At ρ0 h0 w0 ⟨env', h', st.defs⟩ a' w' → wpOpsIn Fence.wide k P ops Q (List.range' (i + 1) m) a' w') : wpOpsIn Fence.wide k P ops Q (List.range' i (m + 1)) a w := by
  obtain ⟨ρ, s1, s2, s3, s4⟩ := hA
  rw [List.range'_succ]
  simp only [wpOpsIn, ho]
  have hw : Region.wanted o (yielded ops a.tmps) = true := by simp [Region.wanted, hgd]
  rw [hw, if_pos rfl]
  have hnd : ∀ c, o.op ≠ .defer c := fun c q => by rw [q] at hact; simp [act] at hact
  obtain ⟨sm, t1, t2⟩ := act_call (P := P) hG (eval_rel s1.glob s3) hact
  obtain ⟨cargs, ha, rfl⟩ := t1
  refine ⟨fun _ _ => trivial, ?_⟩
  rw [Oper.semAt_eq _ _ _ hnd, t2, run_callFunc_go hf hname hb]
  refine NextOk.upon (P := P) (.inl rfl) (R := Post ρ st.h w v h') (fun n => hcall ρ cargs s1 ha n) fun c w' hp => ?_
  obtain ⟨ρ', b1, b2, b3⟩ := hp
  exact hQ _ w' ⟨ρ', b1, s2.trans b2, put_rel (s3.mono (b2.le s1)) hput b3, by cases o.dst <;> exact s4.mono (b2.le s1)⟩
end
end Go.Ev

/- An evaluator for translated code: its values and memory, and how they stand to the model's. -/
import GoSem.Step
import Derived.CallsIn
import Derived.Laws.Cells
import Derived.Laws.Tables
set_option maxHeartbeats 1000000
/- An evaluator for the translated code: values and memory up to the numbers of the blocks; slices with a lower bound of their capacity. Definitions alone. -/
namespace Go.Ev
noncomputable section

/-! ### tries -/

inductive T (α : Type) where
  | leaf
  | node (l : T α) (v : Option α) (r : T α)

namespace T
variable {α β : Type}
def get (t : T α) : Nat → Option α :=
  T.rec (motive := fun _ => Nat → Option α) (fun _ => none) (fun _ v _ gl gr n =>
    Nat.rec (motive := fun _ => Option α) v (fun m _ =>
      Bool.rec (motive := fun _ => Option α) (gl (Nat.div m 2)) (gr (Nat.div m 2)) (Nat.beq (Nat.mod m 2) 1)) n) t
def set (x : Option α) (f : Nat) : T α → Nat → T α :=
  Nat.rec (motive := fun _ => T α → Nat → T α) (fun t _ => t) (fun _ ih t n =>
    T.rec (motive := fun _ => T α)
      (Nat.rec (motive := fun _ => T α) (.node .leaf x .leaf) (fun m _ =>
        Bool.rec (motive := fun _ => T α) (.node (ih .leaf (Nat.div m 2)) none .leaf) (.node .leaf none (ih .leaf (Nat.div m 2))) (Nat.beq (Nat.mod m 2) 1)) n)
      (fun l v r _ _ =>
        Nat.rec (motive := fun _ => T α) (.node l x r) (fun m _ =>
          Bool.rec (motive := fun _ => T α) (.node (ih l (Nat.div m 2)) v r) (.node l v (ih r (Nat.div m 2))) (Nat.beq (Nat.mod m 2) 1)) n) t) f
def put (t : T α) (n : Nat) (x : Option α) : T α := set x (Nat.succ n) t n
mutual
/-- each second element, from the first on -/
def evens : List α → List α
  | [] => []
  | x :: l => x :: odds l
def odds : List α → List α
  | [] => []
  | _ :: l => evens l
end
/-- element 0 at the root, 1, 3, 5 .. left, 2, 4, 6 .. right -/
def ofList (f : α → Option β) : Nat → List α → T β
  | 0, _ => .leaf
  | _ + 1, [] => .leaf
  | n + 1, x :: l => .node (ofList f n (evens l)) (f x) (ofList f n (odds l))
end T

/-! ### values -/

inductive Cap where
  | known (n : Nat)
  | atl (n esize : Nat)
  deriving DecidableEq

inductive V where
  | bool (b : Bool)
  | int (k : IntKind) (n : Int)
  | str (s : List UInt8)
  | nilp
  | ptr (b o : Nat)
  | nils
  | slice (b o len : Nat) (cap : Cap)
  | nilm
  | map (r : Nat)
  | func (fn : Fn) (first captured : List V)
  | nilf
  | iface (t : TypeId) (v : V)
  | nili
  | agg (n : Nat) (pat : List V) (tr : T V)
  | tuple (vs : List V)
  deriving Inhabited

structure Env where
  sz : Nat
  tr : T V

structure Lp where
  state : LoopState
  pending : Option Code
  fn : FuncId
  tmps : Env
  params : List Tmp
  assign : Code
  body : Code
  defers : Nat

inductive O where
  | cells (e : Option TypeId) (n : Nat) (pat : List V) (tr : T V)
  | ro (e : Option TypeId) (n : Nat) (pat : List V) (tr : T V)
  | map (es : List (V × V × Nat)) (clock : Nat)
  | strIter (s : List UInt8) (pos : Nat)
  | mapIter (m : Option Nat) (since : Nat) (seen : List Nat) (stepped : Nat)
  | loop (l : Lp)
  | deferred

structure H where
  tr : T O
  next : Nat

structure TY where
  desc : TypeDesc
  size : Nat
  agg : Bool
  zero : Option V
  methods : Array Method

/-- functions without a body that the evaluator knows -/
inductive Row where
  | clone
  | same
structure Γ where
  funcs : T Func
  types : T TY
  eqs : List TypeId
  rows : FuncId → Option Row
  ext : FuncId → List V → H → Option (V × H)

def Γ.ty (G : Γ) (t : TypeId) : Option TY := G.types.get t

/-! ### lists -/

def nth {α : Type} : List α → Nat → Option α
  | [], _ => none
  | x :: l, n => match n with
    | 0 => some x
    | n + 1 => nth l n
def takeN {α : Type} : Nat → List α → Option (List α)
  | 0, _ => some []
  | _ + 1, [] => none
  | n + 1, x :: l => match takeN n l with
    | some r => some (x :: r)
    | none => none
def dropN {α : Type} : Nat → List α → List α
  | 0, l => l
  | _ + 1, [] => []
  | n + 1, _ :: l => dropN n l
def optAll {α β : Type} (f : α → Option β) : List α → Option (List β)
  | [] => some []
  | a :: l => match f a with
    | some b => match optAll f l with
      | some r => some (b :: r)
      | none => none
    | none => none
def rep {α : Type} : Nat → List α → List α
  | 0, _ => []
  | n + 1, l => l ++ rep n l
def modN {α : Type} (f : α → α) : Nat → List α → List α
  | _, [] => []
  | 0, x :: l => f x :: l
  | n + 1, x :: l => x :: modN f n l
def delN {α : Type} : Nat → List α → List α
  | _, [] => []
  | 0, _ :: l => l
  | n + 1, x :: l => x :: delN n l

/-! ### numbers -/

def ilt : Int → Int → Bool
  | .ofNat a, .ofNat b => Nat.blt a b
  | .ofNat _, .negSucc _ => false
  | .negSucc _, .ofNat _ => true
  | .negSucc a, .negSucc b => Nat.blt b a
def ieq : Int → Int → Bool
  | .ofNat a, .ofNat b => Nat.beq a b
  | .ofNat _, .negSucc _ => false
  | .negSucc _, .ofNat _ => false
  | .negSucc a, .negSucc b => Nat.beq a b
/-- the number as an index below n -/
def idx (i : Int) (n : Nat) : Option Nat :=
  match i with
  | .ofNat k => match Nat.blt k n with
    | true => some k
    | false => none
  | .negSucc _ => none
def wr (k : IntKind) (n : Int) : Int :=
  match k, n with
  | .i64, .ofNat m => match Nat.blt m 9223372036854775808 with
    | true => .ofNat m
    | false => k.wrap n
  | .i64, .negSucc m => match Nat.blt m 9223372036854775808 with
    | true => .negSucc m
    | false => k.wrap n
  | .u32, .ofNat m => match Nat.blt m 4294967296 with
    | true => .ofNat m
    | false => k.wrap n
  | .u8, .ofNat m => match Nat.blt m 256 with
    | true => .ofNat m
    | false => k.wrap n
  | _, _ => k.wrap n

/-! ### cells -/

def V.scalar : V → Bool
  | .agg .. => false
  | .tuple _ => false
  | _ => true
def patAt (pat : List V) (i : Nat) : Option V :=
  match nth pat i with
  | some v => some v
  | none => nth pat (Nat.mod i pat.length)
def cell (n : Nat) (pat : List V) (tr : T V) (i : Nat) : Option V :=
  match Nat.blt i n with
  | true => match tr.get i with
    | some v => some v
    | none => patAt pat i
  | false => none
def gather (n : Nat) (pat : List V) (tr : T V) : Nat → Nat → Option (List V)
  | _, 0 => some []
  | i, k + 1 => match cell n pat tr i with
    | some v => match gather n pat tr (Nat.succ i) k with
      | some l => some (v :: l)
      | none => none
    | none => none
/-- cells as an aggregate -/
def mkA (cs : List V) : V :=
  match Nat.ble cs.length 8 with
  | true => .agg cs.length cs .leaf
  | false => .agg cs.length [] (T.ofList some cs.length cs)
def mkO (e : Option TypeId) (cs : List V) : O :=
  match Nat.ble cs.length 8 with
  | true => .cells e cs.length cs .leaf
  | false => .cells e cs.length [] (T.ofList some cs.length cs)
/-- the part of a type's size at a place -/
def partAt (agg : Bool) (size : Nat) (n : Nat) (pat : List V) (tr : T V) (off : Nat) : Option V :=
  match agg with
  | false => cell n pat tr off
  | true =>
    match Nat.beq off 0 && Nat.beq size n with
    | true => some (.agg n pat tr)
    | false => match gather n pat tr off size with
      | some cs => some (mkA cs)
      | none => none
/-- the cells of k places of (n', pat', tr') laid over a trie from off on -/
def overA (n' : Nat) (pat' : List V) (tr' : T V) (off : Nat) : Nat → Nat → T V → Option (T V)
  | _, 0, tr => some tr
  | i, k + 1, tr => match cell n' pat' tr' i with
    | some v => overA n' pat' tr' off (Nat.succ i) k (tr.put (Nat.add off i) (some v))
    | none => none
def overL (off : Nat) : List V → T V → T V
  | [], tr => tr
  | v :: l, tr => overL (Nat.succ off) l (tr.put off (some v))
/-- a part of a size, at a place -/
def putPart (size : Nat) (v : V) (n : Nat) (tr : T V) (off : Nat) : Option (T V) :=
  match Nat.ble (Nat.add off size) n with
  | false => none
  | true =>
    match v with
    | .agg n' pat' tr' => match Nat.beq n' size with
      | true => overA n' pat' tr' off 0 n' tr
      | false => none
    | .tuple _ => none
    | v => match Nat.beq size 1 with
      | true => some (tr.put off (some v))
      | false => none

/-! ### constants -/

def ofScalar : Value → Option V
  | .bool b => some (.bool b)
  | .int k n => some (.int k n)
  | .string s => some (.str s.data.toList)
  | .pointer none => some .nilp
  | .slice none 0 0 => some .nils
  | .map none => some .nilm
  | .nilFunc => some .nilf
  | .nilIface => some .nili
  | .func (.func f) a b => match a.toList, b.toList with
    | [], [] => some (.func (.func f) [] [])
    | _, _ => none
  | _ => none
def ofValue : Value → Option V
  | .agg cs => match optAll ofScalar cs.toList with
    | some l => some (mkA l)
    | none => none
  | v => ofScalar v

def mkTY (types : T TypeInfo) (i : TypeInfo) : Option TY :=
  let go (d : TypeDesc) : TY :=
    ⟨d, i.size, (match d with | .struct _ => true | .array _ _ => true | _ => false), (match i.zero with | some z => ofValue z | none => none), i.methods⟩
  match i.desc with
  | .named _ u => match types.get u with
    | some j => some (go j.desc)
    | none => none
  | .tuple _ => none
  | d => some (go d)

/-! ### operands -/

def Env.get (e : Env) (x : Operand) : Option V :=
  match x with
  | .tmp t => e.tr.get t
  | .const v => ofValue v
  | .global g => match Nat.blt g 1000 with
    | true => some (.ptr g 0)
    | false => none
  | .func f => some (.func (.func f) [] [])
def Env.put (e : Env) (d : Option Tmp) (v : V) : Option Env :=
  match d with
  | none => some e
  | some t => match e with
    | ⟨sz, tr⟩ => match Nat.blt t sz with
      | true => some ⟨sz, tr.put t (some v)⟩
      | false => none

/-! ### values that are computed -/

def eqFields (G : Γ) (eq : TypeId → V → V → Option Bool) (n : Nat) (pat : List V) (tr : T V) (n' : Nat) (pat' : List V) (tr' : T V) : List Field → Option Bool
  | [] => some true
  | f :: fs =>
    match decide (f.name = "_") with
    | true => none
    | false =>
      match G.ty f.type with
      | none => none
      | some ft =>
        match partAt ft.agg ft.size n pat tr f.offset, partAt ft.agg ft.size n' pat' tr' f.offset with
        | some a, some b => match eq f.type a b with
          | some true => eqFields G eq n pat tr n' pat' tr' fs
          | r => r
        | _, _ => none
def eqElems (eq : V → V → Option Bool) (agg : Bool) (s : Nat) (n : Nat) (pat : List V) (tr : T V) (n' : Nat) (pat' : List V) (tr' : T V) : Nat → Nat → Option Bool
  | _, 0 => some true
  | i, k + 1 =>
    match partAt agg s n pat tr (Nat.mul i s), partAt agg s n' pat' tr' (Nat.mul i s) with
    | some a, some b => match eq a b with
      | some true => eqElems eq agg s n pat tr n' pat' tr' (Nat.succ i) k
      | r => r
    | _, _ => none

/-- '==' -/
def eqO (G : Γ) : Nat → TypeId → V → V → Option Bool
  | 0, _, _, _ => none
  | d + 1, t, x, y =>
    match G.ty t with
    | none => none
    | some ty =>
      match ty.desc, x, y with
      | .bool, .bool a, .bool b => some (a == b)
      | .int _, .int k a, .int k' b => match decide (k = k') with
        | true => some (ieq a b)
        | false => none
      | .string, .str a, .str b => some (a == b)
      | .pointer _, .nilp, .nilp => some true
      | .pointer _, .nilp, .ptr _ _ => some false
      | .pointer _, .ptr _ _, .nilp => some false
      | .pointer t', .ptr b o, .ptr b' o' => match Nat.beq b b' && Nat.beq o o', G.ty t' with
        | true, some _ => some true
        | _, _ => none
      | .interface _, .nili, .iface _ _ => some false
      | .interface _, .iface _ _, .nili => some false
      | .struct fs, .agg n pat tr, .agg n' pat' tr' =>
        match G.eqs.contains t with
        | true => eqFields G (eqO G d) n pat tr n' pat' tr' fs.toList
        | false => none
      | .array len elem, .agg n pat tr, .agg n' pat' tr' =>
        match G.eqs.contains t, G.ty elem with
        | true, some te => eqElems (eqO G d elem) te.agg te.size n pat tr n' pat' tr' 0 len
        | _, _ => none
      | .slice _, .nils, .nils => some true
      | .slice _, .nils, .slice .. => some false
      | .slice _, .slice .., .nils => some false
      | .map _ _, .nilm, .nilm => some true
      | .map _ _, .nilm, .map _ => some false
      | .map _ _, .map _, .nilm => some false
      | .func .., .nilf, .nilf => some true
      | .func .., .nilf, .func .. => some false
      | .func .., .func .., .nilf => some false
      | _, _, _ => none

def intBin (op : BinOp) (k : IntKind) (a b : Int) : Option V :=
  match op with
  | .add => some (.int k (wr k (Int.add a b)))
  | .sub => some (.int k (wr k (Int.sub a b)))
  | .mul => some (.int k (wr k (Int.mul a b)))
  | .quo => match ieq b 0 with
    | true => none
    | false => some (.int k (wr k (Int.tdiv a b)))
  | .rem => match ieq b 0 with
    | true => none
    | false => some (.int k (Int.tmod a b))
  | .and => some (.int k (wr k (Int.ofNat (BitVec.ofInt k.bits a &&& BitVec.ofInt k.bits b).toNat)))
  | .or => some (.int k (wr k (Int.ofNat (BitVec.ofInt k.bits a ||| BitVec.ofInt k.bits b).toNat)))
  | .xor => some (.int k (wr k (Int.ofNat (BitVec.ofInt k.bits a ^^^ BitVec.ofInt k.bits b).toNat)))
  | .andNot => some (.int k (wr k (Int.ofNat (BitVec.ofInt k.bits a &&& ~~~BitVec.ofInt k.bits b).toNat)))
  | .eql => some (.bool (ieq a b))
  | .neq => some (.bool (!ieq a b))
  | .lss => some (.bool (ilt a b))
  | .leq => some (.bool (!ilt b a))
  | .gtr => some (.bool (ilt b a))
  | .geq => some (.bool (!ilt a b))
  | _ => none
def shiftBin (op : BinOp) (k : IntKind) (a b : Int) : Option V :=
  match b with
  | .negSucc _ => none
  | .ofNat b =>
    match op with
    | .shl => some (.int k (wr k (Int.mul a (Int.ofNat (Nat.pow 2 (min b k.bits))))))
    | .shr => some (.int k (Int.fdiv a (Int.ofNat (Nat.pow 2 (min b k.bits)))))
    | _ => none
def strBin (op : BinOp) (a b : List UInt8) : Option V :=
  match op with
  | .add => match Nat.ble (Nat.add a.length b.length) 1000000000 with
    | true => some (.str (a ++ b))
    | false => none
  | .eql => some (.bool (a == b))
  | .neq => some (.bool (!(a == b)))
  | .lss => some (.bool (Op.bytesLess a b))
  | .leq => some (.bool (Op.bytesLess a b || a == b))
  | .gtr => some (.bool (!(Op.bytesLess a b || a == b)))
  | .geq => some (.bool (!(Op.bytesLess a b)))
  | _ => none
def isConst : Operand → Bool
  | .const _ => true
  | _ => false
/-- 'x == nil' of an interface value: one operand is the literal -/
def nilBin (G : Γ) (op : BinOp) (t : TypeId) (c : Bool) : Option V :=
  match c, G.ty t with
  | true, some ty => match ty.desc, op with
    | .interface _, .eql => some (.bool true)
    | .interface _, .neq => some (.bool false)
    | _, _ => none
  | _, _ => none
/-- two pointers that are not nil -/
def ptr2 (x y : V) : Bool :=
  match x, y with
  | .ptr _ _, .ptr _ _ => true
  | _, _ => false
def pBin (G : Γ) (op : BinOp) (t : TypeId) (c : Bool) (x y : Option V) : Option V :=
  match x, y with
  | some .nili, some .nili => nilBin G op t c
  | some (.int k a), some (.int k' b) =>
    match op with
    | .shl => shiftBin .shl k a b
    | .shr => shiftBin .shr k a b
    | op => match decide (k = k') with
      | true => intBin op k a b
      | false => none
  | some (.str a), some (.str b) => strBin op a b
  | some x, some y => match op with
    | .eql => match ptr2 x y, eqO G 8 t x y with
      | false, some b => some (.bool b)
      | _, _ => none
    | .neq => match eqO G 8 t x y with
      | some b => some (.bool (!b))
      | none => none
    | _ => none
  | _, _ => none
def pUn (op : UnOp) (x : Option V) : Option V :=
  match op, x with
  | .not, some (.bool b) => some (.bool (!b))
  | .neg, some (.int k n) => some (.int k (wr k (Int.sub 0 n)))
  | .xor, some (.int k n) => some (.int k (wr k (Int.ofNat (BitVec.ofInt k.bits (if k.signed then -1 else k.max) ^^^ BitVec.ofInt k.bits n).toNat)))
  | _, _ => none
def pPick (c a b : Option V) : Option V :=
  match c with
  | some (.bool true) => a
  | some (.bool false) => b
  | _ => none
def pConv (src dst : Option TY) (x : Option V) : Option V :=
  match src, dst, x with
  | some _, some ty, some (.int _ n) => match ty.desc with
    | .int k => some (.int k (wr k n))
    | _ => none
  | some _, some ty, some (.str s) => match ty.desc with
    | .string => some (.str s)
    | _ => none
  | _, _, _ => none
def pNil (x : Option V) : Option V :=
  match x with
  | some (.ptr b o) => some (.ptr b o)
  | some (.func (.func f) a b) => some (.func (.func f) a b)
  | _ => none
def pIface (t : TypeId) (ty : Option TY) (x : Option V) : Option V :=
  match ty, x with
  | some ty, some v => match ty.desc with
    | .interface _ => none
    | _ => some (.iface t v)
  | _, _ => none
def pFunc (e : Operand → Option V) (fn : Fn) (first captured : List Operand) : Option V :=
  match fn with
  | .func f => match optAll e first, optAll e captured with
    | some a, some b => some (.func (.func f) a b)
    | _, _ => none
  | _ => none
/-- the parts of a struct or an array that is built: place and size of a part's number -/
def place (G : Γ) (ty : TY) (i : Nat) : Option (Nat × Nat) :=
  match ty.desc with
  | .struct fs => match fs.toList[i]? with
    | some f => match G.ty f.type with
      | some ft => some (f.offset, ft.size)
      | none => none
    | none => none
  | .array _ elem => match G.ty elem with
    | some te => some (Nat.mul i te.size, te.size)
    | none => none
  | _ => none
def fillA (pl : Nat → Option (Nat × Nat)) (e : Operand → Option V) (n : Nat) : List (Nat × Operand) → T V → Option (T V)
  | [], tr => some tr
  | p :: rest, tr =>
    match pl p.1, e p.2 with
    | some (off, size), some v => match putPart size v n tr off with
      | some tr' => fillA pl e n rest tr'
      | none => none
    | _, _ => none
def buildable (G : Γ) (d : TypeDesc) : Bool :=
  match d with
  | .struct _ => true
  | .array _ elem => match G.ty elem with
    | some _ => true
    | none => false
  | _ => false
def pBuild (G : Γ) (ty : Option TY) (e : Operand → Option V) (parts : List (Nat × Operand)) : Option V :=
  match ty with
  | some ty => match ty.zero, buildable G ty.desc with
    | some (.agg n pat tr), true => match fillA (place G ty) e n parts tr with
      | some tr' => some (.agg n pat tr')
      | none => none
    | _, _ => none
  | none => none

/-- a bound of a slice expression: from lo to hi -/
def bnd (x : Option Operand) (e : Operand → Option V) (d : Nat) (hi : Nat) : Option Nat :=
  match x with
  | none => some d
  | some o => match e o with
    | some (.int _ n) => idx n (Nat.succ hi)
    | _ => none
def bnds (e : Operand → Option V) (lo hi mx : Option Operand) (len cap : Nat) : Option (Nat × Nat × Nat) :=
  match bnd mx e cap cap with
  | some m => match bnd hi e len m with
    | some h => match bnd lo e 0 h with
      | some l => some (l, h, m)
      | none => none
    | none => none
  | none => none
def moved (o l s m : Nat) : Nat :=
  match Nat.beq m l with
  | true => o
  | false => Nat.add o (Nat.mul l s)
def pSlice (G : Γ) (ty : Option TY) (e : Operand → Option V) (x : Operand) (lo hi mx : Option Operand) : Option V :=
  match ty, e x with
  | some ty, some v =>
    match ty.desc, v with
    | .array n elem, .ptr b o =>
      match mx, hi with
      | some _, none => none
      | _, _ => match bnds e lo hi mx n n, G.ty elem with
        | some (l, h, m), some te => some (.slice b (moved o l te.size m) (Nat.sub h l) (.known (Nat.sub m l)))
        | _, _ => none
    | .slice elem, .slice b o len (.known c) =>
      match mx, hi with
      | some _, none => none
      | _, _ => match bnds e lo hi mx len c, G.ty elem with
        | some (l, h, m), some te => some (.slice b (moved o l te.size m) (Nat.sub h l) (.known (Nat.sub m l)))
        | _, _ => none
    | .slice elem, .slice b o len (.atl c es) =>
      match mx, hi with
      | some _, none => none
      | some _, some _ => match bnds e lo hi mx len c, G.ty elem with
        | some (l, h, m), some te => match Nat.beq m l with
          | true => some (.slice b o 0 (.atl 0 es))
          | false => some (.slice b (Nat.add o (Nat.mul l te.size)) (Nat.sub h l) (.known (Nat.sub m l)))
        | _, _ => none
      | none, _ => match bnds e lo hi mx len c, G.ty elem with
        | some (l, h, m), some te => match Nat.beq te.size es && Nat.ble h m with
          | true => some (.slice b (Nat.add o (Nat.mul l te.size)) (Nat.sub h l) (.atl (Nat.sub m l) es))
          | false => none
        | _, _ => none
    | .slice elem, .nils =>
      match mx, hi with
      | some _, none => none
      | _, _ => match bnds e lo hi mx 0 0, G.ty elem with
        | some _, some _ => some .nils
        | _, _ => none
    | .string, .str s =>
      match mx with
      | some _ => none
      | none => match bnds e lo hi none s.length s.length with
        | some (l, h, _) => match takeN (Nat.sub h l) (dropN l s) with
          | some r => some (.str r)
          | none => none
        | none => none
    | _, _ => none
  | _, _ => none
def pFieldAddr (G : Γ) (ty : Option TY) (x : Option V) (f : Nat) : Option V :=
  match ty, x with
  | some ty, some (.ptr b o) => match ty.desc with
    | .struct fs => match fs.toList[f]? with
      | some fd => match G.ty fd.type with
        | some ft => match Nat.beq ft.size 0 with
          | false => some (.ptr b (Nat.add o fd.offset))
          | true => none
        | none => none
      | none => none
    | _ => none
  | _, _ => none
def pField (G : Γ) (ty : Option TY) (x : Option V) (f : Nat) : Option V :=
  match ty, x with
  | some ty, some (.agg n pat tr) => match ty.desc with
    | .struct fs => match fs.toList[f]? with
      | some fd => match G.ty fd.type with
        | some ft => partAt ft.agg ft.size n pat tr fd.offset
        | none => none
      | none => none
    | _ => none
  | _, _ => none
def pIndexAddr (G : Γ) (ty : Option TY) (x ix : Option V) : Option V :=
  match ty, x, ix with
  | some ty, some (.ptr b o), some (.int _ i) => match ty.desc with
    | .array len elem => match idx i len, G.ty elem with
      | some k, some te => some (.ptr b (Nat.add o (Nat.mul k te.size)))
      | _, _ => none
    | _ => none
  | some ty, some (.slice b o len _), some (.int _ i) => match ty.desc with
    | .slice elem => match idx i len, G.ty elem with
      | some k, some te => some (.ptr b (Nat.add o (Nat.mul k te.size)))
      | _, _ => none
    | _ => none
  | _, _, _ => none
def pIndex (G : Γ) (ty : Option TY) (x ix : Option V) : Option V :=
  match ty, x, ix with
  | some ty, some (.agg n pat tr), some (.int _ i) => match ty.desc with
    | .array len elem => match idx i len, G.ty elem with
      | some k, some te => partAt te.agg te.size n pat tr (Nat.mul k te.size)
      | _, _ => none
    | _ => none
  | some ty, some (.str s), some (.int _ (.ofNat k)) => match ty.desc with
    | .string => match nth s k with
      | some b => some (.int .u8 (Int.ofNat b.toNat))
      | none => none
    | _ => none
  | _, _, _ => none
def pExtract (x : Option V) (i : Nat) : Option V :=
  match x with
  | some (.tuple vs) => nth vs i
  | _ => none
def pAssert (asserted : TypeId) (ty : Option TY) (x : Option V) (ok : Bool) : Option V :=
  match ty, x with
  | some ty, some v =>
    match ty.desc, v with
    | .interface _, _ => none
    | _, .nili => match ok, ty.zero with
      | true, some z => some (.tuple [z, .bool false])
      | _, _ => none
    | _, .iface t v =>
      match Nat.beq t asserted with
      | true => match ok with
        | true => some (.tuple [v, .bool true])
        | false => some v
      | false => match ok, ty.zero with
        | true, some z => some (.tuple [z, .bool false])
        | _, _ => none
    | _, _ => none
  | _, _ => none
def pMin.go (less : Int → Int → Bool) (k : IntKind) (x : Int) : List V → Option V
  | [] => some (.int k x)
  | .int _ y :: rest => pMin.go less k (match less y x with | true => y | false => x) rest
  | _ => none
def pMin (l : Option (List V)) (less : Int → Int → Bool) : Option V :=
  match l with
  | some (.int k x :: rest) => pMin.go less k x rest
  | _ => none

/-! ### memory -/

def H.set (h : H) (b : Nat) (o : Option O) : H :=
  match h with
  | ⟨tr, next⟩ => ⟨tr.put b o, next⟩
def H.add (h : H) (o : O) : H :=
  match h with
  | ⟨tr, next⟩ => ⟨tr.put next (some o), Nat.succ next⟩

def rLoad (ty : Option TY) (h : H) (a : Option V) : Option V :=
  match ty, a with
  | some ty, some (.ptr b o) => match h.tr.get b with
    | some (.cells _ n pat tr) => partAt ty.agg ty.size n pat tr o
    | some (.ro _ n pat tr) => partAt ty.agg ty.size n pat tr o
    | _ => none
  | _, _ => none
def rGather (h : H) (b o k : Nat) : Option (List V) :=
  match h.tr.get b with
  | some (.cells _ n pat tr) => gather n pat tr o k
  | some (.ro _ n pat tr) => gather n pat tr o k
  | _ => none
def findK (G : Γ) (kt : TypeId) (k : V) : List (V × V × Nat) → Nat → Option (Option (Nat × V × V × Nat))
  | [], _ => some none
  | e :: es, i => match eqO G 8 kt k e.1 with
    | some true => some (some (i, e))
    | some false => findK G kt k es (Nat.succ i)
    | none => none
def eqS : V → V → Bool
  | .bool a, .bool b => a == b
  | .int k a, .int k' b => decide (k = k') && ieq a b
  | .str a, .str b => a == b
  | _, _ => false
def eqSs : List V → List V → Bool
  | [], [] => true
  | a :: l, b :: l' => eqS a b && eqSs l l'
  | _, _ => false
/-- the same key, of plain cells -/
def eqPlain (x y : V) : Bool :=
  match x, y with
  | .agg n pat tr, .agg n' pat' tr' => match Nat.beq n n', gather n pat tr 0 n, gather n' pat' tr' 0 n' with
    | true, some l, some l' => eqSs l l'
    | _, _, _ => false
  | x, y => eqS x y
def plainTy (G : Γ) : Nat → TypeId → Bool
  | 0, _ => false
  | d + 1, t => match G.ty t with
    | none => false
    | some ty => match ty.desc with
      | .bool => true
      | .int _ => true
      | .string => true
      | .struct fs => fs.toList.all fun f => plainTy G d f.type
      | _ => false
/-- keys that hold no interface, and no float -/
def keyOk (G : Γ) (t : TypeId) (k : V) : Bool :=
  match plainTy G 4 t, G.ty t with
  | true, some ty => match ty.desc, k with
    | .struct _, .agg n _ _ => Nat.beq n ty.size
    | .struct _, _ => false
    | _, _ => true
  | _, _ => false
def rLookup (G : Γ) (ty : Option TY) (h : H) (m k : Option V) (ok : Bool) : Option V :=
  match ty, m, k with
  | some ty, some m, some k => match ty.desc with
    | .map kt et =>
      match keyOk G kt k, (match m with
        | .nilm => some []
        | .map r => match h.tr.get r with
          | some (.map es _) => some es
          | _ => none
        | _ => none : Option (List (V × V × Nat))) with
      | true, some es => match findK G kt k es 0, G.ty et with
        | some (some (_, _, v, _)), some _ => some (match ok with | true => .tuple [v, .bool true] | false => v)
        | some none, some te => match te.zero with
          | some z => some (match ok with | true => .tuple [z, .bool false] | false => z)
          | none => none
        | _, _ => none
      | _, _ => none
    | _ => none
  | _, _, _ => none
def findBorn : List (V × V × Nat) → Nat → Option (V × V)
  | [], _ => none
  | e :: es, st => match Nat.beq e.2.2 st with
    | true => some (e.1, e.2.1)
    | false => findBorn es st
def rEntry (h : H) (it : Option V) : Option V :=
  match it with
  | some (.ptr r 0) => match h.tr.get r with
    | some (.mapIter (some m) _ (st :: _) stepped) => match h.tr.get m with
      | some (.map es clock) => match Nat.beq clock stepped with
        | true => match findBorn es st with
          | some x => some (.tuple [x.1, x.2])
          | none => none
        | false => none
      | _ => none
    | _ => none
  | _ => none
def rLen (G : Γ) (ty : Option TY) (h : H) (x : Option V) : Option V :=
  match ty, x with
  | some ty, some v =>
    match ty.desc, v with
    | .string, .str s => some (.int .i64 (Int.ofNat s.length))
    | .array n _, _ => some (.int .i64 (Int.ofNat n))
    | .pointer arr, _ => match G.ty arr with
      | some ta => match ta.desc with
        | .array n _ => some (.int .i64 (Int.ofNat n))
        | _ => none
      | none => none
    | .slice _, .nils => some (.int .i64 0)
    | .slice _, .slice _ _ n _ => some (.int .i64 (Int.ofNat n))
    | .map _ _, .nilm => some (.int .i64 0)
    | .map _ _, .map r => match h.tr.get r with
      | some (.map es _) => some (.int .i64 (Int.ofNat es.length))
      | _ => none
    | _, _ => none
  | _, _ => none
def pCap (ty : Option TY) (x : Option V) : Option V :=
  match ty, x with
  | some ty, some v =>
    match ty.desc, v with
    | .slice _, .nils => some (.int .i64 0)
    | .slice _, .slice _ _ _ (.known n) => some (.int .i64 (Int.ofNat n))
    | _, _ => none
  | _, _ => none

/-- a pointer to unsafe.Pointer, or back -/
def ptrConv (s d : Option TY) : Bool :=
  match s, d with
  | some s, some d => match s.desc, d.desc with
    | .pointer _, .unsafePointer => true
    | .unsafePointer, .pointer _ => true
    | .slice _, .string => true
    | _, _ => false
  | _, _ => false
def toBytes : List V → Option (List UInt8)
  | [] => some []
  | .int .u8 (.ofNat n) :: l => match Nat.blt n 256, toBytes l with
    | true, some r => some (n.toUInt8 :: r)
    | _, _ => none
  | _ => none
def rConv (G : Γ) (s d : Option TY) (h : H) (x : Option V) : Option V :=
  match s, d, x with
  | some s, some d, some (.ptr b o) => match h.tr.get b, s.desc, d.desc with
    | some (.cells _ n _ _), .pointer t, .unsafePointer => match G.ty t with
      | some tt => match Nat.blt o n && Nat.blt 0 tt.size with
        | true => some (.ptr b o)
        | false => none
      | none => none
    | some (.cells (some e) n _ _), .unsafePointer, .pointer u => match Nat.beq e u && Nat.beq o 0, G.ty u with
      | true, some tu => match Nat.blt 0 tu.size && Nat.ble tu.size n with
        | true => some (.ptr b o)
        | false => none
      | _, _ => none
    | _, _, _ => none
  | some s, some d, some (.slice b o (k + 1) _) => match s.desc, d.desc, rGather h b o (k + 1) with
    | .slice e, .string, some l => match G.ty e, toBytes l with
      | some te, some r => match te.desc with
        | .int .u8 => some (.str r)
        | _ => none
      | _, _ => none
    | _, _, _ => none
  | _, _, _ => none
def pSliceData (x : Option V) : Option V :=
  match x with
  | some .nils => some .nilp
  | some (.slice b o _ (.known (_ + 1))) => some (.ptr b o)
  | some (.slice b o _ (.atl (_ + 1) _)) => some (.ptr b o)
  | _ => none
/-- unsafe.String: the bytes are frozen -/
def fString (G : Γ) (ty : Option TY) (h : H) (x n : Option V) : Option (V × H) :=
  match ty, x, n with
  | some _, some .nilp, some (.int .i64 (.ofNat 0)) => some (.str [], h)
  | some _, some (.ptr _ _), some (.int .i64 (.ofNat 0)) => some (.str [], h)
  | some ty, some (.ptr b o), some (.int .i64 (.ofNat (k + 1))) => match ty.desc, rGather h b 0 (k + 1), h.tr.get b with
    | .pointer u, some l, some (.cells (some e) n pat tr) => match toBytes l, G.ty u, Nat.beq e u && Nat.beq o 0 && Nat.ble k 100000 with
      | some s, some tu, true => match Nat.beq tu.size 1 with
        | true => some (.str s, h.set b (some (.ro none n pat tr)))
        | false => none
      | _, _, _ => none
    | _, _, _ => none
  | _, _, _ => none

/-! new memory: the object, and the value, given its number -/

def boxO (t : TypeId) (v : V) : Option O :=
  match v with
  | .agg n pat tr => some (.cells (some t) n pat tr)
  | .tuple _ => none
  | v => some (.cells (some t) 1 [v] .leaf)
def aBox (t : TypeId) (x : Option V) (id : Nat) : Option (O × V) :=
  match x with
  | some v => match boxO t v with
    | some o => some (o, .ptr id 0)
    | none => none
  | none => none
def aAlloc (t : TypeId) (ty : Option TY) (id : Nat) : Option (O × V) :=
  match ty with
  | some ty => aBox t ty.zero id
  | none => none
/-- the cells of a zero value -/
def zcells (te : TY) : Option (List V) :=
  match te.zero with
  | some (.agg n pat tr) => match Nat.beq n te.size with
    | true => gather n pat tr 0 n
    | false => none
  | some (.tuple _) => none
  | some v => match Nat.beq te.size 1 with
    | true => some [v]
    | false => none
  | none => none
def aBuildSlice (G : Γ) (ty : Option TY) (len : Nat) (e : Operand → Option V) (parts : List (Nat × Operand)) (id : Nat) : Option (O × V) :=
  match ty with
  | some ty => match ty.desc with
    | .slice elem => match G.ty elem with
      | some te => match zcells te, Nat.ble (Nat.mul len te.size) 100000 with
        | some z, true => match fillA (fun i => some (Nat.mul i te.size, te.size)) e (Nat.mul len te.size) parts .leaf with
          | some tr => some (.cells (some elem) (Nat.mul len te.size) z tr, .slice id 0 len (.known len))
          | none => none
        | _, _ => none
      | none => none
    | _ => none
  | none => none
def aMakeSlice (G : Γ) (ty : Option TY) (l c : Option V) (id : Nat) : Option (O × V) :=
  match ty, l, c with
  | some ty, some (.int _ (.ofNat l)), some (.int _ (.ofNat c)) => match ty.desc with
    | .slice elem => match G.ty elem with
      | some te => match zcells te, Nat.ble l c && Nat.ble c 100000 && Nat.ble te.size 100000 with
        | some z, true => some (.cells (some elem) (Nat.mul c te.size) z .leaf, .slice id 0 l (.known c))
        | _, _ => none
      | none => none
    | _ => none
  | _, _, _ => none

/-! what changes memory -/

def putCells (h : H) (b o : Nat) (vs : List V) : Option H :=
  match h.tr.get b with
  | some (.cells e n pat tr) => match Nat.ble (Nat.add o vs.length) n with
    | true => some (h.set b (some (.cells e n pat (overL o vs tr))))
    | false => none
  | _ => none
def fStore (ty : Option TY) (h : H) (a x : Option V) : Option (V × H) :=
  match ty, a, x with
  | some ty, some (.ptr b o), some v => match h.tr.get b with
    | some (.cells e n pat tr) =>
      match v with
      | .agg n' pat' tr' =>
        match Nat.beq n' ty.size, Nat.beq o 0 && Nat.beq n' n with
        | true, true => some (.tuple [], h.set b (some (.cells e n' pat' tr')))
        | true, false => match Nat.ble (Nat.add o n') n, overA n' pat' tr' o 0 n' tr with
          | true, some tr'' => some (.tuple [], h.set b (some (.cells e n pat tr'')))
          | _, _ => none
        | false, _ => none
      | .tuple _ => none
      | v => match Nat.beq ty.size 1 && Nat.blt o n with
        | true => some (.tuple [], h.set b (some (.cells e n pat (tr.put o (some v)))))
        | false => none
    | _ => none
  | _, _, _ => none
/-- the elements that append, copy are handed -/
def elems (h : H) (s : Nat) (x : V) : Option (Nat × List V) :=
  match x with
  | .nils => some (0, [])
  | .slice b o n _ => match rGather h b o (Nat.mul n s) with
    | some l => some (n, l)
    | none => none
  | .str t => match Nat.beq s 1 with
    | true => some (t.length, t.map fun b => .int .u8 (Int.ofNat b.toNat))
    | false => none
  | _ => none
def news (te : TY) (zeros : Bool) (h : H) (y : V) : Option (Nat × List V) :=
  match zeros with
  | false => elems h te.size y
  | true => match y, zcells te with
    | .int .i64 (.ofNat n), some z => match Nat.ble n 100000 with
      | true => some (n, rep n z)
      | false => none
    | _, _ => none
def grown (h : H) (e : Option TypeId) (s n : Nat) (cs : List V) : Option (V × H) :=
  match Nat.ble n 100000 && Nat.ble s 100000 with
  | true => some (.slice h.next 0 n (.atl n s), h.add (mkO e cs))
  | false => none
def sameE (e : Option TypeId) (t : TypeId) : Option TypeId :=
  match e with
  | some t' => match Nat.beq t' t with
    | true => some t
    | false => none
  | none => none
/-- the row's type, where the new row begins where the old one does -/
def sameE0 (o : Nat) (e : Option TypeId) (t : TypeId) : Option TypeId :=
  match Nat.beq o 0 with
  | true => sameE e t
  | false => none
def append2 (elem : TypeId) (te : TY) (h : H) (x : V) (n : Nat) (new : List V) : Option (V × H) :=
  match x with
  | .nils => match Nat.beq n 0 with
    | true => some (.nils, h)
    | false => grown h (some elem) te.size n new
  | .slice b o len (.known c) =>
    match Nat.ble (Nat.add len n) c with
    | true => match putCells h b (Nat.add o (Nat.mul len te.size)) new with
      | some h' => some (.slice b o (Nat.add len n) (.known c), h')
      | none => none
    | false => match rGather h b o (Nat.mul len te.size) with
      | some old => grown h (some elem) te.size (Nat.add len n) (old ++ new)
      | none => none
  | .slice b o len (.atl c es) =>
    match Nat.beq te.size es with
    | false => none
    | true => match Nat.ble (Nat.add len n) c with
      | true => match putCells h b (Nat.add o (Nat.mul len te.size)) new with
        | some h' => some (.slice b o (Nat.add len n) (.atl c es), h')
        | none => none
      | false => match h.tr.get b, rGather h b o (Nat.mul len te.size) with
        | some (.cells e _ _ _), some old => grown (h.set b none) (sameE0 o e elem) te.size (Nat.add len n) (old ++ new)
        | _, _ => none
  | _ => none
/-- is it the number of a 'make', or are there elements? -/
def isInt : TypeDesc → Option Bool
  | .int _ => some true
  | .slice _ => some false
  | .string => some false
  | _ => none
def fAppend (G : Γ) (ty tx : Option TY) (h : H) (x y : Option V) : Option (V × H) :=
  match ty, tx, x, y with
  | some ty, some tx, some x, some y => match ty.desc with
    | .slice elem => match G.ty elem with
      | some te =>
        match isInt tx.desc with
        | some zs => match news te zs h y with
          | some (n, l) => append2 elem te h x n l
          | none => none
        | none => none
      | none => none
    | _ => none
  | _, _, _, _ => none
def fCopy (G : Γ) (ty : Option TY) (h : H) (x y : Option V) : Option (V × H) :=
  match ty, x, y with
  | some ty, some x, some y => match ty.desc with
    | .slice elem => match G.ty elem with
      | some te => match elems h te.size y with
        | some (n, l) => match x with
          | .nils => some (.int .i64 0, h)
          | .slice b o len _ => match takeN (Nat.mul (min n len) te.size) l with
            | some l' => match putCells h b o l' with
              | some h' => some (.int .i64 (Int.ofNat (min n len)), h')
              | none => none
            | none => none
          | _ => none
        | none => none
      | none => none
    | _ => none
  | _, _, _ => none
def fUpdate (G : Γ) (h : H) (ty : Option TY) (m k x : Option V) : Option (V × H) :=
  match ty, m, k, x with
  | some ty, some (.map r), some k, some v => match ty.desc with
    | .map kt _ => match h.tr.get r, keyOk G kt k with
      | some (.map es clock), true => match findK G kt k es 0 with
        | some (some (i, y)) => match eqPlain k y.1 with
          | true => some (.tuple [], h.set r (some (.map (modN (fun y => (k, v, y.2.2)) i es) clock)))
          | false => none
        | some none => some (.tuple [], h.set r (some (.map (es ++ [(k, v, clock)]) (Nat.succ clock))))
        | none => none
      | _, _ => none
    | _ => none
  | _, _, _, _ => none
def fEntry (G : Γ) (h : H) (ty : Option TY) (m k : Option V) : Option (V × H) :=
  match ty, m, k with
  | some ty, some (.map r), some k => match ty.desc with
    | .map kt et => match h.tr.get r, keyOk G kt k with
      | some (.map es clock), true => match findK G kt k es 0 with
        | some (some (i, y)) => match eqPlain k y.1 with
          | true => some (.tuple [y.2.1, .int .i64 (Int.ofNat y.2.2)], h.set r (some (.map (modN (fun y => (k, y.2.1, y.2.2)) i es) clock)))
          | false => none
        | some none => match G.ty et with
          | some te => match te.zero with
            | some z => some (.tuple [z, .int .i64 (Int.ofNat clock)], h.set r (some (.map (es ++ [(k, z, clock)]) (Nat.succ clock))))
            | none => none
          | none => none
        | none => none
      | _, _ => none
    | _ => none
  | _, _, _ => none
def bornAt : List (V × V × Nat) → Nat → Nat → Option Nat
  | [], _, _ => none
  | e :: es, st, i => match Nat.beq e.2.2 st with
    | true => some i
    | false => bornAt es st (Nat.succ i)
def fEntryStore (h : H) (m st x : Option V) : Option (V × H) :=
  match m, st, x with
  | some (.map r), some (.int _ (.ofNat born)), some v => match h.tr.get r with
    | some (.map es clock) => match bornAt es born 0 with
      | some i => some (.tuple [], h.set r (some (.map (modN (fun y => (y.1, v, y.2.2)) i es) clock)))
      | none => none
    | _ => none
  | _, _, _ => none
def fRange (ty : Option TY) (h : H) (x : Option V) : Option (V × H) :=
  match ty, x with
  | some ty, some v =>
    match ty.desc, v with
    | .string, .str s => some (.ptr h.next 0, h.add (.strIter s 0))
    | .map _ _, .nilm => some (.ptr h.next 0, h.add (.mapIter none 0 [] 0))
    | .map _ _, .map m => match h.tr.get m with
      | some (.map _ clock) => some (.ptr h.next 0, h.add (.mapIter (some m) clock [] clock))
      | _ => none
    | _, _ => none
  | _, _ => none
def leftOf (seen : List Nat) : List (V × V × Nat) → List (V × V × Nat)
  | [] => []
  | e :: es => match seen.any (Nat.beq e.2.2) with
    | true => leftOf seen es
    | false => e :: leftOf seen es
def fNext (h : H) (it : Option V) (isS : Bool) : Option (V × H) :=
  match it with
  | some (.ptr r 0) => match h.tr.get r, isS with
    | some (.strIter s pos), true =>
      match Nat.blt pos s.length with
      | true => match Utf8.decode ⟨s.toArray⟩ pos with
        | (c, w) => some (.tuple [.bool true, .int .i64 (Int.ofNat pos), .int .i32 (Int.ofNat c)], h.set r (some (.strIter s (Nat.add pos w))))
      | false => some (.tuple [.bool false], h)
    | some (.mapIter none _ _ _), false => some (.tuple [.bool false], h)
    | some (.mapIter (some m) since seen last), false => match h.tr.get m with
      | some (.map es clock) =>
        match !seen.isEmpty && !es.isEmpty && es.all (fun y => Nat.ble last y.2.2) with
        | true => none
        | false =>
          match leftOf seen es with
          | [] => some (.tuple [.bool false], h)
          | [x] => match Nat.blt x.2.2 since with
            | true => some (.tuple [.bool true, x.1, x.2.1], h.set r (some (.mapIter (some m) since (x.2.2 :: seen) clock)))
            | false => none
          | _ => none
      | _ => none
    | _, _ => none
  | _ => none
def fDelete (G : Γ) (ty : Option TY) (h : H) (m k : Option V) : Option (V × H) :=
  match ty, m, k with
  | some ty, some m, some k => match ty.desc, m with
    | .map kt _, .map r => match h.tr.get r, keyOk G kt k with
      | some (.map es clock), true => match findK G kt k es 0 with
        | some (some (i, _)) => some (.tuple [], h.set r (some (.map (delN i es) clock)))
        | some none => some (.tuple [], h)
        | none => none
      | _, _ => none
    | _, _ => none
  | _, _, _ => none
def fClear (G : Γ) (ty : Option TY) (h : H) (x : Option V) : Option (V × H) :=
  match ty, x with
  | some ty, some x => match ty.desc, x with
    | .map _ _, .nilm => some (.tuple [], h)
    | .slice _, .nils => some (.tuple [], h)
    | .map _ _, .map r => match h.tr.get r with
      | some (.map _ clock) => some (.tuple [], h.set r (some (.map [] clock)))
      | _ => none
    | .slice elem, .slice b o n _ => match G.ty elem with
      | some te => match zcells te with
        | some z => match putCells h b o (rep n z) with
          | some h' => some (.tuple [], h')
          | none => none
        | none => none
      | none => none
    | _, _ => none
  | _, _ => none

/-! ### operations -/

/-- whom a call calls, and with what -/
inductive Tgt where
  | fn (f : FuncId) (args : List V)
  | yield (l : Nat) (args : List V)

inductive Ac where
  | val (v : Option V)
  | rd (f : H → Option V)
  | al (f : Nat → Option (O × V))
  | ef (f : H → Option (V × H))
  | call (t : Option Tgt)

def tgtValue (f : Option V) (args : Option (List V)) : Option Tgt :=
  match f, args with
  | some (.func (.func f) first captured), some args => some (.fn f (first ++ args ++ captured))
  | some (.func (.yield l) first _), some args => some (.yield l (first ++ args))
  | _, _ => none
def findM (name : String) : List Method → Option Method
  | [] => none
  | m :: l => match decide (m.name = name) with
    | true => some m
    | false => findM name l
def tgtInvoke (G : Γ) (r : Option V) (name : String) (args : Option (List V)) : Option Tgt :=
  match r, args with
  | some (.iface t v), some args => match G.ty t with
    | some ty => match findM name ty.methods.toList with
      | some m => match m.path.toList, m.func, ty.desc with
        | [], some (f, true), .pointer _ => some (.fn f (v :: args))
        | _, _, _ => none
      | none => none
    | none => none
  | _, _ => none
def actBuiltin (G : Γ) (e : Operand → Option V) (b : Builtin) (types : List TypeId) (args : List Operand) : Ac :=
  match b, types, args with
  | .len, [t], [x] => .rd (fun h => rLen G (G.ty t) h (e x))
  | .cap, [t], [x] => .val (pCap (G.ty t) (e x))
  | .min, _, args => .val (pMin (optAll e args) ilt)
  | .max, _, args => .val (pMin (optAll e args) (fun a b => ilt b a))
  | .append, [t, t'], [x, y] => .ef (fun h => fAppend G (G.ty t) (G.ty t') h (e x) (e y))
  | .copy, [t, _], [x, y] => .ef (fun h => fCopy G (G.ty t) h (e x) (e y))
  | .delete, [t, _], [x, y] => .ef (fun h => fDelete G (G.ty t) h (e x) (e y))
  | .unsafeSliceData, _, [x] => .val (pSliceData (e x))
  | .unsafeString, [t, _], [x, y] => .ef (fun h => fString G (G.ty t) h (e x) (e y))
  | .clear, [t], [x] => .ef (fun h => fClear G (G.ty t) h (e x))
  | _, _, _ => .val none
def actCall (G : Γ) (e : Operand → Option V) (c : Call) : Ac :=
  match c.callee with
  | .value f => .call (tgtValue (e f) (optAll e c.args.toList))
  | .invoke r name => .call (tgtInvoke G (e r) name (optAll e c.args.toList))
  | .builtin b => actBuiltin G e b c.argTypes.toList c.args.toList

def act (G : Γ) (e : Operand → Option V) (op : Op) : Ac :=
  match op with
  | .move x => .val (e x)
  | .assign x => .val (e x)
  | .pick c a b => .val (pPick (e c) (e a) (e b))
  | .alloc t => .al (aAlloc t (G.ty t))
  | .box t x => .al (aBox t (e x))
  | .build t ps => .val (pBuild G (G.ty t) e ps.toList)
  | .buildSlice t n ps => .al (aBuildSlice G (G.ty t) n e ps.toList)
  | .insert t m k x => .ef (fun h => fUpdate G h (G.ty t) (e m) (e k) (e x))
  | .load t a => .rd (fun h => rLoad (G.ty t) h (e a))
  | .store t a x => .ef (fun h => fStore (G.ty t) h (e a) (e x))
  | .nilCheck x => .val (pNil (e x))
  | .binOp op t x y _ => .val (pBin G op t (isConst x || isConst y) (e x) (e y))
  | .unOp op _ x => .val (pUn op (e x))
  | .convert s d x => match ptrConv (G.ty s) (G.ty d) with
    | true => .rd (fun h => rConv G (G.ty s) (G.ty d) h (e x))
    | false => .val (pConv (G.ty s) (G.ty d) (e x))
  | .makeInterface t x => .val (pIface t (G.ty t) (e x))
  | .makeFunc fn first captured => .val (pFunc e fn first.toList captured.toList)
  | .makeMap _ r => match r with
    | none => .al (fun id => some (.map [] 0, .map id))
    | some _ => .val none
  | .makeSlice t l c => .al (aMakeSlice G (G.ty t) (e l) (e c))
  | .slice t x lo hi mx => .val (pSlice G (G.ty t) e x lo hi mx)
  | .fieldAddr s x f => .val (pFieldAddr G (G.ty s) (e x) f)
  | .field t x f => .val (pField G (G.ty t) (e x) f)
  | .indexAddr t x i => .val (pIndexAddr G (G.ty t) (e x) (e i))
  | .index t x i => .val (pIndex G (G.ty t) (e x) (e i))
  | .lookup t x i ok => .rd (fun h => rLookup G (G.ty t) h (e x) (e i) ok)
  | .mapUpdate t m k x => .ef (fun h => fUpdate G h (G.ty t) (e m) (e k) (e x))
  | .mapEntry t m k => .ef (fun h => fEntry G h (G.ty t) (e m) (e k))
  | .entryStore _ m st x => .ef (fun h => fEntryStore h (e m) (e st) (e x))
  | .range t x => .ef (fun h => fRange (G.ty t) h (e x))
  | .next it isS => .ef (fun h => fNext h (e it) isS)
  | .entry it => .rd (fun h => rEntry h (e it))
  | .typeAssert x _ t ok => .val (pAssert t (G.ty t) (e x) ok)
  | .extract t i => .val (pExtract (e t) i)
  | .call c => actCall G e c
  | _ => .val none

/-- is the operation carried out? none: not known -/
def wantedO (ops : Array Oper) (env : Env) (o : Oper) : Option Bool :=
  match o.guard with
  | none => some true
  | some (j, want) => match ops.toList[j]? with
    | some p => match p.dst with
      | some d => match env.tr.get d with
        | some (.bool b) => some (b == want)
        | some _ => some false
        | none => none
      | none => none
    | none => none

abbrev CallF := Tgt → H → Option (V × H)

/-- one operation, carried out -/
def step1 (G : Γ) (call : CallF) (env : Env) (h : H) (o : Oper) : Option (V × H) :=
  match act G env.get o.op with
  | .val v => match v with
    | some v => some (v, h)
    | none => none
  | .rd f => match f h with
    | some v => some (v, h)
    | none => none
  | .al f => match f h.next with
    | some (obj, v) => some (v, h.add obj)
    | none => none
  | .ef f => f h
  | .call t => match t with
    | some t => call t h
    | none => none

/-- a region in the order of the text -/
def regS (G : Γ) (call : CallF) (ops : Array Oper) : List Oper → Env → H → Option (Env × H)
  | [], env, h => some (env, h)
  | o :: rest, env, h =>
    match wantedO ops env o with
    | some true => match step1 G call env h o with
      | some (v, h') => match env.put o.dst v with
        | some env' => regS G call ops rest env' h'
        | none => none
      | none => none
    | some false => match env.put o.dst (.tuple []) with
      | some env' => regS G call ops rest env' h
      | none => none
    | none => none

/-! ### regions that draw their order -/

def bit (m i : Nat) : Bool := Nat.beq (Nat.mod (Nat.div m (Nat.pow 2 i)) 2) 1
/-- the operations, each with the set of those that must come before it -/
def ancOf (tab : T Nat) : List Edge → Nat
  | [] => 0
  | e :: l => match Region.binds .any e with
    | true => Nat.lor (Nat.lor (Nat.pow 2 e.on) (match tab.get e.on with | some m => m | none => 0)) (ancOf tab l)
    | false => ancOf tab l
def ancs : List Oper → Nat → T Nat → List (Oper × Nat)
  | [], _, _ => []
  | o :: l, i, tab => (o, ancOf tab o.after.toList) :: ancs l (Nat.succ i) (tab.put i (some (ancOf tab o.after.toList)))

/-- memory behind an operation that changes it, and what had to come before that -/
structure Bs where
  mask : Nat
  h : H
structure DS where
  env : Env
  base : Bs
  allocs : List (Nat × Nat × O)
  effs : List (Nat × Bs)
  reads : List (Nat × Nat × Env × Op × V)
/-- memory as an operation with the set m before it may see it -/
def hv (B : Bs) (m : Nat) : List (Nat × Nat × O) → H
  | [] => B.h
  | a :: l => match bit m a.1 && !bit B.mask a.1 with
    | true => (hv B m l).set a.2.1 (some a.2.2)
    | false => hv B m l
def chain (effs : List (Nat × Bs)) (m : Nat) : Bool :=
  match effs with
  | [] => true
  | e :: _ => bit m e.1
def stepD (G : Γ) (call : CallF) (n0 i m : Nat) (env : Env) (base : Bs) (allocs : List (Nat × Nat × O)) (effs : List (Nat × Bs)) (reads : List (Nat × Nat × Env × Op × V)) (o : Oper) : Option DS :=
  match act G env.get o.op with
  | .val v => match v with
    | some v => match env.put o.dst v with
      | some env' => some ⟨env', base, allocs, effs, reads⟩
      | none => none
    | none => none
  | .rd f => match f (hv base m allocs) with
    | some v => match env.put o.dst v with
      | some env' => some ⟨env', base, allocs, effs, (i, m, env, o.op, v) :: reads⟩
      | none => none
    | none => none
  | .al f => match f (Nat.add n0 i) with
    | some (obj, v) => match env.put o.dst v with
      | some env' => some ⟨env', base, (i, Nat.add n0 i, obj) :: allocs, effs, reads⟩
      | none => none
    | none => none
  | .ef f => match chain effs m, f (hv base m allocs) with
    | true, some (v, h) => match env.put o.dst v with
      | some env' => some ⟨env', ⟨m, h⟩, allocs, (i, ⟨m, h⟩) :: effs, reads⟩
      | none => none
    | _, _ => none
  | .call t => match t with
    | some t => match chain effs m, call t (hv base m allocs) with
      | true, some (v, h) => match env.put o.dst v with
        | some env' => some ⟨env', ⟨m, h⟩, allocs, (i, ⟨m, h⟩) :: effs, reads⟩
        | none => none
      | _, _ => none
    | none => none
def runD (G : Γ) (call : CallF) (ops : Array Oper) (n0 : Nat) : List (Oper × Nat) → Nat → DS → Option DS
  | [], _, s => some s
  | p :: rest, i, ⟨env, base, allocs, effs, reads⟩ =>
    match wantedO ops env p.1 with
    | some true => match stepD G call n0 i p.2 env base allocs effs reads p.1 with
      | some s' => runD G call ops n0 rest (Nat.succ i) s'
      | none => none
    | some false => match env.put p.1.dst (.tuple []) with
      | some env' => runD G call ops n0 rest (Nat.succ i) ⟨env', base, allocs, effs, reads⟩
      | none => none
    | none => none
def beqList (eq : V → V → Bool) : List V → List V → Bool
  | [], [] => true
  | a :: l, b :: l' => eq a b && beqList eq l l'
  | _, _ => false
def beqCells (eq : V → V → Bool) (n : Nat) (pat : List V) (tr : T V) (pat' : List V) (tr' : T V) : Nat → Nat → Bool
  | _, 0 => true
  | i, k + 1 => match cell n pat tr i, cell n pat' tr' i with
    | some a, some b => eq a b && beqCells eq n pat tr pat' tr' (Nat.succ i) k
    | _, _ => false
def V.beq : Nat → V → V → Bool
  | 0, _, _ => false
  | d + 1, x, y =>
    match x, y with
    | .bool a, .bool b => a == b
    | .int k a, .int k' b => decide (k = k') && ieq a b
    | .str a, .str b => a == b
    | .nilp, .nilp => true
    | .ptr a o, .ptr b o' => Nat.beq a b && Nat.beq o o'
    | .nils, .nils => true
    | .slice a o n c, .slice a' o' n' c' => Nat.beq a a' && Nat.beq o o' && Nat.beq n n' && decide (c = c')
    | .nilm, .nilm => true
    | .map r, .map r' => Nat.beq r r'
    | .func f a b, .func f' a' b' => decide (f = f') && beqList (V.beq d) a a' && beqList (V.beq d) b b'
    | .nilf, .nilf => true
    | .iface t v, .iface t' v' => Nat.beq t t' && V.beq d v v'
    | .nili, .nili => true
    | .agg n pat tr, .agg n' pat' tr' => Nat.beq n n' && beqCells (V.beq d) n pat tr pat' tr' 0 n
    | .tuple a, .tuple b => beqList (V.beq d) a b
    | _, _ => false
def chkAt (G : Γ) (m : Nat) (env : Env) (op : Op) (v : V) (allocs : List (Nat × Nat × O)) (B : Bs) : Bool :=
  match act G env.get op with
  | .rd f => match f (hv B m allocs) with
    | some v' => V.beq 6 v' v
    | none => false
  | _ => false
/-- what was read is the same wherever it may be read -/
def chkR (G : Γ) (j m : Nat) (env : Env) (op : Op) (v : V) (allocs : List (Nat × Nat × O)) (B0 : Bs) : List (Nat × Bs) → Bool
  | [] => chkAt G m env op v allocs B0
  | e :: l => (bit e.2.mask j || chkAt G m env op v allocs e.2) && (bit m e.1 || chkR G j m env op v allocs B0 l)
def chkAll (G : Γ) (allocs : List (Nat × Nat × O)) (B0 : Bs) (effs : List (Nat × Bs)) : List (Nat × Nat × Env × Op × V) → Bool
  | [] => true
  | r :: l => chkR G r.1 r.2.1 r.2.2.1 r.2.2.2.1 r.2.2.2.2 allocs B0 effs && chkAll G allocs B0 effs l
def regD (G : Γ) (call : CallF) (ops : Array Oper) (env : Env) (h : H) : Option (Env × H) :=
  match runD G call ops h.next (ancs ops.toList 0 .leaf) 0 ⟨env, ⟨0, ⟨h.tr, Nat.add h.next ops.toList.length⟩⟩, [], [], []⟩ with
  | some s => match chkAll G s.allocs ⟨0, ⟨h.tr, Nat.add h.next ops.toList.length⟩⟩ s.effs s.reads with
    | true => some (s.env, hv s.base (Nat.sub (Nat.pow 2 ops.toList.length) 1) s.allocs)
    | false => none
  | none => none

/-! ### code -/

inductive X where
  | normal
  | exit (id : Nat)
  | ret

structure St where
  env : Env
  h : H
  defs : List Nat

abbrev EvC := Code → Option Nat → FuncId → St → Option (X × St)

def putArgs : Nat → List V → T V → T V
  | _, [], t => t
  | i, v :: l, t => putArgs (Nat.succ i) l (t.put i (some v))
def putTmps : List Tmp → List V → Env → Option Env
  | [], [], e => some e
  | p :: ps, v :: vs, e => match e.put (some p) v with
    | some e' => putTmps ps vs e'
    | none => none
  | _, _, _ => none
def resultO (G : Γ) (h : H) (env : Env) : ResultVar → Option V
  | .tmp t => env.tr.get t
  | .cell a t => rLoad (G.ty t) h (env.tr.get a)
def resultsO (G : Γ) (h : H) (env : Env) (fn : Func) : Option V :=
  match optAll (resultO G h env) fn.results.toList with
  | some [v] => some v
  | some vs => some (.tuple vs)
  | none => none
/-- the blocks for the deferred calls of rounds are taken -/
def takeAll : List Nat → H → Option H
  | [], h => some h
  | b :: l, h => match h.tr.get b with
    | some .deferred => takeAll l (h.set b none)
    | _ => none

def callRow (r : Row) (args : List V) (h : H) : Option (V × H) :=
  match r, args with
  | .clone, [.iface t (.map m)] => match h.tr.get m with
    | some (.map es clock) => some (.iface t (.map h.next), h.add (.map es clock))
    | _ => none
  | .same, [v] => some (v, h)
  | _, _ => none
/-- a function's body, its results -/
def callBody (G : Γ) (ev : EvC) (f : FuncId) (fn : Func) (c : Code) (args : List V) (h : H) : Option (V × H) :=
  match Nat.ble args.length fn.ntmps with
  | true => match ev c none f ⟨⟨fn.ntmps, putArgs 0 args .leaf⟩, h, []⟩ with
    | some (x, st) => match x with
      | .exit _ => none
      | _ => match takeAll st.defs st.h with
        | some h' => match resultsO G h' st.env fn with
          | some v => some (v, h')
          | none => none
        | none => none
    | none => none
  | false => none
/-- a function with a body -/
def callGo (G : Γ) (ev : EvC) (f : FuncId) (args : List V) (h : H) : Option (V × H) :=
  match G.funcs.get f with
  | none => none
  | some fn => match fn.body with
    | none => none
    | some c => match G.ext f args h with
      | some r => some r
      | none => callBody G ev f fn c args h
def callFn (G : Γ) (ev : EvC) (f : FuncId) (args : List V) (h : H) : Option (V × H) :=
  match G.rows f with
  | some r => callRow r args h
  | none => callGo G ev f args h
def isReady : LoopState → Bool
  | .ready => true
  | _ => false
def jumpOf : X → Option Code
  | .normal => none
  | .ret => some .ret
  | .exit id => some (.exit id)
def callYield (ev : EvC) (l : Nat) (args : List V) (h : H) : Option (V × H) :=
  match h.tr.get l with
  | some (.loop lp) =>
    match putTmps lp.params args lp.tmps with
    | some env => match ev lp.assign (some l) lp.fn ⟨env, h, []⟩ with
      | some (.normal, st) =>
        match st.h.tr.get l, st.defs with
        | some (.loop lp'), [] =>
          match isReady lp'.state with
          | true =>
            match ev lp.body (some l) lp.fn ⟨st.env, st.h.set l (some (.loop { lp' with state := .busy })), []⟩ with
            | some (x, st2) =>
              match st2.h.tr.get l, st2.defs with
              | some (.loop lp''), [] => match jumpOf x with
                | none => some (.bool true, st2.h.set l (some (.loop { lp'' with state := .ready, pending := none })))
                | some j => some (.bool false, st2.h.set l (some (.loop { lp'' with state := .done, pending := some j })))
              | _, _ => none
            | none => none
          | false => none
        | _, _ => none
      | _ => none
    | none => none
  | _ => none
def callT (G : Γ) (ev : EvC) (t : Tgt) (h : H) : Option (V × H) :=
  match t with
  | .fn f args => callFn G ev f args h
  | .yield l args => callYield ev l args h

def isBusy : LoopState → Bool
  | .busy => true
  | _ => false
/-- behind a range over a function -/
def endRange (l : Nat) (env : Env) (defs : List Nat) (h : H) : Option (X × St) :=
  match h.tr.get l with
  | some (.loop lp) => match isBusy lp.state with
    | true => none
    | false => match lp.pending with
      | none => some (.normal, ⟨env, h.set l (some (.loop { lp with state := .exhausted })), defs⟩)
      | some .ret => some (.ret, ⟨env, h.set l (some (.loop { lp with state := .exhausted })), defs⟩)
      | some (.exit id) => some (.exit id, ⟨env, h.set l (some (.loop { lp with state := .exhausted })), defs⟩)
      | _ => none
  | _ => none
def rangeF (G : Γ) (ev : EvC) (f : Operand) (params : Array Tmp) (assign body : Code) (rd : Option Nat) (fn : FuncId) (st : St) : Option (X × St) :=
  match st.env.get f, rd with
  | some (.func (.func g) first captured), none =>
    match callGo G ev g (first ++ [.func (.yield (Nat.succ st.h.next)) [] []] ++ captured)
        ((st.h.add .deferred).add (.loop ⟨.ready, none, fn, st.env, params.toList, assign, body, st.h.next⟩)) with
    | some (_, h) => endRange (Nat.succ st.h.next) st.env (st.h.next :: st.defs) h
    | none => none
  | some (.func (.func g) first captured), some l0 =>
    match st.h.tr.get l0 with
    | some (.loop lp0) =>
      match callGo G ev g (first ++ [.func (.yield st.h.next) [] []] ++ captured)
          (st.h.add (.loop ⟨.ready, none, fn, st.env, params.toList, assign, body, lp0.defers⟩)) with
      | some (_, h) => endRange st.h.next st.env st.defs h
      | none => none
    | _ => none
  | _, _ => none

def evC (G : Γ) : Nat → EvC
  | 0, _, _, _, _ => none
  | n + 1, c, rd, fn, ⟨env, h, defs⟩ =>
    match c with
    | .skip => some (.normal, ⟨env, h, defs⟩)
    | .region _ ops draw =>
      match draw with
      | false => match regS G (callT G (evC G n)) ops ops.toList env h with
        | some (env', h') => some (.normal, ⟨env', h', defs⟩)
        | none => none
      | true => match regD G (callT G (evC G n)) ops env h with
        | some (env', h') => some (.normal, ⟨env', h', defs⟩)
        | none => none
    | .seq a b => match evC G n a rd fn ⟨env, h, defs⟩ with
      | some (.normal, st') => evC G n b rd fn st'
      | r => r
    | .cond c a b => match env.get c with
      | some (.bool true) => evC G n a rd fn ⟨env, h, defs⟩
      | some (.bool false) => evC G n b rd fn ⟨env, h, defs⟩
      | _ => none
    | .block id b => match evC G n b rd fn ⟨env, h, defs⟩ with
      | some (.exit id', st') => match Nat.beq id' id with
        | true => some (.normal, st')
        | false => some (.exit id', st')
      | r => r
    | .loop b => match evC G n b rd fn ⟨env, h, defs⟩ with
      | some (.normal, st') => evC G n (.loop b) rd fn st'
      | r => r
    | .exit id => some (.exit id, ⟨env, h, defs⟩)
    | .ret => some (.ret, ⟨env, h, defs⟩)
    | .rangeFunc f params assign body => rangeF G (evC G n) f params assign body rd fn ⟨env, h, defs⟩
    | _ => none

/-- a call -/
def evT (G : Γ) (n : Nat) (f : FuncId) (args : List V) (h : H) : Option (V × H) := callGo G (evC G n) f args h

end
end Go.Ev
/- The static check of the regions that draw their order. -/
namespace Go.Ev
def opnds (op : Op) : List Operand :=
  match op with
  | .move x => [x]
  | .assign x => [x]
  | .pick c a b => [c, a, b]
  | .box _ x => [x]
  | .build _ ps => ps.toList.map (·.2)
  | .buildSlice _ _ ps => ps.toList.map (·.2)
  | .insert _ m k x => [m, k, x]
  | .load _ a => [a]
  | .store _ a x => [a, x]
  | .nilCheck x => [x]
  | .binOp _ _ x y _ => [x, y]
  | .unOp _ _ x => [x]
  | .convert _ _ x => [x]
  | .makeInterface _ x => [x]
  | .makeFunc _ a b => a.toList ++ b.toList
  | .makeSlice _ l c => [l, c]
  | .slice _ x lo hi mx => x :: (lo.toList ++ hi.toList ++ mx.toList)
  | .fieldAddr _ x _ => [x]
  | .field _ x _ => [x]
  | .indexAddr _ x i => [x, i]
  | .index _ x i => [x, i]
  | .lookup _ x i _ => [x, i]
  | .mapUpdate _ m k x => [m, k, x]
  | .mapEntry _ m k => [m, k]
  | .entryStore _ m st x => [m, st, x]
  | .range _ x => [x]
  | .next it _ => [it]
  | .entry it => [it]
  | .typeAssert x _ _ _ => [x]
  | .extract t _ => [t]
  | .call c => (match c.callee with
    | .value f => [f]
    | .invoke r _ => [r]
    | .builtin _ => []) ++ c.args.toList
  | _ => []
/-- the first operation that writes a temporary -/
def firstW (t : Tmp) : List Oper → Nat → Option Nat
  | [], _ => none
  | o :: l, i => match o.dst with
    | some d => match Nat.beq d t with
      | true => some i
      | false => firstW t l (Nat.succ i)
    | none => firstW t l (Nat.succ i)
def onceW : List Oper → Bool
  | [] => true
  | o :: l => (match o.dst with
    | some d => match firstW d l 0 with
      | none => true
      | some _ => false
    | none => true) && onceW l
def okTmp (as : List (Oper × Nat)) (ops : List Oper) (m i : Nat) (t : Tmp) : Bool :=
  match firstW t ops 0 with
  | none => true
  | some j => bit m j || Nat.beq j i || (match nth as j with
    | some p => bit p.2 i
    | none => false)
def okOp (as : List (Oper × Nat)) (ops : List Oper) (o : Oper) (m i : Nat) : Bool :=
  o.after.toList.all (fun e => match Region.binds .any e with
    | true => Nat.blt e.on i
    | false => true) &&
  (opnds o.op).all (fun x => match x with
    | .tmp t => okTmp as ops m i t
    | _ => true) &&
  (match o.guard with
    | none => true
    | some (j, _) => bit m j)
def okOps (as : List (Oper × Nat)) (ops : List Oper) : List (Oper × Nat) → Nat → Bool
  | [], _ => true
  | p :: l, i => okOp as ops p.1 p.2 i && okOps as ops l (Nat.succ i)
noncomputable def okRegion (ops : Array Oper) : Bool := onceW ops.toList && okOps (ancs ops.toList 0 .leaf) ops.toList (ancs ops.toList 0 .leaf) 0
/-- all regions of a code that draw their order -/
noncomputable def okC : Code → Bool
  | .region _ ops draw => match draw with
    | true => okRegion ops
    | false => true
  | .seq a b => okC a && okC b
  | .cond _ a b => okC a && okC b
  | .block _ b => okC b
  | .loop b => okC b
  | .rangeFunc _ _ assign body => okC assign && okC body
  | _ => true
end Go.Ev
/- Laws of the evaluator's tries and lists. -/
namespace Go.Ev
namespace T
variable {α β : Type}

theorem beq_true {n m : Nat} : (Nat.beq n m = true) ↔ n = m := by simp
theorem beq_false {n m : Nat} (h : n ≠ m) : Nat.beq n m = false := by
  cases hb : Nat.beq n m
  · rfl
  · exact absurd (beq_true.1 hb) h
theorem get_leaf (n : Nat) : (T.leaf : T α).get n = none := rfl

theorem half {n : Nat} (h : n ≠ 0) : (n % 2 = 1 → (n - 1) % 2 ≠ 1 ∧ (n - 1) / 2 = n / 2) ∧ (n % 2 ≠ 1 → (n - 1) % 2 = 1 ∧ (n - 1) / 2 = n / 2 - 1) := by omega
theorem pick {γ : Type} (x y : γ) (m : Nat) : (Bool.rec (motive := fun _ => γ) x y (Nat.beq (Nat.mod m 2) 1) : γ) = if m % 2 = 1 then y else x := by
  by_cases h : m % 2 = 1
  · have e : Nat.beq (Nat.mod m 2) 1 = true := beq_true.2 h
    rw [e, if_pos h]
  · have e : Nat.beq (Nat.mod m 2) 1 = false := beq_false h
    rw [e, if_neg h]
theorem get_node (l r : T α) (v : Option α) (n : Nat) :
    (T.node l v r).get n = if n = 0 then v else if n % 2 = 1 then l.get (n / 2) else r.get (n / 2 - 1) := by
  cases n with
  | zero => rfl
  | succ m =>
    have e : (T.node l v r).get (m + 1) = (Bool.rec (motive := fun _ => Option α) (l.get (Nat.div m 2)) (r.get (Nat.div m 2)) (Nat.beq (Nat.mod m 2) 1)) := rfl
    rw [e, pick, if_neg (Nat.succ_ne_zero m)]
    obtain ⟨h1, h2⟩ := half (Nat.succ_ne_zero m)
    simp only [Nat.succ_eq_add_one, Nat.add_sub_cancel] at h1 h2
    by_cases h : (m + 1) % 2 = 1
    · rw [if_pos h, if_neg (h1 h).1, ← (h1 h).2]; rfl
    · rw [if_neg h, if_pos (h2 h).1, ← (h2 h).2]; rfl

theorem set_succ (x : Option α) (f : Nat) (t : T α) (n : Nat) :
    set x (f + 1) t n = match t with
      | .leaf => if n = 0 then .node .leaf x .leaf else if n % 2 = 1 then .node (set x f .leaf (n / 2)) none .leaf else .node .leaf none (set x f .leaf (n / 2 - 1))
      | .node l v r => if n = 0 then .node l x r else if n % 2 = 1 then .node (set x f l (n / 2)) v r else .node l v (set x f r (n / 2 - 1)) := by
  cases n with
  | zero => cases t <;> rfl
  | succ m =>
    obtain ⟨h1, h2⟩ := half (Nat.succ_ne_zero m)
    simp only [Nat.succ_eq_add_one, Nat.add_sub_cancel] at h1 h2
    cases t with
    | leaf =>
      have e : set x (f + 1) (.leaf : T α) (m + 1) = (Bool.rec (motive := fun _ => T α) (.node (set x f .leaf (Nat.div m 2)) none .leaf) (.node .leaf none (set x f .leaf (Nat.div m 2))) (Nat.beq (Nat.mod m 2) 1)) := rfl
      rw [e, pick]
      simp only [if_neg (Nat.succ_ne_zero m)]
      by_cases h : (m + 1) % 2 = 1
      · rw [if_pos h, if_neg (h1 h).1, ← (h1 h).2]; rfl
      · rw [if_neg h, if_pos (h2 h).1, ← (h2 h).2]; rfl
    | node l v r =>
      have e : set x (f + 1) (.node l v r) (m + 1) = (Bool.rec (motive := fun _ => T α) (.node (set x f l (Nat.div m 2)) v r) (.node l v (set x f r (Nat.div m 2))) (Nat.beq (Nat.mod m 2) 1)) := rfl
      rw [e, pick]
      simp only [if_neg (Nat.succ_ne_zero m)]
      by_cases h : (m + 1) % 2 = 1
      · rw [if_pos h, if_neg (h1 h).1, ← (h1 h).2]; rfl
      · rw [if_neg h, if_pos (h2 h).1, ← (h2 h).2]; rfl

theorem get_set (x : Option α) : ∀ (f : Nat) (t : T α) (n m : Nat), n < f → (set x f t n).get m = if m = n then x else t.get m := by
  intro f
  induction f with
  | zero => intro t n m h; omega
  | succ f ih =>
    intro t n m hf
    rw [set_succ]
    cases t with
    | leaf =>
      simp only []
      by_cases h : n = 0
      · subst h
        simp only [if_true, get_node, get_leaf]
        by_cases hm : m = 0 <;> simp [hm]
      · simp only [h, if_false]
        by_cases h2 : n % 2 = 1
        · simp only [h2, if_true, get_node]
          rw [ih _ _ _ (by omega)]
          by_cases hm : m = 0
          · subst hm; simp [get_leaf]; omega
          · simp only [hm, if_false, get_leaf]
            by_cases hm2 : m % 2 = 1
            · simp only [hm2, if_true]
              by_cases e : m / 2 = n / 2
              · simp [show m = n by omega]
              · have : m ≠ n := fun h => e (by rw [h])
                simp [e, this]
            · have : m ≠ n := fun h => hm2 (by rw [h]; exact h2)
              simp [hm2, this]
        · simp only [h2, if_false, get_node]
          rw [ih _ _ _ (by omega)]
          by_cases hm : m = 0
          · subst hm; simp [get_leaf]; omega
          · simp only [hm, if_false, get_leaf]
            by_cases hm2 : m % 2 = 1
            · have : m ≠ n := fun h => h2 (by rw [← h]; exact hm2)
              simp [hm2, this]
            · simp only [hm2, if_false]
              by_cases e : m / 2 - 1 = n / 2 - 1
              · simp [show m = n by omega]
              · have : m ≠ n := fun h => e (by rw [h])
                simp [e, this]
    | node l v r =>
      simp only []
      by_cases h : n = 0
      · subst h
        simp only [if_true, get_node]
        by_cases hm : m = 0 <;> simp [hm]
      · simp only [h, if_false]
        by_cases h2 : n % 2 = 1
        · simp only [h2, if_true, get_node]
          rw [ih _ _ _ (by omega)]
          by_cases hm : m = 0
          · subst hm; simp; omega
          · simp only [hm, if_false]
            by_cases hm2 : m % 2 = 1
            · simp only [hm2, if_true]
              by_cases e : m / 2 = n / 2
              · simp [show m = n by omega]
              · have : m ≠ n := fun h => e (by rw [h])
                simp [e, this]
            · have : m ≠ n := fun h => hm2 (by rw [h]; exact h2)
              simp [hm2, this]
        · simp only [h2, if_false, get_node]
          rw [ih _ _ _ (by omega)]
          by_cases hm : m = 0
          · subst hm; simp; omega
          · simp only [hm, if_false]
            by_cases hm2 : m % 2 = 1
            · have : m ≠ n := fun h => h2 (by rw [← h]; exact hm2)
              simp [hm2, this]
            · simp only [hm2, if_false]
              by_cases e : m / 2 - 1 = n / 2 - 1
              · simp [show m = n by omega]
              · have : m ≠ n := fun h => e (by rw [h])
                simp [e, this]

theorem get_put (t : T α) (n m : Nat) (x : Option α) : (t.put n x).get m = if m = n then x else t.get m :=
  get_set x (Nat.succ n) t n m (Nat.lt_succ_self n)
theorem get_put_same (t : T α) (n : Nat) (x : Option α) : (t.put n x).get n = x := by rw [get_put]; simp
theorem get_put_ne (t : T α) {n m : Nat} (x : Option α) (h : m ≠ n) : (t.put n x).get m = t.get m := by rw [get_put]; simp [h]

theorem evens_odds : ∀ (l : List α), (∀ i, (evens l)[i]? = l[2 * i]?) ∧ (∀ i, (odds l)[i]? = l[2 * i + 1]?) := by
  intro l
  induction l with
  | nil => simp [evens, odds]
  | cons x l ih =>
    obtain ⟨h1, h2⟩ := ih
    refine ⟨fun i => ?_, fun i => ?_⟩
    · simp only [evens]
      cases i with
      | zero => simp
      | succ i =>
        rw [List.getElem?_cons_succ, h2, show 2 * (i + 1) = (2 * i + 1) + 1 by omega, List.getElem?_cons_succ]
    · simp only [odds, h1]
      rw [List.getElem?_cons_succ]
theorem length_evens_odds : ∀ (l : List α), (evens l).length ≤ l.length ∧ (odds l).length ≤ l.length := by
  intro l
  induction l with
  | nil => simp [evens, odds]
  | cons x l ih => simp only [evens, odds, List.length_cons]; omega

theorem get_ofList (f : α → Option β) : ∀ (n : Nat) (l : List α) (i : Nat), l.length ≤ n → (ofList f n l).get i = (l[i]?).bind f := by
  intro n
  induction n with
  | zero => intro l i h; have : l = [] := List.length_eq_zero_iff.1 (by omega); subst this; simp [ofList, get_leaf]
  | succ n ih =>
    intro l i h
    cases l with
    | nil => simp [ofList, get_leaf]
    | cons x l =>
      have hl := length_evens_odds l
      simp only [List.length_cons] at h
      simp only [ofList, get_node]
      by_cases h0 : i = 0
      · simp [h0]
      · simp only [h0, if_false]
        by_cases h2 : i % 2 = 1
        · simp only [h2, if_true]
          rw [ih _ _ (by omega), (evens_odds l).1]
          rw [show i = 2 * (i / 2) + 1 by omega, List.getElem?_cons_succ]
          congr 2; omega
        · simp only [h2, if_false]
          rw [ih _ _ (by omega), (evens_odds l).2]
          rw [show i = (2 * (i / 2 - 1) + 1) + 1 by omega, List.getElem?_cons_succ]
          congr 2; omega
end T

theorem nth_eq {α : Type} : ∀ (l : List α) (n : Nat), nth l n = l[n]?
  | [], _ => by simp [nth]
  | x :: l, 0 => by simp [nth]
  | x :: l, n + 1 => by simp [nth, nth_eq l n]
theorem takeN_eq {α : Type} : ∀ (n : Nat) (l r : List α), takeN n l = some r → r = l.take n ∧ n ≤ l.length
  | 0, l, r, h => by simp [takeN] at h; simp [← h]
  | n + 1, [], r, h => by simp [takeN] at h
  | n + 1, x :: l, r, h => by
    simp only [takeN] at h
    split at h
    · rename_i r' h'
      obtain ⟨rfl, h2⟩ := takeN_eq n l r' h'
      simp at h; subst h; simp; omega
    · simp at h
theorem dropN_eq {α : Type} : ∀ (n : Nat) (l : List α), dropN n l = l.drop n
  | 0, l => by simp [dropN]
  | n + 1, [] => by simp [dropN]
  | n + 1, x :: l => by simp [dropN, dropN_eq n l]
theorem optAll_eq {α β : Type} {f : α → Option β} : ∀ {l : List α} {r : List β}, optAll f l = some r → r.length = l.length ∧ ∀ (i : Nat) (a : α) (b : β), l[i]? = some a → r[i]? = some b → f a = some b
  | [], r, h => by simp [optAll] at h; subst h; simp
  | a :: l, r, h => by
    simp only [optAll] at h
    split at h
    · rename_i b hb
      split at h
      · rename_i r' h'
        obtain ⟨h1, h2⟩ := optAll_eq h'
        simp at h; subst h
        refine ⟨by simp [h1], fun i a' b' ha hb' => ?_⟩
        cases i with
        | zero => simp at ha hb'; subst ha; subst hb'; exact hb
        | succ i => simp at ha hb'; exact h2 i _ _ ha hb'
      · simp at h
    · simp at h

theorem ilt_eq (a b : Int) : ilt a b = decide (a < b) := by
  cases a <;> cases b <;> simp only [ilt]
  · rename_i a b
    rw [Bool.eq_iff_iff, decide_eq_true_iff]
    simp only [Nat.blt_eq]
    simp only [Int.ofNat_eq_natCast]; omega
  · simp; omega
  · simp; omega
  · rename_i a b
    rw [Bool.eq_iff_iff, decide_eq_true_iff]
    simp only [Nat.blt_eq]
    omega
theorem ieq_eq (a b : Int) : ieq a b = decide (a = b) := by
  cases a <;> cases b <;> simp only [ieq]
  · rename_i a b
    rw [Bool.eq_iff_iff, decide_eq_true_iff, T.beq_true]
    simp only [Int.ofNat_eq_natCast]; omega
  · simp
  · simp
  · rename_i a b
    rw [Bool.eq_iff_iff, decide_eq_true_iff, T.beq_true]
    omega
theorem idx_eq {i : Int} {n k : Nat} (h : idx i n = some k) : i = k ∧ k < n := by
  cases i with
  | ofNat m =>
    simp only [idx] at h
    split at h
    · rename_i hb
      simp only [Nat.blt_eq] at hb
      simp at h; subst h; exact ⟨rfl, hb⟩
    · simp at h
  | negSucc m => simp [idx] at h
end Go.Ev
/- How the evaluator's values and memory stand to the model's: up to the blocks' numbers. -/
namespace Go.Ev

/-- where a block of the evaluator lies: the model's block, the place at which it begins there, how many cells that has -/
abbrev Ren := Nat → Option (Nat × Nat × Nat)
def Ren.le (ρ ρ' : Ren) : Prop := ∀ b L, ρ b = some L → ρ' b = some L
theorem Ren.le.refl (ρ : Ren) : Ren.le ρ ρ := fun _ _ h => h
theorem Ren.le.trans {a b c : Ren} (h : Ren.le a b) (k : Ren.le b c) : Ren.le a c := fun x L hx => k x L (h x L hx)

/-- is it the value of one cell? -/
def one : Value → Bool
  | .agg _ => false
  | .tuple _ => false
  | _ => true

inductive Rel (ρ : Ren) : V → Value → Prop
  | bool (b : Bool) : Rel ρ (.bool b) (.bool b)
  | int (k : IntKind) (n : Int) : Rel ρ (.int k n) (.int k n)
  | str (s : List UInt8) : Rel ρ (.str s) (.string ⟨s.toArray⟩)
  | nilp : Rel ρ .nilp (.pointer none)
  | ptr {b o B d z : Nat} (h : ρ b = some (B, d, z)) : Rel ρ (.ptr b o) (.pointer (some ⟨B, d + o, none⟩))
  | nils : Rel ρ .nils (.slice none 0 0)
  | sliceK {b o len c B d z : Nat} (h : ρ b = some (B, d, z)) : Rel ρ (.slice b o len (.known c)) (.slice (some ⟨B, d + o, none⟩) len c)
  | sliceA {b o len m es k B d z : Nat} (h : ρ b = some (B, d, z)) (hm : m ≤ k) (hz : d + o + k * es ≤ z) : Rel ρ (.slice b o len (.atl m es)) (.slice (some ⟨B, d + o, none⟩) len k)
  | sliceZ {b o es : Nat} (a : Addr) : Rel ρ (.slice b o 0 (.atl 0 es)) (.slice (some a) 0 0)
  | nilm : Rel ρ .nilm (.map none)
  | map {r B d z : Nat} (h : ρ r = some (B, d, z)) : Rel ρ (.map r) (.map (some B))
  | func (f : FuncId) {first captured : List V} {a b : Array Value} (h1 : a.size = first.length) (h2 : b.size = captured.length)
      (h3 : ∀ (i : Nat) (v : V) (x : Value), first[i]? = some v → a[i]? = some x → Rel ρ v x) (h4 : ∀ (i : Nat) (v : V) (x : Value), captured[i]? = some v → b[i]? = some x → Rel ρ v x) :
      Rel ρ (.func (.func f) first captured) (.func (.func f) a b)
  | yield {l B d z : Nat} (h : ρ l = some (B, d, z)) : Rel ρ (.func (.yield l) [] []) (.func (.yield B) #[] #[])
  | nilf : Rel ρ .nilf .nilFunc
  | iface (t : TypeId) {v : V} {x : Value} (h : Rel ρ v x) : Rel ρ (.iface t v) (.iface t x)
  | nili : Rel ρ .nili .nilIface
  | agg {n : Nat} {pat : List V} {tr : T V} {cs : Array Value} (h1 : cs.size = n) (h2 : ∀ (i : Nat) (x : Value), cs[i]? = some x → one x = true)
      (h3 : ∀ (i : Nat) (v : V) (x : Value), cell n pat tr i = some v → cs[i]? = some x → Rel ρ v x) : Rel ρ (.agg n pat tr) (.agg cs)
  | tuple {vs : List V} {cs : Array Value} (h1 : cs.size = vs.length) (h2 : ∀ (i : Nat) (v : V) (x : Value), vs[i]? = some v → cs[i]? = some x → Rel ρ v x) : Rel ρ (.tuple vs) (.tuple cs)

theorem Rel.mono {ρ ρ' : Ren} (hle : ρ.le ρ') {v : V} {c : Value} (h : Rel ρ v c) : Rel ρ' v c := by
  induction h with
  | bool b => exact .bool b
  | int k n => exact .int k n
  | str s => exact .str s
  | nilp => exact .nilp
  | ptr h => exact .ptr (hle _ _ h)
  | nils => exact .nils
  | sliceK h => exact .sliceK (hle _ _ h)
  | sliceA h hm hz => exact .sliceA (hle _ _ h) hm hz
  | sliceZ a => exact .sliceZ a
  | nilm => exact .nilm
  | map h => exact .map (hle _ _ h)
  | func f h1 h2 _ _ i3 i4 => exact .func f h1 h2 i3 i4
  | yield h => exact .yield (hle _ _ h)
  | nilf => exact .nilf
  | iface t _ ih => exact .iface t ih
  | nili => exact .nili
  | agg h1 h2 _ ih => exact .agg h1 h2 ih
  | tuple h1 _ ih => exact .tuple h1 ih

theorem Rel.oneCell {ρ : Ren} {v : V} {c : Value} (h : Rel ρ v c) (hs : v.scalar = true) : one c = true := by
  cases h <;> simp_all [V.scalar, one]
theorem Rel.cells {ρ : Ren} {v : V} {c : Value} (h : Rel ρ v c) (hs : v.scalar = true) : c.cells = #[c] := by
  cases h <;> simp_all [V.scalar, Value.cells]

/-- lists of values -/
def Rels (ρ : Ren) (vs : List V) (cs : List Value) : Prop := cs.length = vs.length ∧ ∀ (i : Nat) (v : V) (x : Value), vs[i]? = some v → cs[i]? = some x → Rel ρ v x
theorem Rels.nil {ρ : Ren} : Rels ρ [] [] := ⟨rfl, fun i v x h => by simp at h⟩
theorem Rels.cons {ρ : Ren} {v : V} {c : Value} {vs : List V} {cs : List Value} (h : Rel ρ v c) (hs : Rels ρ vs cs) : Rels ρ (v :: vs) (c :: cs) := by
  refine ⟨by simp [hs.1], fun i v' x h1 h2 => ?_⟩
  cases i with
  | zero => simp at h1 h2; subst h1; subst h2; exact h
  | succ i => simp at h1 h2; exact hs.2 i _ _ h1 h2
theorem Rels.head {ρ : Ren} {v : V} {c : Value} {vs : List V} {cs : List Value} (h : Rels ρ (v :: vs) (c :: cs)) : Rel ρ v c := h.2 0 _ _ rfl rfl
theorem Rels.tail {ρ : Ren} {v : V} {c : Value} {vs : List V} {cs : List Value} (h : Rels ρ (v :: vs) (c :: cs)) : Rels ρ vs cs :=
  ⟨by simpa using h.1, fun i v' x h1 h2 => h.2 (i + 1) _ _ (by simpa using h1) (by simpa using h2)⟩
theorem Rels.uncons {ρ : Ren} {v : V} {vs : List V} {cs : List Value} (h : Rels ρ (v :: vs) cs) : ∃ c cs', cs = c :: cs' ∧ Rel ρ v c ∧ Rels ρ vs cs' := by
  cases cs with
  | nil => have := h.1; simp at this
  | cons c cs => exact ⟨c, cs, rfl, h.head, h.tail⟩
theorem Rels.of_nil {ρ : Ren} {cs : List Value} (h : Rels ρ [] cs) : cs = [] := List.length_eq_zero_iff.1 h.1
theorem Rels.append {ρ : Ren} : ∀ {vs us : List V} {cs ds : List Value}, Rels ρ vs cs → Rels ρ us ds → Rels ρ (vs ++ us) (cs ++ ds)
  | [], us, cs, ds, h, k => by rw [h.of_nil]; exact k
  | v :: vs, us, cs, ds, h, k => by
    obtain ⟨c, cs', rfl, h1, h2⟩ := h.uncons
    exact (h2.append k).cons h1
theorem Rels.mono {ρ ρ' : Ren} (hle : ρ.le ρ') {vs : List V} {cs : List Value} (h : Rels ρ vs cs) : Rels ρ' vs cs := ⟨h.1, fun i v x a b => (h.2 i v x a b).mono hle⟩
theorem Rels.get {ρ : Ren} {vs : List V} {cs : List Value} (h : Rels ρ vs cs) {i : Nat} {v : V} (hv : vs[i]? = some v) : ∃ x, cs[i]? = some x ∧ Rel ρ v x := by
  have hl : i < cs.length := by
    have := (List.getElem?_eq_some_iff.1 hv).1
    have := h.1; omega
  exact ⟨cs[i], List.getElem?_eq_getElem hl, h.2 i v _ hv (List.getElem?_eq_getElem hl)⟩

/-- an activation's temporaries -/
def ERel (ρ : Ren) (env : Env) (tmps : Array Value) : Prop := env.sz ≤ tmps.size ∧ ∀ t v, env.tr.get t = some v → ∃ c, tmps[t]? = some c ∧ Rel ρ v c
theorem ERel.mono {ρ ρ' : Ren} (hle : ρ.le ρ') {env : Env} {tmps : Array Value} (h : ERel ρ env tmps) : ERel ρ' env tmps :=
  ⟨h.1, fun t v hv => let ⟨c, a, b⟩ := h.2 t v hv; ⟨c, a, b.mono hle⟩⟩

/-- the cells of an object from place d on -/
def CRel (ρ : Ren) (n : Nat) (pat : List V) (tr : T V) (cs : Array Value) (d : Nat) : Prop :=
  (∀ (i : Nat) (x : Value), i < n → cs[d + i]? = some x → one x = true) ∧ ∀ (i : Nat) (v : V) (x : Value), cell n pat tr i = some v → cs[d + i]? = some x → Rel ρ v x

def ORel (ρ : Ren) : O → (Nat × Nat × Nat) → Obj → Prop
  | .cells e n pat tr, L, c => ∃ cs el lo hi, c = .cells cs el (lo, hi) ∧ cs.size = L.2.2 ∧ L.2.1 + n ≤ L.2.2 ∧ (∀ i, i < L.2.2 → ¬ (lo ≤ i ∧ i < hi)) ∧ (∀ e', e = some e' → el = e' ∧ L.2.1 = 0) ∧ CRel ρ n pat tr cs L.2.1
  | .ro e n pat tr, L, c => ∃ cs el fr, c = .cells cs el fr ∧ cs.size = L.2.2 ∧ L.2.1 + n ≤ L.2.2 ∧ (∀ e', e = some e' → L.2.1 = 0 ∧ L.2.2 = n) ∧ CRel ρ n pat tr cs L.2.1
  | .map es clock, _, c => ∃ es' : Array MapEntry, c = .map es' clock ∧ es'.size = es.length ∧ ∀ (i : Nat) (e : V × V × Nat) (e' : MapEntry), es[i]? = some e → es'[i]? = some e' → Rel ρ e.1 e'.key ∧ Rel ρ e.2.1 e'.val ∧ e'.born = e.2.2
  | .strIter s pos, L, c => L.2.1 = 0 ∧ c = .stringIter ⟨s.toArray⟩ pos
  | .mapIter m since seen stepped, L, c => L.2.1 = 0 ∧ ∃ m', c = .mapIter m' since seen.reverse.toArray stepped ∧ ((m = none ∧ m' = none) ∨ ∃ r B d z, m = some r ∧ ρ r = some (B, d, z) ∧ m' = some B)
  | .loop lp, _, c => ∃ l' : Loop, c = .loop l' ∧ l'.state = lp.state ∧ l'.pending = lp.pending ∧ l'.params.toList = lp.params ∧ l'.assign = lp.assign ∧ l'.body = lp.body ∧ ERel ρ lp.tmps l'.tmps ∧ okC lp.assign = true ∧ okC lp.body = true
  | .deferred, _, c => c = .deferred (some [])

theorem CRel.mono {ρ ρ' : Ren} (hle : ρ.le ρ') {n : Nat} {pat : List V} {tr : T V} {cs : Array Value} {d : Nat} (h : CRel ρ n pat tr cs d) : CRel ρ' n pat tr cs d :=
  ⟨h.1, fun i v x a b => (h.2 i v x a b).mono hle⟩
theorem ORel.mono {ρ ρ' : Ren} (hle : ρ.le ρ') {o : O} {L : Nat × Nat × Nat} {c : Obj} (h : ORel ρ o L c) : ORel ρ' o L c := by
  cases o with
  | cells e n pat tr => obtain ⟨cs, el, lo, hi, h1, h2, h3, h4, h5, h6⟩ := h; exact ⟨cs, el, lo, hi, h1, h2, h3, h4, h5, h6.mono hle⟩
  | ro e n pat tr => obtain ⟨cs, el, fr, h1, h2, h3, h5, h6⟩ := h; exact ⟨cs, el, fr, h1, h2, h3, h5, h6.mono hle⟩
  | map es clock => obtain ⟨es', h1, h2, h3⟩ := h; exact ⟨es', h1, h2, fun i e e' a b => let ⟨x, y, z⟩ := h3 i e e' a b; ⟨x.mono hle, y.mono hle, z⟩⟩
  | strIter s pos => exact h
  | mapIter m since seen stepped =>
    obtain ⟨h0, m', h1, h2⟩ := h
    exact ⟨h0, m', h1, h2.imp id fun ⟨r, B, d, z, a, b, c⟩ => ⟨r, B, d, z, a, hle _ _ b, c⟩⟩
  | loop lp => obtain ⟨l', h1, h2, h3, h5, h6, h7, h8, h9⟩ := h; exact ⟨l', h1, h2, h3, h5, h6, h7, h8.mono hle, h9⟩
  | deferred => exact h

/-- the package-level variables keep their numbers -/
def Glob (ρ : Ren) : Prop := ∀ g, g < 1000 → ∃ z, ρ g = some (g, 0, z)
theorem Glob.mono {ρ ρ' : Ren} (hle : ρ.le ρ') (h : Glob ρ) : Glob ρ' := fun g hg => let ⟨z, hz⟩ := h g hg; ⟨z, hle _ _ hz⟩

structure Sim (ρ : Ren) (h : H) (w : World) : Prop where
  glob : Glob ρ
  dom : ∀ b L, ρ b = some L → b < h.next
  live : ∀ b o, h.tr.get b = some o → ∃ L c, ρ b = some L ∧ w.heap[L.1]? = some c ∧ ORel ρ o L c
  inj : ∀ b b' o o' L L', h.tr.get b = some o → h.tr.get b' = some o' → ρ b = some L → ρ b' = some L' → L.1 = L'.1 → b = b'

def O.rw : O → Bool
  | .ro .. => false
  | _ => true
/-- what may have changed from one memory to a later one -/
structure Ext (ρ : Ren) (h : H) (w : World) (ρ' : Ren) (h' : H) (w' : World) : Prop where
  next : h.next ≤ h'.next
  agree : ∀ b, b < h.next → ρ' b = ρ b
  size : w.heap.size ≤ w'.heap.size
  frame : ∀ B, B < w.heap.size → (∀ b o L, h.tr.get b = some o → o.rw = true → ρ b = some L → L.1 ≠ B) → w'.heap[B]? = w.heap[B]?
  origin : ∀ b o L, h'.tr.get b = some o → ρ' b = some L → L.1 < w.heap.size → ∃ b0 o0 L0, h.tr.get b0 = some o0 ∧ ρ b0 = some L0 ∧ L0.1 = L.1 ∧ (o.rw = true → o0.rw = true)
  tape : w'.tape = w.tape
  os : w'.os = w.os
  output : w'.output = w.output

theorem Ext.refl (ρ : Ren) (h : H) (w : World) : Ext ρ h w ρ h w :=
  ⟨Nat.le_refl _, fun _ _ => rfl, Nat.le_refl _, fun _ _ _ => rfl, fun b o L a b' _ => ⟨b, o, L, a, b', rfl, id⟩, rfl, rfl, rfl⟩
theorem Ext.le {ρ ρ' : Ren} {h h' : H} {w w' : World} (hs : Sim ρ h w) (e : Ext ρ h w ρ' h' w') : ρ.le ρ' := fun b L hb => by
  rw [e.agree b (hs.dom b L hb)]; exact hb
theorem Ext.trans {ρ ρ' ρ'' : Ren} {h h' h'' : H} {w w' w'' : World} (e : Ext ρ h w ρ' h' w') (k : Ext ρ' h' w' ρ'' h'' w'') : Ext ρ h w ρ'' h'' w'' where
  next := Nat.le_trans e.next k.next
  agree b hb := by rw [k.agree b (Nat.lt_of_lt_of_le hb e.next), e.agree b hb]
  size := Nat.le_trans e.size k.size
  frame B hB hn := by
    have h1 := e.frame B hB hn
    rw [← h1]
    refine k.frame B (Nat.lt_of_lt_of_le hB e.size) fun b o L hb hrw hL hLB => ?_
    obtain ⟨b0, o0, L0, x, y, z, u⟩ := e.origin b o L hb hL (by rw [hLB]; exact hB)
    exact hn b0 o0 L0 x (u hrw) y (by rw [z, hLB])
  origin b o L hb hL hlt := by
    obtain ⟨b0, o0, L0, x, y, z, u⟩ := k.origin b o L hb hL (Nat.lt_of_lt_of_le hlt e.size)
    obtain ⟨b1, o1, L1, x', y', z', u'⟩ := e.origin b0 o0 L0 x y (by rw [z]; exact hlt)
    exact ⟨b1, o1, L1, x', y', by rw [z', z], fun q => u' (u q)⟩
  tape := by rw [k.tape, e.tape]
  os := by rw [k.os, e.os]
  output := by rw [k.output, e.output]

theorem Sim.lt {ρ : Ren} {h : H} {w : World} (hs : Sim ρ h w) {b : Nat} {o : O} {L : Nat × Nat × Nat} (hb : h.tr.get b = some o) (hL : ρ b = some L) : L.1 < w.heap.size := by
  obtain ⟨L', c, h1, h2, _⟩ := hs.live b o hb
  rw [hL] at h1; cases h1
  exact (Array.getElem?_eq_some_iff.1 h2).1

/-- memory in which fewer blocks are known -/
theorem Sim.sub {ρ : Ren} {h h' : H} {w : World} (hs : Sim ρ h w) (hn : h.next ≤ h'.next) (hsub : ∀ b o, h'.tr.get b = some o → h.tr.get b = some o) : Sim ρ h' w where
  glob := hs.glob
  dom b L hL := Nat.lt_of_lt_of_le (hs.dom b L hL) hn
  live b o hb := hs.live b o (hsub b o hb)
  inj b b' o o' L L' hb hb' := hs.inj b b' o o' L L' (hsub b o hb) (hsub b' o' hb')

@[simp] theorem H.set_next (h : H) (b : Nat) (o : Option O) : (h.set b o).next = h.next := rfl
@[simp] theorem H.set_get (h : H) (b : Nat) (o : Option O) (b' : Nat) : (h.set b o).tr.get b' = if b' = b then o else h.tr.get b' := T.get_put _ _ _ _
@[simp] theorem H.add_next (h : H) (o : O) : (h.add o).next = h.next + 1 := rfl
@[simp] theorem H.add_get (h : H) (o : O) (b' : Nat) : (h.add o).tr.get b' = if b' = h.next then some o else h.tr.get b' := T.get_put _ _ _ _

/-- a block is turned -/
theorem Sim.set {ρ : Ren} {h : H} {w w' : World} (hs : Sim ρ h w) {b : Nat} {o o' : O} {L : Nat × Nat × Nat} {c' : Obj} (hb : h.tr.get b = some o) (hL : ρ b = some L)
    (hw : w'.heap[L.1]? = some c') (ho : ORel ρ o' L c') (hother : ∀ B, B ≠ L.1 → w'.heap[B]? = w.heap[B]?) : Sim ρ (h.set b (some o')) w' where
  glob := hs.glob
  dom := hs.dom
  live x ox hx := by
    simp only [H.set_get] at hx
    split at hx
    · rename_i e; subst e; cases hx; exact ⟨L, c', hL, hw, ho⟩
    · rename_i e
      obtain ⟨Lx, cx, h1, h2, h3⟩ := hs.live x ox hx
      refine ⟨Lx, cx, h1, ?_, h3⟩
      rw [hother Lx.1 fun he => e (hs.inj x b ox o Lx L hx hb h1 hL he)]; exact h2
  inj x y ox oy Lx Ly hx hy := by
    simp only [H.set_get] at hx hy
    have gx : ∃ ox', h.tr.get x = some ox' := by
      split at hx
      · rename_i e; subst e; exact ⟨o, hb⟩
      · exact ⟨ox, hx⟩
    have gy : ∃ oy', h.tr.get y = some oy' := by
      split at hy
      · rename_i e; subst e; exact ⟨o, hb⟩
      · exact ⟨oy, hy⟩
    obtain ⟨ox', gx⟩ := gx
    obtain ⟨oy', gy⟩ := gy
    exact hs.inj x y ox' oy' Lx Ly gx gy
theorem Ext.set {ρ : Ren} {h : H} {w w' : World} {b : Nat} {o o' : O} {L : Nat × Nat × Nat} (hb : h.tr.get b = some o) (hL : ρ b = some L) (hrw : o.rw = true)
    (hsz : w'.heap.size = w.heap.size) (hother : ∀ B, B ≠ L.1 → w'.heap[B]? = w.heap[B]?) (h1 : w'.tape = w.tape) (h2 : w'.os = w.os) (h3 : w'.output = w.output) :
    Ext ρ h w ρ (h.set b (some o')) w' where
  next := Nat.le_refl _
  agree _ _ := rfl
  size := by omega
  frame B _ hn := hother B fun e => hn b o L hb hrw hL e.symm
  origin x ox Lx hx hLx _ := by
    simp only [H.set_get] at hx
    split at hx
    · rename_i e; subst e; exact ⟨_, o, Lx, hb, hLx, rfl, fun _ => hrw⟩
    · exact ⟨x, ox, Lx, hx, hLx, rfl, id⟩
  tape := h1
  os := h2
  output := h3

/-- the renaming with one block more -/
def Ren.with (ρ : Ren) (b : Nat) (L : Nat × Nat × Nat) : Ren := fun x => if x = b then some L else ρ x
theorem Ren.with_same (ρ : Ren) (b : Nat) (L : Nat × Nat × Nat) : ρ.with b L b = some L := by simp [Ren.with]
theorem Ren.with_ne (ρ : Ren) {b x : Nat} (L : Nat × Nat × Nat) (h : x ≠ b) : ρ.with b L x = ρ x := by simp [Ren.with, h]
theorem Ren.le_with (ρ : Ren) {b : Nat} (L : Nat × Nat × Nat) (h : ρ b = none) : ρ.le (ρ.with b L) := fun x Lx hx => by
  by_cases e : x = b
  · subst e; rw [h] at hx; cases hx
  · rw [Ren.with_ne ρ L e]; exact hx
theorem Sim.fresh {ρ : Ren} {h : H} {w : World} (hs : Sim ρ h w) : ρ h.next = none := by
  cases e : ρ h.next with
  | none => rfl
  | some L => exact absurd (hs.dom _ _ e) (Nat.lt_irrefl _)

/-- a new block; 'id' is its number here -/
theorem Sim.add {ρ : Ren} {h h' : H} {w w' : World} (hs : Sim ρ h w) {id : Nat} {o' : O} {L : Nat × Nat × Nat} {c' : Obj} (hid : ρ id = none) (hlt : id < h'.next) (hn : h.next ≤ h'.next)
    (hget : ∀ x, h'.tr.get x = if x = id then some o' else h.tr.get x) (hL : L.1 = w.heap.size) (hw : w'.heap[L.1]? = some c')
    (ho : ORel (ρ.with id L) o' L c') (hother : ∀ B, B < w.heap.size → w'.heap[B]? = w.heap[B]?) : Sim (ρ.with id L) h' w' where
  glob := hs.glob.mono (Ren.le_with ρ L hid)
  dom b Lb hb := by
    by_cases e : b = id
    · subst e; exact hlt
    · rw [Ren.with_ne ρ L e] at hb; exact Nat.lt_of_lt_of_le (hs.dom b Lb hb) hn
  live b ob hb := by
    rw [hget] at hb
    split at hb
    · rename_i e; subst e; cases hb; exact ⟨L, c', Ren.with_same .., hw, ho⟩
    · obtain ⟨Lb, cb, h1, h2, h3⟩ := hs.live b ob hb
      exact ⟨Lb, cb, Ren.le_with ρ L hid _ _ h1, by rw [hother _ (hs.lt hb h1)]; exact h2, h3.mono (Ren.le_with ρ L hid)⟩
  inj x y ox oy Lx Ly hx hy hLx hLy he := by
    rw [hget] at hx hy
    by_cases ex : x = id <;> by_cases ey : y = id
    · rw [ex, ey]
    · subst ex
      rw [Ren.with_same] at hLx; cases hLx
      rw [Ren.with_ne ρ L ey] at hLy
      rw [if_neg ey] at hy
      have := hs.lt hy hLy
      omega
    · subst ey
      rw [Ren.with_same] at hLy; cases hLy
      rw [Ren.with_ne ρ L ex] at hLx
      rw [if_neg ex] at hx
      have := hs.lt hx hLx
      omega
    · rw [if_neg ex] at hx
      rw [if_neg ey] at hy
      rw [Ren.with_ne ρ L ex] at hLx
      rw [Ren.with_ne ρ L ey] at hLy
      exact hs.inj x y ox oy Lx Ly hx hy hLx hLy he
theorem Ext.add {ρ : Ren} {h h' : H} {w w' : World} {id : Nat} {o' : O} {L : Nat × Nat × Nat} (hid : h.next ≤ id) (hn : h.next ≤ h'.next)
    (hget : ∀ x, h'.tr.get x = if x = id then some o' else h.tr.get x) (hL : L.1 = w.heap.size) (hsz : w.heap.size ≤ w'.heap.size)
    (hother : ∀ B, B < w.heap.size → w'.heap[B]? = w.heap[B]?) (h1 : w'.tape = w.tape) (h2 : w'.os = w.os) (h3 : w'.output = w.output) :
    Ext ρ h w (ρ.with id L) h' w' where
  next := hn
  agree b hb := Ren.with_ne ρ L (by omega)
  size := hsz
  frame B hB _ := hother B hB
  origin x ox Lx hx hLx hlt := by
    rw [hget] at hx
    by_cases e : x = id
    · subst e
      rw [Ren.with_same] at hLx; cases hLx
      omega
    · rw [if_neg e] at hx
      rw [Ren.with_ne ρ L e] at hLx
      exact ⟨x, ox, Lx, hx, hLx, rfl, fun q => q⟩
  tape := h1
  os := h2
  output := h3
end Go.Ev
/- Laws of the evaluator's cells, and of what the model reads of a type. -/
namespace Go.Ev

theorem cell_lt {n : Nat} {pat : List V} {tr : T V} {i : Nat} {v : V} (h : cell n pat tr i = some v) : i < n := by
  unfold cell at h
  split at h
  · rename_i hb; simpa [Nat.blt_eq] using hb
  · cases h
theorem cell_of_get {n : Nat} {pat : List V} {tr : T V} {i : Nat} {v : V} (h : i < n) (hg : tr.get i = some v) : cell n pat tr i = some v := by
  unfold cell
  have : Nat.blt i n = true := by simpa [Nat.blt_eq] using h
  rw [this]; simp [hg]
theorem cell_congr {n : Nat} {pat : List V} {tr tr' : T V} {i : Nat} (h : tr.get i = tr'.get i) : cell n pat tr i = cell n pat tr' i := by
  unfold cell; rw [h]
theorem gather_spec {n : Nat} {pat : List V} {tr : T V} : ∀ {k i : Nat} {l : List V}, gather n pat tr i k = some l → l.length = k ∧ ∀ j v, l[j]? = some v → cell n pat tr (i + j) = some v
  | 0, i, l, h => by simp [gather] at h; subst h; simp
  | k + 1, i, l, h => by
    simp only [gather] at h
    split at h
    · rename_i v hv
      split at h
      · rename_i l' hl'
        obtain ⟨h1, h2⟩ := gather_spec hl'
        simp at h; subst h
        refine ⟨by simp [h1], fun j v' hj => ?_⟩
        cases j with
        | zero => simp at hj; subst hj; exact hv
        | succ j => simp at hj; have := h2 j v' hj; rwa [show i + (j + 1) = Nat.succ i + j by omega]
      · cases h
    · cases h
theorem cell_list (l : List V) : ∀ i v, cell l.length l .leaf i = some v → l[i]? = some v := by
  intro i v h
  have hi := cell_lt h
  unfold cell at h
  have : Nat.blt i l.length = true := by simpa [Nat.blt_eq] using hi
  rw [this] at h
  simp only [T.get_leaf] at h
  unfold patAt at h
  rw [nth_eq, List.getElem?_eq_getElem hi] at h
  simp at h
  rw [List.getElem?_eq_getElem hi, h]
theorem cell_trie (l : List V) : ∀ i v, cell l.length [] (T.ofList some l.length l) i = some v → l[i]? = some v := by
  intro i v h
  have hi := cell_lt h
  unfold cell at h
  have : Nat.blt i l.length = true := by simpa [Nat.blt_eq] using hi
  rw [this] at h
  rw [T.get_ofList some l.length l i (Nat.le_refl _), List.getElem?_eq_getElem hi] at h
  simp at h
  rw [List.getElem?_eq_getElem hi, h]
theorem mkA_eq (l : List V) : ∃ pat tr, mkA l = .agg l.length pat tr ∧ ∀ i v, cell l.length pat tr i = some v → l[i]? = some v := by
  unfold mkA
  split
  · exact ⟨l, .leaf, rfl, cell_list l⟩
  · exact ⟨[], _, rfl, cell_trie l⟩
theorem mkO_eq (e : Option TypeId) (l : List V) : ∃ pat tr, mkO e l = .cells e l.length pat tr ∧ ∀ i v, cell l.length pat tr i = some v → l[i]? = some v := by
  unfold mkO
  split
  · exact ⟨l, .leaf, rfl, cell_list l⟩
  · exact ⟨[], _, rfl, cell_trie l⟩

/-- an aggregate's cells -/
structure AR (ρ : Ren) (n : Nat) (pat : List V) (tr : T V) (cs : Array Value) : Prop where
  size : cs.size = n
  one : ∀ (i : Nat) (x : Value), cs[i]? = some x → one x = true
  rel : ∀ (i : Nat) (v : V) (x : Value), cell n pat tr i = some v → cs[i]? = some x → Rel ρ v x
theorem AR.rel' {ρ : Ren} {n : Nat} {pat : List V} {tr : T V} {cs : Array Value} (h : AR ρ n pat tr cs) : Rel ρ (.agg n pat tr) (.agg cs) := .agg h.size h.one h.rel
theorem Rel.ar {ρ : Ren} {n : Nat} {pat : List V} {tr : T V} {c : Value} (h : Rel ρ (.agg n pat tr) c) : ∃ cs, c = .agg cs ∧ AR ρ n pat tr cs := by
  cases h with
  | agg h1 h2 h3 => exact ⟨_, rfl, h1, h2, h3⟩
theorem AR.get {ρ : Ren} {n : Nat} {pat : List V} {tr : T V} {cs : Array Value} (h : AR ρ n pat tr cs) {i : Nat} {v : V} (hv : cell n pat tr i = some v) : ∃ x, cs[i]? = some x ∧ Rel ρ v x := by
  have hi : i < cs.size := by rw [h.size]; exact cell_lt hv
  exact ⟨cs[i], by simp [hi], h.rel i v _ hv (by simp [hi])⟩

/-- what the model's table says of a type -/
structure TYOk (P : Program) (t : TypeId) (ty : TY) : Prop where
  under : P.underlying t = some ty.desc
  info : ∃ i, P.info? t = some i ∧ i.size = ty.size ∧ i.methods = ty.methods ∧ ∀ z, ty.zero = some z → ∃ c, i.zero = some c ∧ ∀ ρ, Rel ρ z c
  agg : ty.agg = (match ty.desc with | .struct _ => true | .array _ _ => true | _ => false)

section
variable {P : Program} {t : TypeId} {ty : TY} (h : TYOk P t ty) (w : World)
theorem TYOk.run_underlying (h : TYOk P t ty) : (underlying t).run P w = .ok ty.desc w := by simp [underlying, h.under]
theorem TYOk.run_typeInfo (h : TYOk P t ty) : ∃ i, P.info? t = some i ∧ i.size = ty.size ∧ (typeInfo t).run P w = .ok i w := by
  obtain ⟨i, h1, h2, _⟩ := h.info
  exact ⟨i, h1, h2, by simp [typeInfo, h1]⟩
theorem TYOk.run_sizeOf (h : TYOk P t ty) : (sizeOf t).run P w = .ok ty.size w := by
  obtain ⟨i, h1, h2, _⟩ := h.info
  simp [sizeOf, typeInfo, h1, h2]
theorem TYOk.run_isAgg (h : TYOk P t ty) : (isAgg t).run P w = .ok ty.agg w := by
  unfold isAgg
  simp only [Sem.run_bind, h.run_underlying, Result.andThen_ok]
  rw [h.agg]
  cases ty.desc <;> rfl
theorem TYOk.run_zero (h : TYOk P t ty) {z : V} (hz : ty.zero = some z) : ∃ c, (∀ w, (zeroValue t).run P w = .ok c w) ∧ ∀ ρ, Rel ρ z c := by
  obtain ⟨i, h1, _, _, h4⟩ := h.info
  obtain ⟨c, h5, h6⟩ := h4 z hz
  exact ⟨c, fun w => by simp [zeroValue, typeInfo, h1, h5], h6⟩
end

theorem extract_get (cs : Array Value) (a b i : Nat) (x : Value) (h : (cs.extract a b)[i]? = some x) : cs[a + i]? = some x := by
  rw [Array.getElem?_extract] at h
  split at h
  · exact h
  · cases h

theorem AR.piece {ρ : Ren} {n : Nat} {pat : List V} {tr : T V} {cs : Array Value} (h : AR ρ n pat tr cs) {agg : Bool} {size off : Nat} {v : V}
    (hp : partAt agg size n pat tr off = some v) : if agg = true then ∃ ds, ds = cs.extract off (off + size) ∧ Rel ρ v (.agg ds) else ∃ x, cs[off]? = some x ∧ Rel ρ v x := by
  unfold partAt at hp
  cases agg with
  | false => simp only [Bool.false_eq_true, if_false]; exact h.get hp
  | true =>
    simp only [if_true]
    refine ⟨_, rfl, ?_⟩
    simp only at hp
    split at hp
    · rename_i hb
      simp only [Bool.and_eq_true, T.beq_true] at hb
      obtain ⟨rfl, rfl⟩ := hb
      simp at hp; subst hp
      have : cs.extract 0 (0 + size) = cs := by rw [Nat.zero_add, ← h.size]; simp
      rw [this]; exact h.rel'
    · split at hp
      · rename_i l hl
        simp at hp; subst hp
        obtain ⟨h1, h2⟩ := gather_spec hl
        obtain ⟨pat', tr', e, h3⟩ := mkA_eq l
        rw [e]
        have hle : off + size ≤ cs.size ∨ size = 0 := by
          by_cases h0 : size = 0
          · exact .inr h0
          · refine .inl ?_
            have := h2 (size - 1) _ (List.getElem?_eq_getElem (by omega))
            have := cell_lt this
            rw [h.size]; omega
        refine .agg ?_ ?_ ?_
        · simp only [Array.size_extract]; omega
        · intro i x hx; exact h.one _ _ (extract_get _ _ _ _ _ hx)
        · intro i v x hv hx
          exact h.rel _ _ _ (h2 i v (h3 i v hv)) (extract_get _ _ _ _ _ hx)
      · cases hp
theorem AR.run_part {P : Program} {ρ : Ren} {n : Nat} {pat : List V} {tr : T V} {cs : Array Value} (h : AR ρ n pat tr cs) {t : TypeId} {ty : TY} (ht : TYOk P t ty) {off : Nat} {v : V}
    (hp : partAt ty.agg ty.size n pat tr off = some v) : ∃ c, Rel ρ v c ∧ ∀ w, (part t cs off).run P w = .ok c w := by
  have := h.piece hp
  cases ha : ty.agg with
  | true =>
    rw [ha] at this
    simp only [if_true] at this
    obtain ⟨ds, rfl, hr⟩ := this
    exact ⟨_, hr, fun w => by simp [part, ht.run_isAgg, ha, ht.run_sizeOf]⟩
  | false =>
    rw [ha] at this
    simp only [Bool.false_eq_true, if_false] at this
    obtain ⟨x, hx, hr⟩ := this
    exact ⟨_, hr, fun w => by simp [part, ht.run_isAgg, ha, hx]⟩

theorem overA_get {n' : Nat} {pat' : List V} {tr' : T V} {off : Nat} : ∀ {k i : Nat} {tr tr'' : T V}, overA n' pat' tr' off i k tr = some tr'' →
    (∀ j, i ≤ j → j < i + k → ∃ v, cell n' pat' tr' j = some v ∧ tr''.get (off + j) = some v) ∧ ∀ m, (m < off + i ∨ off + i + k ≤ m) → tr''.get m = tr.get m
  | 0, i, tr, tr'', h => by simp [overA] at h; subst h; exact ⟨fun j a b => by omega, fun m _ => rfl⟩
  | k + 1, i, tr, tr'', h => by
    simp only [overA] at h
    split at h
    · rename_i v hv
      obtain ⟨h1, h2⟩ := overA_get h
      refine ⟨fun j a b => ?_, fun m hm => ?_⟩
      · by_cases e : j = i
        · subst e
          refine ⟨v, hv, ?_⟩
          rw [h2 _ (.inl (by omega))]
          exact T.get_put_same _ _ _
        · exact h1 j (by omega) (by omega)
      · rw [h2 m (by omega), T.get_put_ne]
        show m ≠ off + i
        omega
    · cases h

/-- a part laid over an aggregate: what the cells are then -/
theorem putPart_spec {ρ : Ren} {size n off : Nat} {v : V} {pat : List V} {tr tr' : T V} {c : Value} {cs : Array Value} (hp : putPart size v n tr off = some tr') (hv : Rel ρ v c)
    (h1 : ∀ (i : Nat) (x : Value), cs[i]? = some x → one x = true) (h2 : ∀ (i : Nat) (v : V) (x : Value), cell n pat tr i = some v → cs[i]? = some x → Rel ρ v x) :
    c.cells.size = size ∧ off + size ≤ n ∧ ∀ cs' : Array Value, cs'.size = n → (∀ i, cs'[i]? = if off ≤ i ∧ i < off + size then c.cells[i - off]? else cs[i]?) → AR ρ n pat tr' cs' := by
  unfold putPart at hp
  split at hp
  · cases hp
  · rename_i hle
    have hle : off + size ≤ n := by
      have := Nat.le_of_ble_eq_true hle; exact this
    split at hp
    · rename_i n' pat' tr''
      split at hp
      · rename_i hb
        rw [T.beq_true] at hb; subst hb
        obtain ⟨ds, rfl, ha⟩ := hv.ar
        refine ⟨ha.size, hle, fun cs' hs' hg => ⟨hs', fun i x hx => ?_, fun i v x hc hx => ?_⟩⟩
        · rw [hg] at hx
          split at hx
          · exact ha.one _ _ hx
          · exact h1 _ _ hx
        · obtain ⟨o1, o2⟩ := overA_get hp
          rw [hg] at hx
          split at hx
          · rename_i hr
            obtain ⟨v', hv', hg'⟩ := o1 (i - off) (by omega) (by omega)
            rw [show off + (i - off) = i by omega] at hg'
            have := cell_of_get (pat := pat) (cell_lt hc) hg'
            rw [this] at hc; cases hc
            exact ha.rel _ _ _ hv' hx
          · rename_i hr
            rw [cell_congr (tr' := tr) (o2 i (by omega))] at hc
            exact h2 _ _ _ hc hx
      · cases hp
    · cases hp
    · rename_i hna hnt
      split at hp
      · rename_i hb
        rw [T.beq_true] at hb; subst hb
        have hsc : v.scalar = true := by cases v <;> simp_all [V.scalar]
        have hcc := hv.cells hsc
        simp at hp; subst hp
        refine ⟨by rw [hcc]; rfl, hle, fun cs' hs' hg => ⟨hs', fun i x hx => ?_, fun i v' x hc hx => ?_⟩⟩
        · rw [hg] at hx
          split at hx
          · rename_i hr
            rw [hcc, show i - off = 0 by omega] at hx
            simp at hx; subst hx; exact hv.oneCell hsc
          · exact h1 _ _ hx
        · rw [hg] at hx
          split at hx
          · rename_i hr
            have e : i = off := by omega
            subst e
            rw [hcc, show i - i = 0 by omega] at hx
            simp at hx; subst hx
            have := cell_of_get (pat := pat) (cell_lt hc) (T.get_put_same tr i (some v))
            rw [this] at hc; cases hc
            exact hv
          · rename_i hr
            rw [cell_congr (tr' := tr) (T.get_put_ne tr _ (by omega))] at hc
            exact h2 _ _ _ hc hx
      · cases hp
end Go.Ev

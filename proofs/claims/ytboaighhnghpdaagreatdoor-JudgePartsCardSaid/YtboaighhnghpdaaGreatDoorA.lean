/- An evaluator for translated code: its values and memory, how they stand to the model's, its operations. -/
import GoSem.Step
import Derived.CallsIn
import Derived.Laws.Cells
import Derived.Laws.Tables
import Derived.Laws.StructEq
import Derived.LaidEql
import Derived.Lib.Builder
import Derived.Laws.BytesArg
import Derived.Lib.UnsafeStr
set_option linter.unusedVariables false
set_option linter.unusedSimpArgs false
set_option maxHeartbeats 1000000
namespace Go
abbrev ae:=@Bool.and_eq_true
abbrev ah:=@List.getElem?_eq_getElem
abbrev ai:=@List.getElem?_eq_some_iff
abbrev aj:=@List.mem_singleton
abbrev aq:=@List.mem_cons
abbrev az:=@Nat.le_of_ble_eq_true
abbrev aA:=@List.not_mem_nil
abbrev aB:=@List.mem_cons_of_mem
abbrev aC:=@List.mem_of_getElem?
abbrev aD:=@Array.getElem?_eq_some_iff
abbrev aE:=@List.mem_cons_self
abbrev aF:=@Nat.le_refl
abbrev aG:=@List.getElem?_append
abbrev aH:=@Nat.ble_eq_true_of_le
abbrev aI:=@Nat.zero_add
abbrev aJ:=@List.mem_map
abbrev aK:=@List.mem_append
abbrev aL:=@List.getElem?_map
abbrev aM:=@Array.getElem?_toList
abbrev aN:=@Int.ofNat_eq_natCast
abbrev aO:=@List.length_eq_zero_iff
abbrev aP:=@Array.toArray_toList
abbrev aQ:=@List.getElem?_cons_succ
abbrev aS:=@List.map_cons
abbrev aT:=@Array.length_toList
abbrev aU:=@List.length_cons
abbrev aW:=@Bool.false_eq_true
abbrev aX:=@List.mem_iff_getElem?
abbrev aY:=@Nat.mul_comm
abbrev bf:=@Bool.or_eq_true
abbrev bh:=@Nat.lt_of_lt_of_le
abbrev bp:=@Nat.add_comm
abbrev bq:=@Array.getElem?_eq_getElem
abbrev bt:=@List.length_append
abbrev bu:=@Option.isSome_iff_exists
abbrev bw:=@Bool.not_eq_true'
abbrev bz:=@List.all_eq_true
abbrev bA:=@Nat.add_assoc
abbrev bC:=@List.nodup_cons
abbrev bD:=@Nat.mul_le_mul_right
abbrev zaw:=@List.getElem?_append_right
abbrev bF:=@Nat.le_trans
abbrev bG:=@Int.add_zero
abbrev bH:=@Nat.add_mul
abbrev bI:=@Nat.exists_eq_add_of_le
abbrev bJ:=@List.getElem?_drop
abbrev bK:=@Array.getElem?_setIfInBounds_ne
abbrev bL:=@Array.getD_eq_getD_getElem?
abbrev bM:=@List.cons_append
abbrev bO:=@List.length_drop
abbrev bP:=@Option.some.inj
abbrev bQ:=@Prod.ext
abbrev bR:=@List.getElem?_eq_none_iff
abbrev bS:=@Nat.mod_eq_of_lt
abbrev bU:=@Bool.eq_iff_iff
abbrev bV:=@List.getElem?_of_mem
abbrev bW:=@Option.some.injEq
abbrev bX:=@Nat.add_zero
abbrev bY:=@Int.le_refl
abbrev bZ:=@List.getElem?_cons_zero
abbrev cj:=@Int.eq_ofNat_of_zero_le
abbrev ct:=@List.mem_flatten
abbrev cz:=@Array.toList_map
abbrev cA:=@Option.map_some
abbrev cB:=@List.map_nil
abbrev cC:=@List.append_nil
abbrev cD:=@List.getElem?_take
abbrev cE:=@Array.size_extract
abbrev cF:=@Nat.lt_succ_self
abbrev cG:=@Nat.add_sub_cancel_left
abbrev cH:=@Option.map_eq_some_iff
abbrev cJ:=@Nat.sub_self
abbrev cK:=@Nat.add_mul_mod_self_right
abbrev cL:=@Array.getElem?_push
abbrev cM:=@List.length_map
abbrev cN:=@List.nil_append
abbrev cO:=@List.length_nil
abbrev cP:=@List.map_append
abbrev cQ:=@Array.getElem?_modify
abbrev cR:=@List.map_toArray
abbrev cT:=@Option.isSome_none
abbrev cU:=@Nat.succ_ne_zero
abbrev cV:=@List.ext_getElem?
abbrev cW:=@Nat.zero_le
abbrev cX:=@List.length_take
abbrev cY:=@Nat.le_add_right
abbrev cZ:=@Nat.blt_eq
abbrev da:=@Int.natCast_nonneg
abbrev dc:=@List.getElem?_eq_none
abbrev dg:=@Array.mem_of_getElem?
abbrev dh:=@List.contains_iff_mem
abbrev di:=@List.mem_of_find?_eq_some
abbrev dj:=@List.getElem?_append_left
abbrev dr:=@List.map_map
abbrev dw:=@Nat.sub_zero
abbrev dx:=@Nat.le_of_lt
abbrev dy:=@List.getElem?_set_ne
abbrev dz:=@Array.toList_append
abbrev dA:=@List.getElem_mem
abbrev dB:=@Nat.mod_one
abbrev dD:=@Nat.mod_lt
abbrev dF:=@Nat.lt_trans
abbrev dG:=@List.getElem?_set_self
abbrev dH:=@Nat.div_add_mod
abbrev dI:=@List.find?_cons
abbrev dJ:=@List.nodup_append
abbrev dK:=@List.mem_append_left
abbrev dL:=@Array.getElem?_append_left
abbrev dM:=@List.pairwise_iff_getElem
abbrev dN:=@Bool.and_self
abbrev dO:=@List.all_cons
abbrev dP:=@Array.size_setIfInBounds
abbrev dQ:=@List.mem_filter
abbrev dR:=@Option.map_none
abbrev dS:=@Nat.one_mul
abbrev dU:=@Nat.succ_mul
abbrev dV:=@Array.getElem?_extract
abbrev dW:=@List.flatten_cons
abbrev dX:=@List.getElem?_set
abbrev dY:=@List.size_toArray
abbrev dZ:=@List.getElem?_toArray
abbrev ep:=@Nat.div_eq_of_lt
abbrev eu:=@List.range'_succ
abbrev ez:=@Prod.mk.injEq
abbrev eA:=@Nat.mul_one
abbrev eB:=@List.cons.injEq
abbrev eC:=@List.find?_some
abbrev eD:=@Nat.mul_add_div
abbrev eE:=@Int.natCast_add
abbrev eF:=@Nat.le_of_eq
abbrev eG:=@Nat.mul_le_mul
abbrev eH:=@Nat.div_one
abbrev eI:=@Nat.le_succ
abbrev eJ:=@Bool.true_and
end Go
namespace Go.Ev
noncomputable section
inductive T (α:Type) where
 |leaf
 |node (l:T α) (v:Option α) (r:T α)
namespace T
variable {α U:Type}
def get (t:T α):Nat->Option α:=
 T.rec (motive:=fun _=>Nat->Option α) (fun _=>none) (fun _ v _ gl gr n=>Nat.rec (motive:=fun _=>Option α) v (fun m _=>Bool.rec (motive:=fun _=>Option α) (gl (Nat.div m 2)) (gr (Nat.div m 2)) (Nat.beq (Nat.mod m 2) 1)) n) t
def set (x:Option α)(f:Nat):T α->Nat->T α:=
 Nat.rec (motive:=fun _=>T α->Nat->T α) (fun t _=>t) (fun _ ih t n=>
  T.rec (motive:=fun _=>T α)
   (Nat.rec (motive:=fun _=>T α) (.node .leaf x .leaf) (fun m _=>Bool.rec (motive:=fun _=>T α) (.node (ih .leaf (Nat.div m 2)) none .leaf) (.node .leaf none (ih .leaf (Nat.div m 2))) (Nat.beq (Nat.mod m 2) 1)) n)
   (fun l v r _ _=>Nat.rec (motive:=fun _=>T α) (.node l x r) (fun m _=>Bool.rec (motive:=fun _=>T α) (.node (ih l (Nat.div m 2)) v r) (.node l v (ih r (Nat.div m 2))) (Nat.beq (Nat.mod m 2) 1)) n) t) f
def put (t:T α)(n:Nat)(x:Option α):T α:=set x (Nat.succ n) t n
mutual
def yG:List α->List α
 |[]=>[]
 |x :: l=>x :: Lg l
def Lg:List α->List α
 |[]=>[]
 |_ :: l=>yG l
end
def ofList (f:α->Option U):Nat->List α->T U
 |0,_=>.leaf
 |_+1,[]=>.leaf
 |n+1,x :: l=>.node (ofList f n (yG l)) (f x) (ofList f n (Lg l))
end T
inductive Cap where
 |known (n:Nat)
 |atl (n esize:Nat)
 deriving DecidableEq
inductive V where
 |bool (b:Bool)
 |int (k:IntKind) (n:Int)
 |str (s:List UInt8)
 |nilp
 |ptr (b o:Nat)
 |nils
 |slice (b o len:Nat) (cap:Cap)
 |nilm
 |map (r:Nat)
 |func (fn:Fn) (first captured:List V)
 |nilf
 |iface (t:TypeId) (v:V)
 |nili
 |agg (n:Nat) (pat:List V) (tr:T V)
 |tuple (vs:List V)
 deriving Inhabited
structure Env where
 sz:Nat
 tr:T V
structure Lp where
 state:LoopState
 pending:Option Code
 fn:FuncId
 tmps:Env
 params:List Tmp
 assign:Code
 body:Code
 defers:Nat
inductive O where
 |cells (e:Option TypeId) (n:Nat) (pat:List V) (tr:T V)
 |ro (e:Option TypeId) (n:Nat) (pat:List V) (tr:T V)
 |map (es:List (V×V×Nat)) (clock:Nat)
 |strIter (s:List UInt8) (pos:Nat)
 |mapIter (m:Option Nat) (since:Nat) (seen:List Nat) (stepped:Nat)
 |loop (l:Lp)
 |deferred
 |ghost (os:List O)
structure H where
 tr:T O
 next:Nat
structure TY where
 desc:TypeDesc
 size:Nat
 agg:Bool
 zero:Option V
 methods:Array Method
inductive Row where
 |clone
 |same
structure Γ where
 funcs:T Func
 types:T TY
 eqs:List TypeId
 rows:FuncId->Option Row
 ext:FuncId->List V->H->Option (V×H)
def Γ.ty (G:Γ)(t:TypeId):Option TY:=G.types.get t
def nth {α:Type}:List α->Nat->Option α
 |[],_=>none
 |x :: l,n=>match n with
  |0=>some x
  |n+1=>nth l n
def takeN {α:Type}:Nat->List α->Option (List α)
 |0,_=>some []
 |_+1,[]=>none
 |n+1,x :: l=>match takeN n l with
  |some r=>some (x :: r)
  |none=>none
def mM {α:Type}:Nat->List α->List α
 |0,l=>l
 |_+1,[]=>[]
 |n+1,_ :: l=>mM n l
def eX {α U:Type}(f:α->Option U):List α->Option (List U)
 |[]=>some []
 |a :: l=>match f a with
  |some b=>match eX f l with
   |some r=>some (b :: r)
   |none=>none
  |none=>none
def rep {α:Type}:Nat->List α->List α
 |0,_=>[]
 |n+1,l=>l++rep n l
def iH {α:Type}(f:α->α):Nat->List α->List α
 |_,[]=>[]
 |0,x :: l=>f x :: l
 |n+1,x :: l=>x :: iH f n l
def Ea {α:Type}:Nat->List α->List α
 |_,[]=>[]
 |0,_ :: l=>l
 |n+1,x :: l=>x :: Ea n l
def ilt:Int->Int->Bool
 |.ofNat a,.ofNat b=>Nat.blt a b
 |.ofNat _,.negSucc _=>false
 |.negSucc _,.ofNat _=>true
 |.negSucc a,.negSucc b=>Nat.blt b a
def ieq:Int->Int->Bool
 |.ofNat a,.ofNat b=>Nat.beq a b
 |.ofNat _,.negSucc _=>false
 |.negSucc _,.ofNat _=>false
 |.negSucc a,.negSucc b=>Nat.beq a b
def idx (i:Int)(n:Nat):Option Nat:=
 match i with
 |.ofNat k=>match Nat.blt k n with
  |true=>some k
  |false=>none
 |.negSucc _=>none
def wr (k:IntKind)(n:Int):Int:=
 match k,n with
 |.i64,.ofNat m=>match Nat.blt m 9223372036854775808 with
  |true=>.ofNat m
  |false=>k.wrap n
 |.i64,.negSucc m=>match Nat.blt m 9223372036854775808 with
  |true=>.negSucc m
  |false=>k.wrap n
 |.u32,.ofNat m=>match Nat.blt m 4294967296 with
  |true=>.ofNat m
  |false=>k.wrap n
 |.u8,.ofNat m=>match Nat.blt m 256 with
  |true=>.ofNat m
  |false=>k.wrap n
 |_,_=>k.wrap n
def V.scalar:V->Bool
 |.agg ..=>false
 |.tuple _=>false
 |_=>true
def yH (pat:List V)(i:Nat):Option V:=
 match nth pat i with
 |some v=>some v
 |none=>nth pat (Nat.mod i pat.length)
def cell (n:Nat)(pat:List V)(tr:T V)(i:Nat):Option V:=
 match Nat.blt i n with
 |true=>match tr.get i with
  |some v=>some v
  |none=>yH pat i
 |false=>none
def fC (n:Nat)(pat:List V)(tr:T V):Nat->Nat->Option (List V)
 |_,0=>some []
 |i,k+1=>match cell n pat tr i with
  |some v=>match fC n pat tr (Nat.succ i) k with
   |some l=>some (v :: l)
   |none=>none
  |none=>none
def mkA (cs:List V):V:=
 match Nat.ble cs.length 8 with
 |true=>.agg cs.length cs .leaf
 |false=>.agg cs.length [] (T.ofList some cs.length cs)
def mkO (e:Option TypeId)(cs:List V):O:=
 match Nat.ble cs.length 8 with
 |true=>.cells e cs.length cs .leaf
 |false=>.cells e cs.length [] (T.ofList some cs.length cs)
def partAt (agg:Bool)(size:Nat)(n:Nat)(pat:List V)(tr:T V)(off:Nat):Option V:=
 match agg with
 |false=>cell n pat tr off
 |true=>
  match Nat.beq off 0&&Nat.beq size n with
  |true=>some (.agg n pat tr)
  |false=>match fC n pat tr off size with
   |some cs=>some (mkA cs)
   |none=>none
def yI (n':Nat)(pat':List V)(tr':T V)(off:Nat):Nat->Nat->T V->Option (T V)
 |_,0,tr=>some tr
 |i,k+1,tr=>match cell n' pat' tr' i with
  |some v=>yI n' pat' tr' off (Nat.succ i) k (tr.put (Nat.add off i) (some v))
  |none=>none
def qL (off:Nat):List V->T V->T V
 |[],tr=>tr
 |v :: l,tr=>qL (Nat.succ off) l (tr.put off (some v))
def pI (size:Nat)(v:V)(n:Nat)(tr:T V)(off:Nat):Option (T V):=
 match Nat.ble (Nat.add off size) n with
 |false=>none
 |true=>
  match v with
  |.agg n' pat' tr'=>match Nat.beq n' size with
   |true=>yI n' pat' tr' off 0 n' tr
   |false=>none
  |.tuple _=>none
  |v=>match Nat.beq size 1 with
   |true=>some (tr.put off (some v))
   |false=>none
def oD:Value->Option V
 |.bool b=>some (.bool b)
 |.int k n=>some (.int k n)
 |.string s=>some (.str s.data.toList)
 |.pointer none=>some .nilp
 |.slice none 0 0=>some .nils
 |.map none=>some .nilm
 |.nilFunc=>some .nilf
 |.nilIface=>some .nili
 |.func (.func f) a b=>match a.toList,b.toList with
  |[],[]=>some (.func (.func f) [] [])
  |_,_=>none
 |_=>none
def ofValue:Value->Option V
 |.agg cs=>match eX oD cs.toList with
  |some l=>some (mkA l)
  |none=>none
 |v=>oD v
def Q6 (types:T TypeInfo)(i:TypeInfo):Option TY:=
 let go (d:TypeDesc):TY:=
  ⟨d,i.size,(match d with|.struct _=>true|.array _ _=>true|_=>false),(match i.zero with|some z=>ofValue z|none=>none),i.methods⟩
 match i.desc with
 |.named _ u=>match types.get u with
  |some j=>some (go j.desc)
  |none=>none
 |.tuple _=>none
 |d=>some (go d)
def Env.get (e:Env)(x:Operand):Option V:=
 match x with
 |.tmp t=>e.tr.get t
 |.const v=>ofValue v
 |.global g=>match Nat.blt g 1000 with
  |true=>some (.ptr g 0)
  |false=>none
 |.func f=>some (.func (.func f) [] [])
def Env.put (e:Env)(d:Option Tmp)(v:V):Option Env:=
 match d with
 |none=>some e
 |some t=>match e with
  |⟨sz,tr⟩=>match Nat.blt t sz with
   |true=>some ⟨sz,tr.put t (some v)⟩
   |false=>none
def eqFields (G:Γ)(eq:TypeId->V->V->Option Bool)(n:Nat)(pat:List V)(tr:T V)(n':Nat)(pat':List V)(tr':T V):List Field->Option Bool
 |[]=>some true
 |f :: fs=>
  match decide (f.name = "_") with
  |true=>none
  |false=>
   match G.ty f.type with
   |none=>none
   |some ft=>
    match partAt ft.agg ft.size n pat tr f.offset,partAt ft.agg ft.size n' pat' tr' f.offset with
    |some a,some b=>match eq f.type a b with
     |some true=>eqFields G eq n pat tr n' pat' tr' fs
     |r=>r
    |_,_=>none
def nD (eq:V->V->Option Bool)(agg:Bool)(s:Nat)(n:Nat)(pat:List V)(tr:T V)(n':Nat)(pat':List V)(tr':T V):Nat->Nat->Option Bool
 |_,0=>some true
 |i,k+1=>
  match partAt agg s n pat tr (Nat.mul i s),partAt agg s n' pat' tr' (Nat.mul i s) with
  |some a,some b=>match eq a b with
   |some true=>nD eq agg s n pat tr n' pat' tr' (Nat.succ i) k
   |r=>r
  |_,_=>none
def eqO (G:Γ):Nat->TypeId->V->V->Option Bool
 |0,_,_,_=>none
 |d+1,t,x,y=>
  match G.ty t with
  |none=>none
  |some ty=>
   match ty.desc,x,y with
   |.bool,.bool a,.bool b=>some (a == b)
   |.int _,.int k a,.int k' b=>match decide (k=k') with
    |true=>some (ieq a b)
    |false=>none
   |.string,.str a,.str b=>some (a == b)
   |.pointer _,.nilp,.nilp=>some true
   |.pointer _,.nilp,.ptr _ _=>some false
   |.pointer _,.ptr _ _,.nilp=>some false
   |.pointer t',.ptr b o,.ptr b' o'=>match Nat.beq b b'&&Nat.beq o o',G.ty t' with
    |true,some _=>some true
    |_,_=>none
   |.interface _,.nili,.iface _ _=>some false
   |.interface _,.iface _ _,.nili=>some false
   |.struct fs,.agg n pat tr,.agg n' pat' tr'=>
    match G.eqs.contains t with
    |true=>eqFields G (eqO G d) n pat tr n' pat' tr' fs.toList
    |false=>none
   |.array len elem,.agg n pat tr,.agg n' pat' tr'=>
    match G.eqs.contains t,G.ty elem with
    |true,some te=>nD (eqO G d elem) te.agg te.size n pat tr n' pat' tr' 0 len
    |_,_=>none
   |.slice _,.nils,.nils=>some true
   |.slice _,.nils,.slice ..=>some false
   |.slice _,.slice ..,.nils=>some false
   |.map _ _,.nilm,.nilm=>some true
   |.map _ _,.nilm,.map _=>some false
   |.map _ _,.map _,.nilm=>some false
   |.func ..,.nilf,.nilf=>some true
   |.func ..,.nilf,.func ..=>some false
   |.func ..,.func ..,.nilf=>some false
   |_,_,_=>none
def uN (op:BinOp)(k:IntKind)(a b:Int):Option V:=
 match op with
 |.add=>some (.int k (wr k (Int.add a b)))
 |.sub=>some (.int k (wr k (Int.sub a b)))
 |.mul=>some (.int k (wr k (Int.mul a b)))
 |.quo=>match ieq b 0 with
  |true=>none
  |false=>some (.int k (wr k (Int.tdiv a b)))
 |.rem=>match ieq b 0 with
  |true=>none
  |false=>some (.int k (Int.tmod a b))
 |.and=>some (.int k (wr k (Int.ofNat (BitVec.ofInt k.bits a &&& BitVec.ofInt k.bits b).toNat)))
 |.or=>some (.int k (wr k (Int.ofNat (BitVec.ofInt k.bits a ||| BitVec.ofInt k.bits b).toNat)))
 |.xor=>some (.int k (wr k (Int.ofNat (BitVec.ofInt k.bits a ^^^ BitVec.ofInt k.bits b).toNat)))
 |.andNot=>some (.int k (wr k (Int.ofNat (BitVec.ofInt k.bits a &&& ~~~BitVec.ofInt k.bits b).toNat)))
 |.eql=>some (.bool (ieq a b))
 |.neq=>some (.bool (!ieq a b))
 |.lss=>some (.bool (ilt a b))
 |.leq=>some (.bool (!ilt b a))
 |.gtr=>some (.bool (ilt b a))
 |.geq=>some (.bool (!ilt a b))
 |_=>none
def mH (op:BinOp)(k:IntKind)(a b:Int):Option V:=
 match b with
 |.negSucc _=>none
 |.ofNat b=>
  match op with
  |.shl=>some (.int k (wr k (Int.mul a (Int.ofNat (Nat.pow 2 (min b k.bits))))))
  |.shr=>some (.int k (Int.fdiv a (Int.ofNat (Nat.pow 2 (min b k.bits)))))
  |_=>none
def CY (op:BinOp)(a b:List UInt8):Option V:=
 match op with
 |.add=>match Nat.ble (Nat.add a.length b.length) 1000000000 with
  |true=>some (.str (a++b))
  |false=>none
 |.eql=>some (.bool (a == b))
 |.neq=>some (.bool (!(a == b)))
 |.lss=>some (.bool (Op.bytesLess a b))
 |.leq=>some (.bool (Op.bytesLess a b || a == b))
 |.gtr=>some (.bool (!(Op.bytesLess a b || a == b)))
 |.geq=>some (.bool (!(Op.bytesLess a b)))
 |_=>none
def isConst:Operand->Bool
 |.const _=>true
 |_=>false
def Lh (G:Γ)(op:BinOp)(t:TypeId)(c:Bool):Option V:=
 match c,G.ty t with
 |true,some ty=>match ty.desc,op with
  |.interface _,.eql=>some (.bool true)
  |.interface _,.neq=>some (.bool false)
  |_,_=>none
 |_,_=>none
def Qc (x y:V):Bool:=
 match x,y with
 |.ptr _ _,.ptr _ _=>true
 |_,_=>false
def Lk (G:Γ)(op:BinOp)(t:TypeId)(c:Bool)(x y:Option V):Option V:=
 match x,y with
 |some .nili,some .nili=>Lh G op t c
 |some (.int k a),some (.int k' b)=>
  match op with
  |.shl=>mH .shl k a b
  |.shr=>mH .shr k a b
  |op=>match decide (k=k') with
   |true=>uN op k a b
   |false=>none
 |some (.str a),some (.str b)=>CY op a b
 |some x,some y=>match op with
  |.eql=>match Qc x y,eqO G 8 t x y with
   |false,some b=>some (.bool b)
   |_,_=>none
  |.neq=>match eqO G 8 t x y with
   |some b=>some (.bool (!b))
   |none=>none
  |_=>none
 |_,_=>none
def pUn (op:UnOp)(x:Option V):Option V:=
 match op,x with
 |.not,some (.bool b)=>some (.bool (!b))
 |.neg,some (.int k n)=>some (.int k (wr k (Int.sub 0 n)))
 |.xor,some (.int k n)=>some (.int k (wr k (Int.ofNat (BitVec.ofInt k.bits (if k.signed then -1 else k.max) ^^^ BitVec.ofInt k.bits n).toNat)))
 |_,_=>none
def Hp (c a b:Option V):Option V:=
 match c with
 |some (.bool true)=>a
 |some (.bool false)=>b
 |_=>none
def AY (src dst:Option TY)(x:Option V):Option V:=
 match src,dst,x with
 |some _,some ty,some (.int _ n)=>match ty.desc with
  |.int k=>some (.int k (wr k n))
  |_=>none
 |some _,some ty,some (.str s)=>match ty.desc with
  |.string=>some (.str s)
  |_=>none
 |_,_,_=>none
def Qd (x:Option V):Option V:=
 match x with
 |some (.ptr b o)=>some (.ptr b o)
 |some (.func (.func f) a b)=>some (.func (.func f) a b)
 |_=>none
def CZ (t:TypeId)(ty:Option TY)(x:Option V):Option V:=
 match ty,x with
 |some ty,some v=>match ty.desc with
  |.interface _=>none
  |_=>some (.iface t v)
 |_,_=>none
def A8 (e:Operand->Option V)(fn:Fn)(first captured:List Operand):Option V:=
 match fn with
 |.func f=>match eX e first,eX e captured with
  |some a,some b=>some (.func (.func f) a b)
  |_,_=>none
 |_=>none
def place (G:Γ)(ty:TY)(i:Nat):Option (Nat×Nat):=
 match ty.desc with
 |.struct fs=>match fs.toList[i]? with
  |some f=>match G.ty f.type with
   |some ft=>some (f.offset,ft.size)
   |none=>none
  |none=>none
 |.array _ elem=>match G.ty elem with
  |some te=>some (Nat.mul i te.size,te.size)
  |none=>none
 |_=>none
def qM (pl:Nat->Option (Nat×Nat))(e:Operand->Option V)(n:Nat):List (Nat×Operand)->T V->Option (T V)
 |[],tr=>some tr
 |p :: rest,tr=>
  match pl p.1,e p.2 with
  |some (off,size),some v=>match pI size v n tr off with
   |some tr'=>qM pl e n rest tr'
   |none=>none
  |_,_=>none
def buildable (G:Γ)(d:TypeDesc):Bool:=
 match d with
 |.struct _=>true
 |.array _ elem=>match G.ty elem with
  |some _=>true
  |none=>false
 |_=>false
def qv (G:Γ)(ty:Option TY)(e:Operand->Option V)(parts:List (Nat×Operand)):Option V:=
 match ty with
 |some ty=>match ty.zero,buildable G ty.desc with
  |some (.agg n pat tr),true=>match qM (place G ty) e n parts tr with
   |some tr'=>some (.agg n pat tr')
   |none=>none
  |_,_=>none
 |none=>none
def bnd (x:Option Operand)(e:Operand->Option V)(d:Nat)(hi:Nat):Option Nat:=
 match x with
 |none=>some d
 |some o=>match e o with
  |some (.int _ n)=>idx n (Nat.succ hi)
  |_=>none
def wJ (e:Operand->Option V)(lo hi mx:Option Operand)(len cap:Nat):Option (Nat×Nat×Nat):=
 match bnd mx e cap cap with
 |some m=>match bnd hi e len m with
  |some h=>match bnd lo e 0 h with
   |some l=>some (l,h,m)
   |none=>none
  |none=>none
 |none=>none
def nE (o l s m:Nat):Nat:=
 match Nat.beq m l with
 |true=>o
 |false=>Nat.add o (Nat.mul l s)
def gN (G:Γ)(ty:Option TY)(e:Operand->Option V)(x:Operand)(lo hi mx:Option Operand):Option V:=
 match ty,e x with
 |some ty,some v=>
  match ty.desc,v with
  |.array n elem,.ptr b o=>
   match mx,hi with
   |some _,none=>none
   |_,_=>match wJ e lo hi mx n n,G.ty elem with
    |some (l,h,m),some te=>some (.slice b (nE o l te.size m) (Nat.sub h l) (.known (Nat.sub m l)))
    |_,_=>none
  |.slice elem,.slice b o len (.known c)=>
   match mx,hi with
   |some _,none=>none
   |_,_=>match wJ e lo hi mx len c,G.ty elem with
    |some (l,h,m),some te=>some (.slice b (nE o l te.size m) (Nat.sub h l) (.known (Nat.sub m l)))
    |_,_=>none
  |.slice elem,.slice b o len (.atl c es)=>
   match mx,hi with
   |some _,none=>none
   |some _,some _=>match wJ e lo hi mx len c,G.ty elem with
    |some (l,h,m),some te=>match Nat.beq m l with
     |true=>some (.slice b o 0 (.atl 0 es))
     |false=>some (.slice b (Nat.add o (Nat.mul l te.size)) (Nat.sub h l) (.known (Nat.sub m l)))
    |_,_=>none
   |none,_=>match wJ e lo hi mx len c,G.ty elem with
    |some (l,h,m),some te=>match Nat.beq te.size es&&Nat.ble h m with
     |true=>some (.slice b (Nat.add o (Nat.mul l te.size)) (Nat.sub h l) (.atl (Nat.sub m l) es))
     |false=>none
    |_,_=>none
  |.slice elem,.nils=>
   match mx,hi with
   |some _,none=>none
   |_,_=>match wJ e lo hi mx 0 0,G.ty elem with
    |some _,some _=>some .nils
    |_,_=>none
  |.string,.str s=>
   match mx with
   |some _=>none
   |none=>match wJ e lo hi none s.length s.length with
    |some (l,h,_)=>match takeN (Nat.sub h l) (mM l s) with
     |some r=>some (.str r)
     |none=>none
    |none=>none
  |_,_=>none
 |_,_=>none
def kq (G:Γ)(ty:Option TY)(x:Option V)(f:Nat):Option V:=
 match ty,x with
 |some ty,some (.ptr b o)=>match ty.desc with
  |.struct fs=>match fs.toList[f]? with
   |some fd=>match G.ty fd.type with
    |some ft=>match Nat.beq ft.size 0 with
     |false=>some (.ptr b (Nat.add o fd.offset))
     |true=>none
    |none=>none
   |none=>none
  |_=>none
 |_,_=>none
def yJ (G:Γ)(ty:Option TY)(x:Option V)(f:Nat):Option V:=
 match ty,x with
 |some ty,some (.agg n pat tr)=>match ty.desc with
  |.struct fs=>match fs.toList[f]? with
   |some fd=>match G.ty fd.type with
    |some ft=>partAt ft.agg ft.size n pat tr fd.offset
    |none=>none
   |none=>none
  |_=>none
 |_,_=>none
def gY (G:Γ)(ty:Option TY)(x ix:Option V):Option V:=
 match ty,x,ix with
 |some ty,some (.ptr b o),some (.int _ i)=>match ty.desc with
  |.array len elem=>match idx i len,G.ty elem with
   |some k,some te=>some (.ptr b (Nat.add o (Nat.mul k te.size)))
   |_,_=>none
  |_=>none
 |some ty,some (.slice b o len _),some (.int _ i)=>match ty.desc with
  |.slice elem=>match idx i len,G.ty elem with
   |some k,some te=>some (.ptr b (Nat.add o (Nat.mul k te.size)))
   |_,_=>none
  |_=>none
 |_,_,_=>none
def oE (G:Γ)(ty:Option TY)(x ix:Option V):Option V:=
 match ty,x,ix with
 |some ty,some (.agg n pat tr),some (.int _ i)=>match ty.desc with
  |.array len elem=>match idx i len,G.ty elem with
   |some k,some te=>partAt te.agg te.size n pat tr (Nat.mul k te.size)
   |_,_=>none
  |_=>none
 |some ty,some (.str s),some (.int _ (.ofNat k))=>match ty.desc with
  |.string=>match nth s k with
   |some b=>some (.int .u8 (Int.ofNat b.toNat))
   |none=>none
  |_=>none
 |_,_,_=>none
def wK (x:Option V)(i:Nat):Option V:=
 match x with
 |some (.tuple vs)=>nth vs i
 |_=>none
def pJ (asserted:TypeId)(ty:Option TY)(x:Option V)(ok:Bool):Option V:=
 match ty,x with
 |some ty,some v=>
  match ty.desc,v with
  |.interface _,_=>none
  |_,.nili=>match ok,ty.zero with
   |true,some z=>some (.tuple [z,.bool false])
   |_,_=>none
  |_,.iface t v=>
   match Nat.beq t asserted with
   |true=>match ok with
    |true=>some (.tuple [v,.bool true])
    |false=>some v
   |false=>match ok,ty.zero with
    |true,some z=>some (.tuple [z,.bool false])
    |_,_=>none
  |_,_=>none
 |_,_=>none
def oF.go (less:Int->Int->Bool)(k:IntKind)(x:Int):List V->Option V
 |[]=>some (.int k x)
 |.int _ y :: rest=>oF.go less k (match less y x with|true=>y|false=>x) rest
 |_=>none
def oF (l:Option (List V))(less:Int->Int->Bool):Option V:=
 match l with
 |some (.int k x :: rest)=>oF.go less k x rest
 |_=>none
def H.set (h:H)(b:Nat)(o:Option O):H:=
 match h with
 |⟨tr,next⟩=>⟨tr.put b o,next⟩
def Qe:Nat->List O->T O
 |_,[]=>.leaf
 |n,o :: os=>(Qe (Nat.succ n) os).put n (some o)
def pK (os:List O):H:=⟨Qe 1001 os,Nat.add 1001 os.length⟩
def O.isG:O->Bool
 |.ghost _=>true
 |_=>false
def H.add (h:H)(o:O):H:=
 match h with
 |⟨tr,next⟩=>⟨tr.put next (some o),Nat.succ next⟩
def jT (ty:Option TY)(h:H)(a:Option V):Option V:=
 match ty,a with
 |some ty,some (.ptr b o)=>match h.tr.get b with
  |some (.cells _ n pat tr)=>partAt ty.agg ty.size n pat tr o
  |some (.ro _ n pat tr)=>partAt ty.agg ty.size n pat tr o
  |_=>none
 |_,_=>none
def eW (h:H)(b o k:Nat):Option (List V):=
 match h.tr.get b with
 |some (.cells _ n pat tr)=>fC n pat tr o k
 |some (.ro _ n pat tr)=>fC n pat tr o k
 |_=>none
def gu (G:Γ)(kt:TypeId)(k:V):List (V×V×Nat)->Nat->Option (Option (Nat×V×V×Nat))
 |[],_=>some none
 |e :: es,i=>match eqO G 8 kt k e.1 with
  |some true=>some (some (i,e))
  |some false=>gu G kt k es (Nat.succ i)
  |none=>none
def eqS:V->V->Bool
 |.bool a,.bool b=>a == b
 |.int k a,.int k' b=>decide (k=k')&&ieq a b
 |.str a,.str b=>a == b
 |_,_=>false
def EC:List V->List V->Bool
 |[],[]=>true
 |a :: l,b :: l'=>eqS a b&&EC l l'
 |_,_=>false
def fN (x y:V):Bool:=
 match x,y with
 |.agg n pat tr,.agg n' pat' tr'=>match Nat.beq n n',fC n pat tr 0 n,fC n' pat' tr' 0 n' with
  |true,some l,some l'=>EC l l'
  |_,_,_=>false
 |x,y=>eqS x y
def lV (G:Γ):Nat->TypeId->Bool
 |0,_=>false
 |d+1,t=>match G.ty t with
  |none=>false
  |some ty=>match ty.desc with
   |.bool=>true
   |.int _=>true
   |.string=>true
   |.struct fs=>fs.toList.all fun f=>lV G d f.type
   |_=>false
def mN (G:Γ)(t:TypeId)(k:V):Bool:=
 match lV G 4 t,G.ty t with
 |true,some ty=>match ty.desc,k with
  |.struct _,.agg n _ _=>Nat.beq n ty.size
  |.struct _,_=>false
  |_,_=>true
 |_,_=>false
def iz (G:Γ)(ty:Option TY)(h:H)(m k:Option V)(ok:Bool):Option V:=
 match ty,m,k with
 |some ty,some m,some k=>match ty.desc with
  |.map kt et=>
   match mN G kt k,(match m with
    |.nilm=>some []
    |.map r=>match h.tr.get r with
     |some (.map es _)=>some es
     |_=>none
    |_=>none:Option (List (V×V×Nat))) with
   |true,some es=>match gu G kt k es 0,G.ty et with
    |some (some (_,_,v,_)),some _=>some (match ok with|true=>.tuple [v,.bool true]|false=>v)
    |some none,some te=>match te.zero with
     |some z=>some (match ok with|true=>.tuple [z,.bool false]|false=>z)
     |none=>none
    |_,_=>none
   |_,_=>none
  |_=>none
 |_,_,_=>none
def oH:List (V×V×Nat)->Nat->Option (V×V)
 |[],_=>none
 |e :: es,st=>match Nat.beq e.2.2 st with
  |true=>some (e.1,e.2.1)
  |false=>oH es st
def Hq (h:H)(it:Option V):Option V:=
 match it with
 |some (.ptr r 0)=>match h.tr.get r with
  |some (.mapIter (some m) _ (st :: _) stepped)=>match h.tr.get m with
   |some (.map es clock)=>match Nat.beq clock stepped with
    |true=>match oH es st with
     |some x=>some (.tuple [x.1,x.2])
     |none=>none
    |false=>none
   |_=>none
  |_=>none
 |_=>none
def uO (G:Γ)(ty:Option TY)(h:H)(x:Option V):Option V:=
 match ty,x with
 |some ty,some v=>
  match ty.desc,v with
  |.string,.str s=>some (.int .i64 (Int.ofNat s.length))
  |.array n _,_=>some (.int .i64 (Int.ofNat n))
  |.pointer arr,_=>match G.ty arr with
   |some ta=>match ta.desc with
    |.array n _=>some (.int .i64 (Int.ofNat n))
    |_=>none
   |none=>none
  |.slice _,.nils=>some (.int .i64 0)
  |.slice _,.slice _ _ n _=>some (.int .i64 (Int.ofNat n))
  |.map _ _,.nilm=>some (.int .i64 0)
  |.map _ _,.map r=>match h.tr.get r with
   |some (.map es _)=>some (.int .i64 (Int.ofNat es.length))
   |_=>none
  |_,_=>none
 |_,_=>none
def Ov (ty:Option TY)(x:Option V):Option V:=
 match ty,x with
 |some ty,some v=>
  match ty.desc,v with
  |.slice _,.nils=>some (.int .i64 0)
  |.slice _,.slice _ _ _ (.known n)=>some (.int .i64 (Int.ofNat n))
  |_,_=>none
 |_,_=>none
def Hr (s d:Option TY):Bool:=
 match s,d with
 |some s,some d=>match s.desc,d.desc with
  |.pointer _,.unsafePointer=>true
  |.unsafePointer,.pointer _=>true
  |.slice _,.string=>true
  |_,_=>false
 |_,_=>false
def sW:List V->Option (List UInt8)
 |[]=>some []
 |.int .u8 (.ofNat n) :: l=>match Nat.blt n 256,sW l with
  |true,some r=>some (n.toUInt8 :: r)
  |_,_=>none
 |_=>none
def Ns (G:Γ)(s d:Option TY)(h:H)(x:Option V):Option V:=
 match s,d,x with
 |some s,some d,some (.ptr b o)=>match h.tr.get b,s.desc,d.desc with
  |some (.cells _ n _ _),.pointer t,.unsafePointer=>match G.ty t with
   |some tt=>match Nat.blt o n&&Nat.blt 0 tt.size with
    |true=>some (.ptr b o)
    |false=>none
   |none=>none
  |some (.cells (some e) n _ _),.unsafePointer,.pointer u=>match Nat.beq e u&&Nat.beq o 0,G.ty u with
   |true,some tu=>match Nat.blt 0 tu.size&&Nat.ble tu.size n with
    |true=>some (.ptr b o)
    |false=>none
   |_,_=>none
  |_,_,_=>none
 |some s,some d,some (.slice b o (k+1) _)=>match s.desc,d.desc,eW h b o (k+1) with
  |.slice e,.string,some l=>match G.ty e,sW l with
   |some te,some r=>match te.desc with
    |.int .u8=>some (.str r)
    |_=>none
   |_,_=>none
  |_,_,_=>none
 |_,_,_=>none
def uP (x:Option V):Option V:=
 match x with
 |some .nils=>some .nilp
 |some (.slice b o _ (.known (_+1)))=>some (.ptr b o)
 |some (.slice b o _ (.atl (_+1) _))=>some (.ptr b o)
 |_=>none
def A9 (G:Γ)(ty:Option TY)(h:H)(x n:Option V):Option (V×H):=
 match ty,x,n with
 |some _,some .nilp,some (.int .i64 (.ofNat 0))=>some (.str [],h)
 |some _,some (.ptr _ _),some (.int .i64 (.ofNat 0))=>some (.str [],h)
 |some ty,some (.ptr b o),some (.int .i64 (.ofNat (k+1)))=>match ty.desc,eW h b 0 (k+1),h.tr.get b with
  |.pointer u,some l,some (.cells (some e) n pat tr)=>match sW l,G.ty u,Nat.beq e u&&Nat.beq o 0&&Nat.ble k 100000 with
   |some s,some tu,true=>match Nat.beq tu.size 1 with
    |true=>some (.str s,h.set b (some (.ro none n pat tr)))
    |false=>none
   |_,_,_=>none
  |_,_,_=>none
 |_,_,_=>none
def Qf (t:TypeId)(v:V):Option O:=
 match v with
 |.agg n pat tr=>some (.cells (some t) n pat tr)
 |.tuple _=>none
 |v=>some (.cells (some t) 1 [v] .leaf)
def BK (t:TypeId)(x:Option V)(id:Nat):Option (O×V):=
 match x with
 |some v=>match Qf t v with
  |some o=>some (o,.ptr id 0)
  |none=>none
 |none=>none
def lD (t:TypeId)(ty:Option TY)(id:Nat):Option (O×V):=
 match ty with
 |some ty=>BK t ty.zero id
 |none=>none
def lW (te:TY):Option (List V):=
 match te.zero with
 |some (.agg n pat tr)=>match Nat.beq n te.size with
  |true=>fC n pat tr 0 n
  |false=>none
 |some (.tuple _)=>none
 |some v=>match Nat.beq te.size 1 with
  |true=>some [v]
  |false=>none
 |none=>none
def fD (G:Γ)(ty:Option TY)(len:Nat)(e:Operand->Option V)(parts:List (Nat×Operand))(id:Nat):Option (O×V):=
 match ty with
 |some ty=>match ty.desc with
  |.slice elem=>match G.ty elem with
   |some te=>match lW te,Nat.ble (Nat.mul len te.size) 100000 with
    |some z,true=>match qM (fun i=>some (Nat.mul i te.size,te.size)) e (Nat.mul len te.size) parts .leaf with
     |some tr=>some (.cells (some elem) (Nat.mul len te.size) z tr,.slice id 0 len (.known len))
     |none=>none
    |_,_=>none
   |none=>none
  |_=>none
 |none=>none
def fW (G:Γ)(ty:Option TY)(l c:Option V)(id:Nat):Option (O×V):=
 match ty,l,c with
 |some ty,some (.int _ (.ofNat l)),some (.int _ (.ofNat c))=>match ty.desc with
  |.slice elem=>match G.ty elem with
   |some te=>match lW te,Nat.ble l c&&Nat.ble c 100000&&Nat.ble te.size 100000 with
    |some z,true=>some (.cells (some elem) (Nat.mul c te.size) z .leaf,.slice id 0 l (.known c))
    |_,_=>none
   |none=>none
  |_=>none
 |_,_,_=>none
def putCells (h:H)(b o:Nat)(vs:List V):Option H:=
 match h.tr.get b with
 |some (.cells e n pat tr)=>match Nat.ble (Nat.add o vs.length) n with
  |true=>some (h.set b (some (.cells e n pat (qL o vs tr))))
  |false=>none
 |_=>none
def mV (ty:Option TY)(h:H)(a x:Option V):Option (V×H):=
 match ty,a,x with
 |some ty,some (.ptr b o),some v=>match h.tr.get b with
  |some (.cells e n pat tr)=>
   match v with
   |.agg n' pat' tr'=>
    match Nat.beq n' ty.size,Nat.beq o 0&&Nat.beq n' n with
    |true,true=>some (.tuple [],h.set b (some (.cells e n' pat' tr')))
    |true,false=>match Nat.ble (Nat.add o n') n,yI n' pat' tr' o 0 n' tr with
     |true,some tr''=>some (.tuple [],h.set b (some (.cells e n pat tr'')))
     |_,_=>none
    |false,_=>none
   |.tuple _=>none
   |v=>match Nat.beq ty.size 1&&Nat.blt o n with
    |true=>some (.tuple [],h.set b (some (.cells e n pat (tr.put o (some v)))))
    |false=>none
  |_=>none
 |_,_,_=>none
def elems (h:H)(s:Nat)(x:V):Option (Nat×List V):=
 match x with
 |.nils=>some (0,[])
 |.slice b o n _=>match eW h b o (Nat.mul n s) with
  |some l=>some (n,l)
  |none=>none
 |.str t=>match Nat.beq s 1 with
  |true=>some (t.length,t.map fun b=>.int .u8 (Int.ofNat b.toNat))
  |false=>none
 |_=>none
def news (te:TY)(zeros:Bool)(h:H)(y:V):Option (Nat×List V):=
 match zeros with
 |false=>elems h te.size y
 |true=>match y,lW te with
  |.int .i64 (.ofNat n),some z=>match Nat.ble n 100000 with
   |true=>some (n,rep n z)
   |false=>none
  |_,_=>none
def grown (h:H)(e:Option TypeId)(s n:Nat)(cs:List V):Option (V×H):=
 match Nat.ble n 100000&&Nat.ble s 100000 with
 |true=>some (.slice h.next 0 n (.atl n s),h.add (mkO e cs))
 |false=>none
def Ba (e:Option TypeId)(t:TypeId):Option TypeId:=
 match e with
 |some t'=>match Nat.beq t' t with
  |true=>some t
  |false=>none
 |none=>none
def oI (o:Nat)(e:Option TypeId)(t:TypeId):Option TypeId:=
 match Nat.beq o 0 with
 |true=>Ba e t
 |false=>none
def fO (elem:TypeId)(te:TY)(h:H)(x:V)(n:Nat)(new:List V):Option (V×H):=
 match x with
 |.nils=>match Nat.beq n 0 with
  |true=>some (.nils,h)
  |false=>grown h (some elem) te.size n new
 |.slice b o len (.known c)=>
  match Nat.ble (Nat.add len n) c with
  |true=>match putCells h b (Nat.add o (Nat.mul len te.size)) new with
   |some h'=>some (.slice b o (Nat.add len n) (.known c),h')
   |none=>none
  |false=>match eW h b o (Nat.mul len te.size) with
   |some old=>grown h (some elem) te.size (Nat.add len n) (old++new)
   |none=>none
 |.slice b o len (.atl c es)=>
  match Nat.beq te.size es with
  |false=>none
  |true=>match Nat.ble (Nat.add len n) c with
   |true=>match putCells h b (Nat.add o (Nat.mul len te.size)) new with
    |some h'=>some (.slice b o (Nat.add len n) (.atl c es),h')
    |none=>none
   |false=>match h.tr.get b,eW h b o (Nat.mul len te.size) with
    |some (.cells e _ _ _),some old=>grown (h.set b none) (oI o e elem) te.size (Nat.add len n) (old++new)
    |_,_=>none
 |_=>none
def isInt:TypeDesc->Option Bool
 |.int _=>some true
 |.slice _=>some false
 |.string=>some false
 |_=>none
def pL (G:Γ)(ty tx:Option TY)(h:H)(x y:Option V):Option (V×H):=
 match ty,tx,x,y with
 |some ty,some tx,some x,some y=>match ty.desc with
  |.slice elem=>match G.ty elem with
   |some te=>
    match isInt tx.desc with
    |some zs=>match news te zs h y with
     |some (n,l)=>fO elem te h x n l
     |none=>none
    |none=>none
   |none=>none
  |_=>none
 |_,_,_,_=>none
def Nt (G:Γ)(ty:Option TY)(h:H)(x y:Option V):Option (V×H):=
 match ty,x,y with
 |some ty,some x,some y=>match ty.desc with
  |.slice elem=>match G.ty elem with
   |some te=>match elems h te.size y with
    |some (n,l)=>match x with
     |.nils=>some (.int .i64 0,h)
     |.slice b o len _=>match takeN (Nat.mul (min n len) te.size) l with
      |some l'=>match putCells h b o l' with
       |some h'=>some (.int .i64 (Int.ofNat (min n len)),h')
       |none=>none
      |none=>none
     |_=>none
    |none=>none
   |none=>none
  |_=>none
 |_,_,_=>none
def jU (G:Γ)(h:H)(ty:Option TY)(m k x:Option V):Option (V×H):=
 match ty,m,k,x with
 |some ty,some (.map r),some k,some v=>match ty.desc with
  |.map kt _=>match h.tr.get r,mN G kt k with
   |some (.map es clock),true=>match gu G kt k es 0 with
    |some (some (i,y))=>match fN k y.1 with
     |true=>some (.tuple [],h.set r (some (.map (iH (fun y=>(k,v,y.2.2)) i es) clock)))
     |false=>none
    |some none=>some (.tuple [],h.set r (some (.map (es++[(k,v,clock)]) (Nat.succ clock))))
    |none=>none
   |_,_=>none
  |_=>none
 |_,_,_,_=>none
def qx (G:Γ)(h:H)(ty:Option TY)(m k:Option V):Option (V×H):=
 match ty,m,k with
 |some ty,some (.map r),some k=>match ty.desc with
  |.map kt et=>match h.tr.get r,mN G kt k with
   |some (.map es clock),true=>match gu G kt k es 0 with
    |some (some (i,y))=>match fN k y.1 with
     |true=>some (.tuple [y.2.1,.int .i64 (Int.ofNat y.2.2)],h.set r (some (.map (iH (fun y=>(k,y.2.1,y.2.2)) i es) clock)))
     |false=>none
    |some none=>match G.ty et with
     |some te=>match te.zero with
      |some z=>some (.tuple [z,.int .i64 (Int.ofNat clock)],h.set r (some (.map (es++[(k,z,clock)]) (Nat.succ clock))))
      |none=>none
     |none=>none
    |none=>none
   |_,_=>none
  |_=>none
 |_,_,_=>none
def kr:List (V×V×Nat)->Nat->Nat->Option Nat
 |[],_,_=>none
 |e :: es,st,i=>match Nat.beq e.2.2 st with
  |true=>some i
  |false=>kr es st (Nat.succ i)
def gd (h:H)(m st x:Option V):Option (V×H):=
 match m,st,x with
 |some (.map r),some (.int _ (.ofNat born)),some v=>match h.tr.get r with
  |some (.map es clock)=>match kr es born 0 with
   |some i=>some (.tuple [],h.set r (some (.map (iH (fun y=>(y.1,v,y.2.2)) i es) clock)))
   |none=>none
  |_=>none
 |_,_,_=>none
def uQ (ty:Option TY)(h:H)(x:Option V):Option (V×H):=
 match ty,x with
 |some ty,some v=>
  match ty.desc,v with
  |.string,.str s=>some (.ptr h.next 0,h.add (.strIter s 0))
  |.map _ _,.nilm=>some (.ptr h.next 0,h.add (.mapIter none 0 [] 0))
  |.map _ _,.map m=>match h.tr.get m with
   |some (.map _ clock)=>some (.ptr h.next 0,h.add (.mapIter (some m) clock [] clock))
   |_=>none
  |_,_=>none
 |_,_=>none
def leftOf (seen:List Nat):List (V×V×Nat)->List (V×V×Nat)
 |[]=>[]
 |e :: es=>match seen.any (Nat.beq e.2.2) with
  |true=>leftOf seen es
  |false=>e :: leftOf seen es
def wL (h:H)(it:Option V)(isS:Bool):Option (V×H):=
 match it with
 |some (.ptr r 0)=>match h.tr.get r,isS with
  |some (.strIter s pos),true=>
   match Nat.blt pos s.length with
   |true=>match Utf8.decode ⟨s.toArray⟩ pos with
    |(c,w)=>some (.tuple [.bool true,.int .i64 (Int.ofNat pos),.int .i32 (Int.ofNat c)],h.set r (some (.strIter s (Nat.add pos w))))
   |false=>some (.tuple [.bool false],h)
  |some (.mapIter none _ _ _),false=>some (.tuple [.bool false],h)
  |some (.mapIter (some m) since seen last),false=>match h.tr.get m with
   |some (.map es clock)=>
    match !seen.isEmpty&&!es.isEmpty&&es.all (fun y=>Nat.ble last y.2.2) with
    |true=>none
    |false=>
     match leftOf seen es with
     |[]=>some (.tuple [.bool false],h)
     |[x]=>match Nat.blt x.2.2 since with
      |true=>some (.tuple [.bool true,x.1,x.2.1],h.set r (some (.mapIter (some m) since (x.2.2 :: seen) clock)))
      |false=>none
     |_=>none
   |_=>none
  |_,_=>none
 |_=>none
def pM (G:Γ)(ty:Option TY)(h:H)(m k:Option V):Option (V×H):=
 match ty,m,k with
 |some ty,some m,some k=>match ty.desc,m with
  |.map kt _,.map r=>match h.tr.get r,mN G kt k with
   |some (.map es clock),true=>match gu G kt k es 0 with
    |some (some (i,_))=>some (.tuple [],h.set r (some (.map (Ea i es) clock)))
    |some none=>some (.tuple [],h)
    |none=>none
   |_,_=>none
  |_,_=>none
 |_,_,_=>none
def uR (G:Γ)(ty:Option TY)(h:H)(x:Option V):Option (V×H):=
 match ty,x with
 |some ty,some x=>match ty.desc,x with
  |.map _ _,.nilm=>some (.tuple [],h)
  |.slice _,.nils=>some (.tuple [],h)
  |.map _ _,.map r=>match h.tr.get r with
   |some (.map _ clock)=>some (.tuple [],h.set r (some (.map [] clock)))
   |_=>none
  |.slice elem,.slice b o n _=>match G.ty elem with
   |some te=>match lW te with
    |some z=>match putCells h b o (rep n z) with
     |some h'=>some (.tuple [],h')
     |none=>none
    |none=>none
   |none=>none
  |_,_=>none
 |_,_=>none
inductive Tgt where
 |fn (f:FuncId) (args:List V)
 |yield (l:Nat) (args:List V)
inductive Ac where
 |val (v:Option V)
 |rd (f:H->Option V)
 |al (f:Nat->Option (O×V))
 |ef (f:H->Option (V×H))
 |call (t:Option Tgt)
def wM (f:Option V)(args:Option (List V)):Option Tgt:=
 match f,args with
 |some (.func (.func f) first captured),some args=>some (.fn f (first++args++captured))
 |some (.func (.yield l) first _),some args=>some (.yield l (first++args))
 |_,_=>none
def Eb (name:String):List Method->Option Method
 |[]=>none
 |m :: l=>match decide (m.name=name) with
  |true=>some m
  |false=>Eb name l
def sX (G:Γ)(r:Option V)(name:String)(args:Option (List V)):Option Tgt:=
 match r,args with
 |some (.iface t v),some args=>match G.ty t with
  |some ty=>match Eb name ty.methods.toList with
   |some m=>match m.path.toList,m.func,ty.desc with
    |[],some (f,true),.pointer _=>some (.fn f (v :: args))
    |_,_,_=>none
   |none=>none
  |none=>none
 |_,_=>none
def fh (G:Γ)(e:Operand->Option V)(b:Builtin)(types:List TypeId)(args:List Operand):Ac:=
 match b,types,args with
 |.len,[t],[x]=>.rd (fun h=>uO G (G.ty t) h (e x))
 |.cap,[t],[x]=>.val (Ov (G.ty t) (e x))
 |.min,_,args=>.val (oF (eX e args) ilt)
 |.max,_,args=>.val (oF (eX e args) (fun a b=>ilt b a))
 |.append,[t,t'],[x,y]=>.ef (fun h=>pL G (G.ty t) (G.ty t') h (e x) (e y))
 |.copy,[t,_],[x,y]=>.ef (fun h=>Nt G (G.ty t) h (e x) (e y))
 |.delete,[t,_],[x,y]=>.ef (fun h=>pM G (G.ty t) h (e x) (e y))
 |.unsafeSliceData,_,[x]=>.val (uP (e x))
 |.unsafeString,[t,_],[x,y]=>.ef (fun h=>A9 G (G.ty t) h (e x) (e y))
 |.clear,[t],[x]=>.ef (fun h=>uR G (G.ty t) h (e x))
 |_,_,_=>.val none
def fX (G:Γ)(e:Operand->Option V)(c:Call):Ac:=
 match c.callee with
 |.value f=>.call (wM (e f) (eX e c.args.toList))
 |.invoke r name=>.call (sX G (e r) name (eX e c.args.toList))
 |.builtin b=>fh G e b c.argTypes.toList c.args.toList
def act (G:Γ)(e:Operand->Option V)(op:Op):Ac:=
 match op with
 |.move x=>.val (e x)
 |.assign x=>.val (e x)
 |.pick c a b=>.val (Hp (e c) (e a) (e b))
 |.alloc t=>.al (lD t (G.ty t))
 |.box t x=>.al (BK t (e x))
 |.build t ps=>.val (qv G (G.ty t) e ps.toList)
 |.buildSlice t n ps=>.al (fD G (G.ty t) n e ps.toList)
 |.insert t m k x=>.ef (fun h=>jU G h (G.ty t) (e m) (e k) (e x))
 |.load t a=>.rd (fun h=>jT (G.ty t) h (e a))
 |.store t a x=>.ef (fun h=>mV (G.ty t) h (e a) (e x))
 |.nilCheck x=>.val (Qd (e x))
 |.binOp op t x y _=>.val (Lk G op t (isConst x || isConst y) (e x) (e y))
 |.unOp op _ x=>.val (pUn op (e x))
 |.convert s d x=>match Hr (G.ty s) (G.ty d) with
  |true=>.rd (fun h=>Ns G (G.ty s) (G.ty d) h (e x))
  |false=>.val (AY (G.ty s) (G.ty d) (e x))
 |.makeInterface t x=>.val (CZ t (G.ty t) (e x))
 |.makeFunc fn first captured=>.val (A8 e fn first.toList captured.toList)
 |.makeMap _ r=>match r with
  |none=>.al (fun id=>some (.map [] 0,.map id))
  |some _=>.val none
 |.makeSlice t l c=>.al (fW G (G.ty t) (e l) (e c))
 |.slice t x lo hi mx=>.val (gN G (G.ty t) e x lo hi mx)
 |.fieldAddr s x f=>.val (kq G (G.ty s) (e x) f)
 |.field t x f=>.val (yJ G (G.ty t) (e x) f)
 |.indexAddr t x i=>.val (gY G (G.ty t) (e x) (e i))
 |.index t x i=>.val (oE G (G.ty t) (e x) (e i))
 |.lookup t x i ok=>.rd (fun h=>iz G (G.ty t) h (e x) (e i) ok)
 |.mapUpdate t m k x=>.ef (fun h=>jU G h (G.ty t) (e m) (e k) (e x))
 |.mapEntry t m k=>.ef (fun h=>qx G h (G.ty t) (e m) (e k))
 |.entryStore _ m st x=>.ef (fun h=>gd h (e m) (e st) (e x))
 |.range t x=>.ef (fun h=>uQ (G.ty t) h (e x))
 |.next it isS=>.ef (fun h=>wL h (e it) isS)
 |.entry it=>.rd (fun h=>Hq h (e it))
 |.typeAssert x _ t ok=>.val (pJ t (G.ty t) (e x) ok)
 |.extract t i=>.val (wK (e t) i)
 |.call c=>fX G e c
 |_=>.val none
def gz (ops:Array Oper)(env:Env)(o:Oper):Option Bool:=
 match o.guard with
 |none=>some true
 |some (j,want)=>match ops.toList[j]? with
  |some p=>match p.dst with
   |some d=>match env.tr.get d with
    |some (.bool b)=>some (b == want)
    |some _=>some false
    |none=>none
   |none=>none
  |none=>none
abbrev ic:=Tgt->H->Option (V×H)
def je (G:Γ)(call:ic)(env:Env)(h:H)(o:Oper):Option (V×H):=
 match act G env.get o.op with
 |.val v=>match v with
  |some v=>some (v,h)
  |none=>none
 |.rd f=>match f h with
  |some v=>some (v,h)
  |none=>none
 |.al f=>match f h.next with
  |some (obj,v)=>some (v,h.add obj)
  |none=>none
 |.ef f=>f h
 |.call t=>match t with
  |some t=>call t h
  |none=>none
def xn (G:Γ)(call:ic)(ops:Array Oper):List Oper->Env->H->Option (Env×H)
 |[],env,h=>some (env,h)
 |o :: rest,env,h=>
  match gz ops env o with
  |some true=>match je G call env h o with
   |some (v,h')=>match env.put o.dst v with
    |some env'=>xn G call ops rest env' h'
    |none=>none
   |none=>none
  |some false=>match env.put o.dst (.tuple []) with
   |some env'=>xn G call ops rest env' h
   |none=>none
  |none=>none
def bit (m i:Nat):Bool:=Nat.beq (Nat.mod (Nat.div m (Nat.pow 2 i)) 2) 1
def yK (tab:T Nat):List Edge->Nat
 |[]=>0
 |e :: l=>match Region.binds .any e with
  |true=>Nat.lor (Nat.lor (Nat.pow 2 e.on) (match tab.get e.on with|some m=>m|none=>0)) (yK tab l)
  |false=>yK tab l
def nW:List Oper->Nat->T Nat->List (Oper×Nat)
 |[],_,_=>[]
 |o :: l,i,tab=>(o,yK tab o.after.toList) :: nW l (Nat.succ i) (tab.put i (some (yK tab o.after.toList)))
structure Bs where
 mask:Nat
 h:H
structure DS where
 env:Env
 base:Bs
 eK:List (Nat×Nat×O)
 eY:List (Nat×Bs)
 reads:List (Nat×Nat×Env×Op×V)
def hv (B:Bs)(m:Nat):List (Nat×Nat×O)->H
 |[]=>B.h
 |a :: l=>match bit m a.1&&!bit B.mask a.1 with
  |true=>(hv B m l).set a.2.1 (some a.2.2)
  |false=>hv B m l
def chain (eY:List (Nat×Bs))(m:Nat):Bool:=
 match eY with
 |[]=>true
 |e :: _=>bit m e.1
def wN (G:Γ)(call:ic)(n0 i m:Nat)(env:Env)(base:Bs)(eK:List (Nat×Nat×O))(eY:List (Nat×Bs))(reads:List (Nat×Nat×Env×Op×V))(o:Oper):Option DS:=
 match act G env.get o.op with
 |.val v=>match v with
  |some v=>match env.put o.dst v with
   |some env'=>some ⟨env',base,eK,eY,reads⟩
   |none=>none
  |none=>none
 |.rd f=>match f (hv base m eK) with
  |some v=>match env.put o.dst v with
   |some env'=>some ⟨env',base,eK,eY,(i,m,env,o.op,v) :: reads⟩
   |none=>none
  |none=>none
 |.al f=>match f (Nat.add n0 i) with
  |some (obj,v)=>match env.put o.dst v with
   |some env'=>some ⟨env',base,(i,Nat.add n0 i,obj) :: eK,eY,reads⟩
   |none=>none
  |none=>none
 |.ef f=>match chain eY m,f (hv base m eK) with
  |true,some (v,h)=>match env.put o.dst v with
   |some env'=>some ⟨env',⟨m,h⟩,eK,(i,⟨m,h⟩) :: eY,reads⟩
   |none=>none
  |_,_=>none
 |.call t=>match t with
  |some t=>match chain eY m,call t (hv base m eK) with
   |true,some (v,h)=>match env.put o.dst v with
    |some env'=>some ⟨env',⟨m,h⟩,eK,(i,⟨m,h⟩) :: eY,reads⟩
    |none=>none
   |_,_=>none
  |none=>none
def yL (G:Γ)(call:ic)(ops:Array Oper)(n0:Nat):List (Oper×Nat)->Nat->DS->Option DS
 |[],_,s=>some s
 |p :: rest,i,⟨env,base,eK,eY,reads⟩=>
  match gz ops env p.1 with
  |some true=>match wN G call n0 i p.2 env base eK eY reads p.1 with
   |some s'=>yL G call ops n0 rest (Nat.succ i) s'
   |none=>none
  |some false=>match env.put p.1.dst (.tuple []) with
   |some env'=>yL G call ops n0 rest (Nat.succ i) ⟨env',base,eK,eY,reads⟩
   |none=>none
  |none=>none
def js (eq:V->V->Bool):List V->List V->Bool
 |[],[]=>true
 |a :: l,b :: l'=>eq a b&&js eq l l'
 |_,_=>false
def jf (eq:V->V->Bool)(n:Nat)(pat:List V)(tr:T V)(pat':List V)(tr':T V):Nat->Nat->Bool
 |_,0=>true
 |i,k+1=>match cell n pat tr i,cell n pat' tr' i with
  |some a,some b=>eq a b&&jf eq n pat tr pat' tr' (Nat.succ i) k
  |_,_=>false
def V.beq:Nat->V->V->Bool
 |0,_,_=>false
 |d+1,x,y=>
  match x,y with
  |.bool a,.bool b=>a == b
  |.int k a,.int k' b=>decide (k=k')&&ieq a b
  |.str a,.str b=>a == b
  |.nilp,.nilp=>true
  |.ptr a o,.ptr b o'=>Nat.beq a b&&Nat.beq o o'
  |.nils,.nils=>true
  |.slice a o n c,.slice a' o' n' c'=>Nat.beq a a'&&Nat.beq o o'&&Nat.beq n n'&&decide (c=c')
  |.nilm,.nilm=>true
  |.map r,.map r'=>Nat.beq r r'
  |.func f a b,.func f' a' b'=>decide (f=f')&&js (V.beq d) a a'&&js (V.beq d) b b'
  |.nilf,.nilf=>true
  |.iface t v,.iface t' v'=>Nat.beq t t'&&V.beq d v v'
  |.nili,.nili=>true
  |.agg n pat tr,.agg n' pat' tr'=>Nat.beq n n'&&jf (V.beq d) n pat tr pat' tr' 0 n
  |.tuple a,.tuple b=>js (V.beq d) a b
  |_,_=>false
def wO (G:Γ)(m:Nat)(env:Env)(op:Op)(v:V)(eK:List (Nat×Nat×O))(B:Bs):Bool:=
 match act G env.get op with
 |.rd f=>match f (hv B m eK) with
  |some v'=>V.beq 6 v' v
  |none=>false
 |_=>false
def JQ (G:Γ)(j m:Nat)(env:Env)(op:Op)(v:V)(eK:List (Nat×Nat×O))(B0:Bs):List (Nat×Bs)->Bool
 |[]=>wO G m env op v eK B0
 |e :: l=>(bit e.2.mask j || wO G m env op v eK e.2)&&(bit m e.1 || JQ G j m env op v eK B0 l)
def oJ (G:Γ)(eK:List (Nat×Nat×O))(B0:Bs)(eY:List (Nat×Bs)):List (Nat×Nat×Env×Op×V)->Bool
 |[]=>true
 |r :: l=>JQ G r.1 r.2.1 r.2.2.1 r.2.2.2.1 r.2.2.2.2 eK B0 eY&&oJ G eK B0 eY l
def Qg (G:Γ)(call:ic)(ops:Array Oper)(env:Env)(h:H):Option (Env×H):=
 match yL G call ops h.next (nW ops.toList 0 .leaf) 0 ⟨env,⟨0,⟨h.tr,Nat.add h.next ops.toList.length⟩⟩,[],[],[]⟩ with
 |some s=>match oJ G s.eK ⟨0,⟨h.tr,Nat.add h.next ops.toList.length⟩⟩ s.eY s.reads with
  |true=>some (s.env,hv s.base (Nat.sub (Nat.pow 2 ops.toList.length) 1) s.eK)
  |false=>none
 |none=>none
inductive Xx where
 |normal
 |exit (id:Nat)
 |ret
structure St where
 env:Env
 h:H
 defs:List Nat
abbrev EvC:=Code->Option Nat->FuncId->St->Option (Xx×St)
def fT:Nat->List V->T V->T V
 |_,[],t=>t
 |i,v :: l,t=>fT (Nat.succ i) l (t.put i (some v))
def jV:List Tmp->List V->Env->Option Env
 |[],[],e=>some e
 |p :: ps,v :: vs,e=>match e.put (some p) v with
  |some e'=>jV ps vs e'
  |none=>none
 |_,_,_=>none
def nF (G:Γ)(h:H)(env:Env):ResultVar->Option V
 |.tmp t=>env.tr.get t
 |.cell a t=>jT (G.ty t) h (env.tr.get a)
def jK (G:Γ)(h:H)(env:Env)(fn:Func):Option V:=
 match eX (nF G h env) fn.results.toList with
 |some [v]=>some v
 |some vs=>some (.tuple vs)
 |none=>none
def kR:List Nat->H->Option H
 |[],h=>some h
 |b :: l,h=>match h.tr.get b with
  |some .deferred=>kR l (h.set b none)
  |_=>none
def wP (r:Row)(args:List V)(h:H):Option (V×H):=
 match r,args with
 |.clone,[.iface t (.map m)]=>match h.tr.get m with
  |some (.map es clock)=>some (.iface t (.map h.next),h.add (.map es clock))
  |_=>none
 |.same,[v]=>some (v,h)
 |_,_=>none
def rC (G:Γ)(ev:EvC)(f:FuncId)(fn:Func)(c:Code)(args:List V)(h:H):Option (V×H):=
 match Nat.ble args.length fn.ntmps with
 |true=>match ev c none f ⟨⟨fn.ntmps,fT 0 args .leaf⟩,h,[]⟩ with
  |some (x,st)=>match x with
   |.exit _=>none
   |_=>match kR st.defs st.h with
    |some h'=>match jK G h' st.env fn with
     |some v=>some (v,h')
     |none=>none
    |none=>none
  |none=>none
 |false=>none
def uS (G:Γ)(ev:EvC)(f:FuncId)(args:List V)(h:H):Option (V×H):=
 match G.funcs.get f with
 |none=>none
 |some fn=>match fn.body with
  |none=>none
  |some c=>match G.ext f args h with
   |some r=>some r
   |none=>rC G ev f fn c args h
def Hs (G:Γ)(ev:EvC)(f:FuncId)(args:List V)(h:H):Option (V×H):=
 match G.rows f with
 |some r=>wP r args h
 |none=>uS G ev f args h
def isReady:LoopState->Bool
 |.ready=>true
 |_=>false
def sY:Xx->Option Code
 |.normal=>none
 |.ret=>some .ret
 |.exit id=>some (.exit id)
def oK (ev:EvC)(l:Nat)(args:List V)(h:H):Option (V×H):=
 match h.tr.get l with
 |some (.loop lp)=>
  match jV lp.params args lp.tmps with
  |some env=>match ev lp.assign (some l) lp.fn ⟨env,h,[]⟩ with
   |some (.normal,st)=>
    match st.h.tr.get l,st.defs with
    |some (.loop lp'),[]=>
     match isReady lp'.state with
     |true=>
      match ev lp.body (some l) lp.fn ⟨st.env,st.h.set l (some (.loop { lp' with state:=.busy })),[]⟩ with
      |some (x,st2)=>
       match st2.h.tr.get l,st2.defs with
       |some (.loop lp''),[]=>match sY x with
        |none=>some (.bool true,st2.h.set l (some (.loop { lp'' with state:=.ready,pending:=none })))
        |some j=>some (.bool false,st2.h.set l (some (.loop { lp'' with state:=.done,pending:=some j })))
       |_,_=>none
      |none=>none
     |false=>none
    |_,_=>none
   |_=>none
  |none=>none
 |_=>none
def yM (G:Γ)(ev:EvC)(t:Tgt)(h:H):Option (V×H):=
 match t with
 |.fn f args=>Hs G ev f args h
 |.yield l args=>oK ev l args h
def yN:LoopState->Bool
 |.busy=>true
 |_=>false
def jg (l:Nat)(env:Env)(defs:List Nat)(h:H):Option (Xx×St):=
 match h.tr.get l with
 |some (.loop lp)=>match yN lp.state with
  |true=>none
  |false=>match lp.pending with
   |none=>some (.normal,⟨env,h.set l (some (.loop { lp with state:=.exhausted })),defs⟩)
   |some .ret=>some (.ret,⟨env,h.set l (some (.loop { lp with state:=.exhausted })),defs⟩)
   |some (.exit id)=>some (.exit id,⟨env,h.set l (some (.loop { lp with state:=.exhausted })),defs⟩)
   |_=>none
 |_=>none
def Ht (G:Γ)(ev:EvC)(f:Operand)(params:Array Tmp)(assign body:Code)(rd:Option Nat)(fn:FuncId)(st:St):Option (Xx×St):=
 match st.env.get f,rd with
 |some (.func (.func g) first captured),none=>
  match uS G ev g (first++[.func (.yield (Nat.succ st.h.next)) [] []]++captured)
   ((st.h.add .deferred).add (.loop ⟨.ready,none,fn,st.env,params.toList,assign,body,st.h.next⟩)) with
  |some (_,h)=>jg (Nat.succ st.h.next) st.env (st.h.next :: st.defs) h
  |none=>none
 |some (.func (.func g) first captured),some l0=>
  match st.h.tr.get l0 with
  |some (.loop lp0)=>
   match uS G ev g (first++[.func (.yield st.h.next) [] []]++captured)
    (st.h.add (.loop ⟨.ready,none,fn,st.env,params.toList,assign,body,lp0.defers⟩)) with
   |some (_,h)=>jg st.h.next st.env st.defs h
   |none=>none
  |_=>none
 |_,_=>none
def evC (G:Γ):Nat->EvC
 |0,_,_,_,_=>none
 |n+1,c,rd,fn,⟨env,h,defs⟩=>
  match c with
  |.skip=>some (.normal,⟨env,h,defs⟩)
  |.region _ ops draw=>
   match draw with
   |false=>match xn G (yM G (evC G n)) ops ops.toList env h with
    |some (env',h')=>some (.normal,⟨env',h',defs⟩)
    |none=>none
   |true=>match Qg G (yM G (evC G n)) ops env h with
    |some (env',h')=>some (.normal,⟨env',h',defs⟩)
    |none=>none
  |.seq a b=>match evC G n a rd fn ⟨env,h,defs⟩ with
   |some (.normal,st')=>evC G n b rd fn st'
   |r=>r
  |.cond c a b=>match env.get c with
   |some (.bool true)=>evC G n a rd fn ⟨env,h,defs⟩
   |some (.bool false)=>evC G n b rd fn ⟨env,h,defs⟩
   |_=>none
  |.block id b=>match evC G n b rd fn ⟨env,h,defs⟩ with
   |some (.exit id',st')=>match Nat.beq id' id with
    |true=>some (.normal,st')
    |false=>some (.exit id',st')
   |r=>r
  |.loop b=>match evC G n b rd fn ⟨env,h,defs⟩ with
   |some (.normal,st')=>evC G n (.loop b) rd fn st'
   |r=>r
  |.exit id=>some (.exit id,⟨env,h,defs⟩)
  |.ret=>some (.ret,⟨env,h,defs⟩)
  |.rangeFunc f params assign body=>Ht G (evC G n) f params assign body rd fn ⟨env,h,defs⟩
  |_=>none
def evT (G:Γ)(n:Nat)(f:FuncId)(args:List V)(h:H):Option (V×H):=uS G (evC G n) f args h
end
end Go.Ev
namespace Go.Ev
def HT (op:Op):List Operand:=
 match op with
 |.move x=>[x]
 |.assign x=>[x]
 |.pick c a b=>[c,a,b]
 |.box _ x=>[x]
 |.build _ ps=>ps.toList.map (·.2)
 |.buildSlice _ _ ps=>ps.toList.map (·.2)
 |.insert _ m k x=>[m,k,x]
 |.load _ a=>[a]
 |.store _ a x=>[a,x]
 |.nilCheck x=>[x]
 |.binOp _ _ x y _=>[x,y]
 |.unOp _ _ x=>[x]
 |.convert _ _ x=>[x]
 |.makeInterface _ x=>[x]
 |.makeFunc _ a b=>a.toList++b.toList
 |.makeSlice _ l c=>[l,c]
 |.slice _ x lo hi mx=>x :: (lo.toList++hi.toList++mx.toList)
 |.fieldAddr _ x _=>[x]
 |.field _ x _=>[x]
 |.indexAddr _ x i=>[x,i]
 |.index _ x i=>[x,i]
 |.lookup _ x i _=>[x,i]
 |.mapUpdate _ m k x=>[m,k,x]
 |.mapEntry _ m k=>[m,k]
 |.entryStore _ m st x=>[m,st,x]
 |.range _ x=>[x]
 |.next it _=>[it]
 |.entry it=>[it]
 |.typeAssert x _ _ _=>[x]
 |.extract t _=>[t]
 |.call c=>(match c.callee with
  |.value f=>[f]
  |.invoke r _=>[r]
  |.builtin _=>[])++c.args.toList
 |_=>[]
def mj (t:Tmp):List Oper->Nat->Option Nat
 |[],_=>none
 |o :: l,i=>match o.dst with
  |some d=>match Nat.beq d t with
   |true=>some i
   |false=>mj t l (Nat.succ i)
  |none=>mj t l (Nat.succ i)
def zal:List Oper->Bool
 |[]=>true
 |o :: l=>(match o.dst with
  |some d=>match mj d l 0 with
   |none=>true
   |some _=>false
  |none=>true)&&zal l
def Qv (as:List (Oper×Nat))(ops:List Oper)(m i:Nat)(t:Tmp):Bool:=
 match mj t ops 0 with
 |none=>true
 |some j=>bit m j || Nat.beq j i || (match nth as j with
  |some p=>bit p.2 i
  |none=>false)
def Oy (as:List (Oper×Nat))(ops:List Oper)(o:Oper)(m i:Nat):Bool:=
 o.after.toList.all (fun e=>match Region.binds .any e with
  |true=>Nat.blt e.on i
  |false=>true) &&
 (HT o.op).all (fun x=>match x with
   |.tmp t=>Qv as ops m i t
   |_=>true) &&
 (match o.guard with
   |none=>true
   |some (j,_)=>bit m j)
def zam (as:List (Oper×Nat))(ops:List Oper):List (Oper×Nat)->Nat->Bool
 |[],_=>true
 |p :: l,i=>Oy as ops p.1 p.2 i&&zam as ops l (Nat.succ i)
noncomputable def kV (ops:Array Oper):Bool:=zal ops.toList&&zam (nW ops.toList 0 .leaf) ops.toList (nW ops.toList 0 .leaf) 0
noncomputable def okC:Code->Bool
 |.region _ ops draw=>match draw with
  |true=>kV ops
  |false=>true
 |.seq a b=>okC a&&okC b
 |.cond _ a b=>okC a&&okC b
 |.block _ b=>okC b
 |.loop b=>okC b
 |.rangeFunc _ _ assign body=>okC assign&&okC body
 |_=>true
variable {n m:Nat}
namespace T
variable {α U:Type}
theorem beq_true:(Nat.beq n m=true)↔n=m:=by simp
theorem beq_false (h:n≠m):Nat.beq n m=false:=by
 cases hb:Nat.beq n m;·rfl
 .exact absurd (beq_true.1 hb) h
theorem eR (n:Nat):(T.leaf:T α).get n=none:=rfl
theorem half (h:n≠0):(n % 2=1->(n - 1) % 2≠1/\(n - 1) / 2=n / 2)/\(n % 2≠1->(n - 1) % 2=1/\(n - 1) / 2=n / 2 - 1):=by omega
theorem pick {E:Type}(x y:E)(m:Nat):(Bool.rec (motive:=fun _=>E) x y (Nat.beq (Nat.mod m 2) 1):E)=if m % 2=1 then y else x:=by
 by_cases h:m % 2=1;·have e:Nat.beq (Nat.mod m 2) 1=true:=beq_true.2 h;rw[e,if_pos h]
 .have e:Nat.beq (Nat.mod m 2) 1=false:=beq_false h;rw[e,if_neg h]
theorem ld (l r:T α)(v:Option α)(n:Nat):
  (T.node l v r).get n=if n=0 then v else if n % 2=1 then l.get (n / 2) else r.get (n / 2 - 1):=by
 cases n with
 |zero=>rfl
 |succ m=>
  have e:(T.node l v r).get (m+1)=(Bool.rec (motive:=fun _=>Option α) (l.get (Nat.div m 2)) (r.get (Nat.div m 2)) (Nat.beq (Nat.mod m 2) 1)):=rfl;rw[e,pick,if_neg (cU m)];obtain⟨h1,h2⟩:=half (cU m);simp only[Nat.succ_eq_add_one,Nat.add_sub_cancel] at h1 h2;by_cases h:(m+1) % 2=1;·rw[if_pos h,if_neg (h1 h).1,<- (h1 h).2];rfl
  .rw[if_neg h,if_pos (h2 h).1,<- (h2 h).2];rfl
theorem Ka (x:Option α)(f:Nat)(t:T α)(n:Nat):
  set x (f+1) t n=match t with
   |.leaf=>if n=0 then .node .leaf x .leaf else if n % 2=1 then .node (set x f .leaf (n / 2)) none .leaf else .node .leaf none (set x f .leaf (n / 2 - 1))
   |.node l v r=>if n=0 then .node l x r else if n % 2=1 then .node (set x f l (n / 2)) v r else .node l v (set x f r (n / 2 - 1)):=by
 cases n with
 |zero=>cases t<;>rfl
 |succ m=>
  obtain⟨h1,h2⟩:=half (cU m);simp only[Nat.succ_eq_add_one,Nat.add_sub_cancel] at h1 h2;cases t with
  |leaf=>
   have e:set x (f+1) (.leaf:T α) (m+1)=(Bool.rec (motive:=fun _=>T α) (.node (set x f .leaf (Nat.div m 2)) none .leaf) (.node .leaf none (set x f .leaf (Nat.div m 2))) (Nat.beq (Nat.mod m 2) 1)):=rfl;rw[e,pick];simp only[if_neg (cU m)];by_cases h:(m+1) % 2=1;·rw[if_pos h,if_neg (h1 h).1,<- (h1 h).2];rfl
   .rw[if_neg h,if_pos (h2 h).1,<- (h2 h).2];rfl
  |node l v r=>
   have e:set x (f+1) (.node l v r) (m+1)=(Bool.rec (motive:=fun _=>T α) (.node (set x f l (Nat.div m 2)) v r) (.node l v (set x f r (Nat.div m 2))) (Nat.beq (Nat.mod m 2) 1)):=rfl;rw[e,pick];simp only[if_neg (cU m)];by_cases h:(m+1) % 2=1;·rw[if_pos h,if_neg (h1 h).1,<- (h1 h).2];rfl
   .rw[if_neg h,if_pos (h2 h).1,<- (h2 h).2];rfl
theorem NJ (x:Option α):∀ (f:Nat) (t:T α) (n m:Nat),n<f->(set x f t n).get m=if m=n then x else t.get m:=by
 intro f;induction f with
 |zero=>intro t n m h;omega
 |succ f ih=>
  intro t n m hf;rw[Ka];cases t with
  |leaf=>
   simp only[];by_cases h:n=0;·subst h;simp only[if_true,ld,eR];by_cases hm:m=0<;>simp[hm]
   .simp only[h,if_false];by_cases h2:n % 2=1
    .simp only[h2,if_true,ld];rw[ih _ _ _ (by omega)];by_cases hm:m=0;·subst hm;simp[eR];omega
     .simp only[hm,if_false,eR];by_cases hm2:m % 2=1
      .simp only[hm2,if_true];by_cases e:m / 2=n / 2;·simp[show m=n by omega]
       .have:m≠n:=fun h=>e (by rw[h]);simp[e,this]
      .have:m≠n:=fun h=>hm2 (by rw[h];exact h2);simp[hm2,this]
    .simp only[h2,if_false,ld];rw[ih _ _ _ (by omega)];by_cases hm:m=0;·subst hm;simp[eR];omega
     .simp only[hm,if_false,eR];by_cases hm2:m % 2=1;·have:m≠n:=fun h=>h2 (by rw[<- h];exact hm2);simp[hm2,this]
      .simp only[hm2,if_false];by_cases e:m / 2 - 1=n / 2 - 1;·simp[show m=n by omega]
       .have:m≠n:=fun h=>e (by rw[h]);simp[e,this]
  |node l v r=>
   simp only[];by_cases h:n=0;·subst h;simp only[if_true,ld];by_cases hm:m=0<;>simp[hm]
   .simp only[h,if_false];by_cases h2:n % 2=1
    .simp only[h2,if_true,ld];rw[ih _ _ _ (by omega)];by_cases hm:m=0;·subst hm;simp;omega
     .simp only[hm,if_false];by_cases hm2:m % 2=1
      .simp only[hm2,if_true];by_cases e:m / 2=n / 2;·simp[show m=n by omega]
       .have:m≠n:=fun h=>e (by rw[h]);simp[e,this]
      .have:m≠n:=fun h=>hm2 (by rw[h];exact h2);simp[hm2,this]
    .simp only[h2,if_false,ld];rw[ih _ _ _ (by omega)];by_cases hm:m=0;·subst hm;simp;omega
     .simp only[hm,if_false];by_cases hm2:m % 2=1;·have:m≠n:=fun h=>h2 (by rw[<- h];exact hm2);simp[hm2,this]
      .simp only[hm2,if_false];by_cases e:m / 2 - 1=n / 2 - 1;·simp[show m=n by omega]
       .have:m≠n:=fun h=>e (by rw[h]);simp[e,this]
theorem eL (t:T α)(n m:Nat)(x:Option α):(t.put n x).get m=if m=n then x else t.get m:=
 NJ x (Nat.succ n) t n m (cF n)
theorem zab (t:T α)(n:Nat)(x:Option α):(t.put n x).get n=x:=by rw[eL];simp
theorem ia (t:T α)(x:Option α)(h:m≠n):(t.put n x).get m=t.get m:=by rw[eL];simp[h]
theorem vp:∀ (l:List α),(∀ i,(yG l)[i]?=l[2 * i]?)/\(∀ i,(Lg l)[i]?=l[2 * i+1]?):=by
 intro l;induction l with
 |nil=>simp[yG,Lg]
 |cons x l ih=>
  obtain⟨h1,h2⟩:=ih;refine⟨fun i=>?_,fun i=>?_⟩
  .simp only[yG];cases i with
   |zero=>simp
   |succ i=>rw[aQ,h2,show 2 * (i+1)=(2 * i+1)+1 by omega,aQ]
  .simp only[Lg,h1];rw[aQ]
theorem pU:∀ (l:List α),(yG l).length<=l.length/\(Lg l).length<=l.length:=by
 intro l;induction l with
 |nil=>simp[yG,Lg]
 |cons x l ih=>simp only[yG,Lg,aU];omega
theorem kA (f:α->Option U):∀ (n:Nat) (l:List α) (i:Nat),l.length<=n->(ofList f n l).get i=(l[i]?).bind f:=by
 intro n;induction n with
 |zero=>intro l i h;have:l=[]:=aO.1 (by omega);subst this;simp[ofList,eR]
 |succ n ih=>
  intro l i h;cases l with
  |nil=>simp[ofList,eR]
  |cons x l=>
   have hl:=pU l;simp only[aU] at h;simp only[ofList,ld];by_cases h0:i=0;·simp[h0]
   .simp only[h0,if_false];by_cases h2:i % 2=1;·simp only[h2,if_true];rw[ih _ _ (by omega),(vp l).1];rw[show i=2 * (i / 2)+1 by omega,aQ];congr 2;omega
    .simp only[h2,if_false];rw[ih _ _ (by omega),(vp l).2];rw[show i=(2 * (i / 2 - 1)+1)+1 by omega,aQ];congr 2;omega
end T
theorem jb {α:Type}:∀ (l:List α) (n:Nat),nth l n=l[n]?
 |[],_=>by simp[nth]
 |x :: l,0=>by simp[nth]
 |x :: l,n+1=>by simp[nth,jb l n]
theorem iL {α:Type}:∀ (n:Nat) (l r:List α),takeN n l=some r->r=l.take n/\n<=l.length
 |0,l,r,h=>by simp[takeN] at h;simp[<- h]
 |n+1,[],r,h=>by simp[takeN] at h
 |n+1,x :: l,r,h=>by
  simp only[takeN] at h;split at h;·rename_i r' h';obtain⟨rfl,h2⟩:=iL n l r' h';simp at h;subst h;simp;omega
  .simp at h
theorem iM {α:Type}:∀ (n:Nat) (l:List α),mM n l=l.drop n
 |0,l=>by simp[mM]
 |n+1,[]=>by simp[mM]
 |n+1,x :: l=>by simp[mM,iM n l]
theorem fQ {α U:Type}{f:α->Option U}:∀ {l:List α} {r:List U},eX f l=some r->r.length=l.length/\∀ (i:Nat) (a:α) (b:U),l[i]?=some a->r[i]?=some b->f a=some b
 |[],r,h=>by simp[eX] at h;subst h;simp
 |a :: l,r,h=>by
  simp only[eX] at h;split at h
  .rename_i b hb;split at h
   .rename_i r' h';obtain⟨h1,h2⟩:=fQ h';simp at h;subst h;refine⟨by simp[h1],fun i a' b' ha hb'=>?_⟩;cases i with
    |zero=>simp at ha hb';subst ha;subst hb';exact hb
    |succ i=>simp at ha hb';exact h2 i _ _ ha hb'
   .simp at h
  .simp at h
theorem lj (a b:Int):ilt a b=decide (a<b):=by
 cases a<;>cases b<;>simp only[ilt];·rename_i a b;rw[bU,decide_eq_true_iff];simp only[cZ];simp only[aN];omega
 .simp;omega
 .simp;omega
 .rename_i a b;rw[bU,decide_eq_true_iff];simp only[cZ];omega
theorem kC (a b:Int):ieq a b=decide (a=b):=by
 cases a<;>cases b<;>simp only[ieq];·rename_i a b;rw[bU,decide_eq_true_iff,T.beq_true];simp only[aN];omega
 .simp
 .simp
 .rename_i a b;rw[bU,decide_eq_true_iff,T.beq_true];omega
theorem idx_eq {i:Int}{k:Nat}(h:idx i n=some k):i=k/\k<n:=by
 cases i with
 |ofNat m=>
  simp only[idx] at h;split at h;·rename_i hb;simp only[cZ] at hb;simp at h;subst h;exact⟨rfl,hb⟩
  .simp at h
 |negSucc m=>simp[idx] at h
end Go.Ev
namespace Go.Ev
variable {b B x:Nat}{L:Nat×Nat×Nat}{v:V}{c:Value}{vs:List V}{cs:List Value}{os:List O}{w w':World}{own:Nat->Prop}{h h':H}{o o':O}
structure Ren where
 loc:Nat->Option (Nat×Nat×Nat)
 own:Nat->Nat->Prop
instance : CoeFun Ren (fun _=>Nat->Option (Nat×Nat×Nat)):=⟨Ren.loc⟩
def H6:Ren:=⟨fun _=>none,fun _ _=>False⟩
def Ren.fp (Y:Ren)(b B:Nat):Prop:=(∃ L,Y b=some L/\L.1=B)\/Y.own b B
theorem Ren.uo {Y:Ren}(h:Y b=some L):Y.fp b L.1:=.inl ⟨L,h,rfl⟩
theorem Ren.Ep {Y:Ren}(h:Y b=some L)(e:L.1=B):Y.fp b B:=.inl ⟨L,h,e⟩
theorem Ren.zq {Y Y':Ren}{b':Nat}(h:Y' b'=Y b)(ho:Y'.own b'=Y.own b):Y'.fp b'=Y.fp b:=by unfold Ren.fp;rw[h,ho]
def Ren.le (Y Y':Ren):Prop:=∀ b L,Y b=some L->Y' b=some L
theorem Ren.le.trans {a b c:Ren}(h:Ren.le a b)(k:Ren.le b c):Ren.le a c:=fun x L hx=>k x L (h x L hx)
def one:Value->Bool
 |.agg _=>false
 |.tuple _=>false
 |_=>true
inductive Rel (Y:Ren):V->Value->Prop
 |bool (b:Bool):Rel Y (.bool b) (.bool b)
 |int (k:IntKind) (n:Int):Rel Y (.int k n) (.int k n)
 |str (s:List UInt8):Rel Y (.str s) (.string ⟨s.toArray⟩)
 |nilp:Rel Y .nilp (.pointer none)
 |ptr {b o B d z:Nat} (h:Y b=some (B,d,z)):Rel Y (.ptr b o) (.pointer (some ⟨B,d+o,none⟩))
 |nils:Rel Y .nils (.slice none 0 0)
 |sliceK {b o len c B d z:Nat} (h:Y b=some (B,d,z)):Rel Y (.slice b o len (.known c)) (.slice (some ⟨B,d+o,none⟩) len c)
 |sliceA {b o len m es k B d z:Nat} (h:Y b=some (B,d,z)) (hm:m<=k) (hz:d+o+k * es<=z):Rel Y (.slice b o len (.atl m es)) (.slice (some ⟨B,d+o,none⟩) len k)
 |sliceZ {b o es:Nat} (a:Addr):Rel Y (.slice b o 0 (.atl 0 es)) (.slice (some a) 0 0)
 |nilm:Rel Y .nilm (.map none)
 |map {r B d z:Nat} (h:Y r=some (B,d,z)):Rel Y (.map r) (.map (some B))
 |func (f:FuncId) {first captured:List V} {a b:Array Value} (h1:a.size=first.length) (h2:b.size=captured.length)
   (h3:∀ (i:Nat) (v:V) (x:Value),first[i]?=some v->a[i]?=some x->Rel Y v x)(h4:∀ (i:Nat) (v:V) (x:Value),captured[i]?=some v->b[i]?=some x->Rel Y v x):
   Rel Y (.func (.func f) first captured) (.func (.func f) a b)
 |yield {l B d z:Nat} (h:Y l=some (B,d,z)):Rel Y (.func (.yield l) [] []) (.func (.yield B) #[] #[])
 |nilf:Rel Y .nilf .nilFunc
 |iface (t:TypeId) {v:V} {x:Value} (h:Rel Y v x):Rel Y (.iface t v) (.iface t x)
 |nili:Rel Y .nili .nilIface
 |agg {n:Nat} {pat:List V} {tr:T V} {cs:Array Value} (h1:cs.size=n) (h2:∀ (i:Nat) (x:Value),cs[i]?=some x->one x=true)
   (h3:∀ (i:Nat) (v:V) (x:Value),cell n pat tr i=some v->cs[i]?=some x->Rel Y v x):Rel Y (.agg n pat tr) (.agg cs)
 |tuple {vs:List V} {cs:Array Value} (h1:cs.size=vs.length) (h2:∀ (i:Nat) (v:V) (x:Value),vs[i]?=some v->cs[i]?=some x->Rel Y v x):Rel Y (.tuple vs) (.tuple cs)
theorem Rel.mono {Y Y':Ren}(hle:Y.le Y')(h:Rel Y v c):Rel Y' v c:=by
 induction h with
 |bool b=>exact .bool b
 |int k n=>exact .int k n
 |str s=>exact .str s
 |nilp=>exact .nilp
 |ptr h=>exact .ptr (hle _ _ h)
 |nils=>exact .nils
 |sliceK h=>exact .sliceK (hle _ _ h)
 |sliceA h hm hz=>exact .sliceA (hle _ _ h) hm hz
 |sliceZ a=>exact .sliceZ a
 |nilm=>exact .nilm
 |map h=>exact .map (hle _ _ h)
 |func f h1 h2 _ _ i3 i4=>exact .func f h1 h2 i3 i4
 |yield h=>exact .yield (hle _ _ h)
 |nilf=>exact .nilf
 |iface t _ ih=>exact .iface t ih
 |nili=>exact .nili
 |agg h1 h2 _ ih=>exact .agg h1 h2 ih
 |tuple h1 _ ih=>exact .tuple h1 ih
theorem Rel.wX {Y:Ren}(h:Rel Y v c)(hs:v.scalar=true):one c=true:=by cases h<;>simp_all [V.scalar,one]
theorem Rel.cells {Y:Ren}{v:V}{c:Value}(h:Rel Y v c)(hs:v.scalar=true):c.cells = #[c]:=by cases h<;>simp_all [V.scalar,Value.cells]
def fH (Y:Ren)(vs:List V)(cs:List Value):Prop:=cs.length=vs.length/\∀ (i:Nat) (v:V) (x:Value),vs[i]?=some v->cs[i]?=some x->Rel Y v x
theorem fH.nil {Y:Ren}:fH Y [] []:=⟨rfl,fun i v x h=>by simp at h⟩
theorem fH.cons {Y:Ren}{v:V}{c:Value}{vs:List V}{cs:List Value}(h:Rel Y v c)(hs:fH Y vs cs):fH Y (v :: vs) (c :: cs):=by
 refine⟨by simp[hs.1],fun i v' x h1 h2=>?_⟩;cases i with
 |zero=>simp at h1 h2;subst h1;subst h2;exact h
 |succ i=>simp at h1 h2;exact hs.2 i _ _ h1 h2
theorem fH.head {Y:Ren}(h:fH Y (v :: vs) (c :: cs)):Rel Y v c:=h.2 0 _ _ rfl rfl
theorem fH.tail {Y:Ren}(h:fH Y (v :: vs) (c :: cs)):fH Y vs cs:=
 ⟨by simpa using h.1,fun i v' x h1 h2=>h.2 (i+1) _ _ (by simpa using h1) (by simpa using h2)⟩
theorem fH.zaa {Y:Ren}(h:fH Y (v :: vs) cs):∃ c cs',cs=c :: cs'/\Rel Y v c/\fH Y vs cs':=by
 cases cs with
 |nil=>have:=h.1;simp at this
 |cons c cs=>exact⟨c,cs,rfl,h.head,h.tail⟩
theorem fH.of_nil {Y:Ren}(h:fH Y [] cs):cs=[]:=aO.1 h.1
theorem fH.append {Y:Ren}:∀ {vs us:List V} {cs ds:List Value},fH Y vs cs->fH Y us ds->fH Y (vs++us) (cs++ds)
 |[],us,cs,ds,h,k=>by rw[h.of_nil];exact k
 |v :: vs,us,cs,ds,h,k=>by obtain⟨c,cs',rfl,h1,h2⟩:=h.zaa;exact(h2.append k).cons h1
theorem fH.get {Y:Ren}(h:fH Y vs cs){i:Nat}(hv:vs[i]?=some v):∃ x,cs[i]?=some x/\Rel Y v x:=by
 have hl:i<cs.length:=by have:=(ai.1 hv).1;have:=h.1;omega
 exact⟨cs[i],ah hl,h.2 i v _ hv (ah hl)⟩
def iU (Y:Ren)(env:Env)(tmps:Array Value):Prop:=env.sz<=tmps.size/\∀ t v,env.tr.get t=some v->∃ c,tmps[t]?=some c/\Rel Y v c
theorem iU.mono {Y Y':Ren}(hle:Y.le Y'){env:Env}{tmps:Array Value}(h:iU Y env tmps):iU Y' env tmps:=
 ⟨h.1,fun t v hv=>let ⟨c,a,b⟩:=h.2 t v hv;⟨c,a,b.mono hle⟩⟩
def ED (Y:Ren)(n:Nat)(pat:List V)(tr:T V)(cs:Array Value)(d:Nat):Prop:=
 (∀ (i:Nat) (x:Value),i<n->cs[d+i]?=some x->one x=true)/\∀ (i:Nat) (v:V) (x:Value),cell n pat tr i=some v->cs[d+i]?=some x->Rel Y v x
def jD (Y:Ren):O->(Nat×Nat×Nat)->Obj->Prop
 |.cells e n pat tr,L,c=>∃ cs el lo hi,c=.cells cs el (lo,hi)/\cs.size=L.2.2/\L.2.1+n<=L.2.2/\(∀ i,i<L.2.2->¬ (lo<=i/\i<hi))/\(∀ e',e=some e'->el=e'/\L.2.1=0)/\ED Y n pat tr cs L.2.1
 |.ro e n pat tr,L,c=>∃ cs el fr,c=.cells cs el fr/\cs.size=L.2.2/\L.2.1+n<=L.2.2/\(∀ e',e=some e'->L.2.1=0/\L.2.2=n)/\ED Y n pat tr cs L.2.1
 |.map es clock,_,c=>∃ es':Array MapEntry,c=.map es' clock/\es'.size=es.length/\∀ (i:Nat) (e:V×V×Nat) (e':MapEntry),es[i]?=some e->es'[i]?=some e'->Rel Y e.1 e'.key/\Rel Y e.2.1 e'.val/\e'.born=e.2.2
 |.strIter s pos,L,c=>L.2.1=0/\c=.stringIter ⟨s.toArray⟩ pos
 |.mapIter m since seen stepped,L,c=>L.2.1=0/\∃ m',c=.mapIter m' since seen.reverse.toArray stepped/\((m=none/\m'=none)\/∃ r B d z,m=some r/\Y r=some (B,d,z)/\m'=some B)
 |.loop lp,_,c=>∃ l':Loop,c=.loop l'/\l'.state=lp.state/\l'.pending=lp.pending/\l'.params.toList=lp.params/\l'.assign=lp.assign/\l'.body=lp.body/\iU Y lp.tmps l'.tmps/\okC lp.assign=true/\okC lp.body=true
 |.deferred,_,c=>c=.deferred (some [])
 |.ghost _,_,_=>True
theorem ED.mono {Y Y':Ren}(hle:Y.le Y'){n:Nat}{pat:List V}{tr:T V}{cs:Array Value}{d:Nat}(h:ED Y n pat tr cs d):ED Y' n pat tr cs d:=
 ⟨h.1,fun i v x a b=>(h.2 i v x a b).mono hle⟩
theorem jD.mono {Y Y':Ren}(hle:Y.le Y'){o:O}{L:Nat×Nat×Nat}{c:Obj}(h:jD Y o L c):jD Y' o L c:=by
 cases o with
 |cells e n pat tr=>obtain⟨cs,el,lo,hi,h1,h2,h3,h4,h5,h6⟩:=h;exact⟨cs,el,lo,hi,h1,h2,h3,h4,h5,h6.mono hle⟩
 |ro e n pat tr=>obtain⟨cs,el,fr,h1,h2,h3,h5,h6⟩:=h;exact⟨cs,el,fr,h1,h2,h3,h5,h6.mono hle⟩
 |map es clock=>obtain⟨es',h1,h2,h3⟩:=h;exact⟨es',h1,h2,fun i e e' a b=>let ⟨x,y,z⟩:=h3 i e e' a b;⟨x.mono hle,y.mono hle,z⟩⟩
 |strIter s pos=>exact h
 |mapIter m since seen stepped=>obtain⟨h0,m',h1,h2⟩:=h;exact⟨h0,m',h1,h2.imp id fun⟨r,B,d,z,a,b,c⟩=>⟨r,B,d,z,a,hle _ _ b,c⟩⟩
 |loop lp=>obtain⟨l',h1,h2,h3,h5,h6,h7,h8,h9⟩:=h;exact⟨l',h1,h2,h3,h5,h6,h7,h8.mono hle,h9⟩
 |deferred=>exact h
 |ghost os=>trivial
def ND (Y:Ren):Prop:=∀ g,g<1000->∃ z,Y g=some (g,0,z)
theorem ND.mono {Y Y':Ren}(hle:Y.le Y')(h:ND Y):ND Y':=fun g hg=>let ⟨z,hz⟩:=h g hg;⟨z,hle _ _ hz⟩
def O.rw:O->Bool
 |.ro ..=>false
 |_=>true
def qB:List O->Bool
 |.ro _ _ _ _ :: _=>true
 |_=>false
structure Qx (t:TypeId)(n:Nat)(es:List (V×V×Nat))(clock:Nat)(rows:List O):Prop where
 few:es.length<=n
 fewR:rows.length<=n
 row:∀ o,o∈rows->∃ L:List V,o=.cells (some t) L.length L .leaf/\(∀ v,v∈L->∃ z:Int,v=.int .i64 z/\-9223372036854775808<=z/\z<=9223372036854775807)/\L.length<=n
 key:∀ e,e∈es->∃ x y z:Int,e.1=.agg 3 [.int .i64 x,.int .i64 y,.int .u32 z] .leaf/\(-9223372036854775808<=x/\x<=9223372036854775807)/\(-9223372036854775808<=y/\y<=9223372036854775807)/\0<=z/\z<=4294967295
 born:∀ e,e∈es->e.2.2<clock
 val:∀ e,e∈es->∃ (j:Nat) (L:List V),e.2.1=.slice (1002+j) 0 L.length (.atl L.length 1)/\rows[j]?=some (.cells (some t) L.length L .leaf)/\0<L.length
 stamps:(es.map (·.2.2)).Nodup
 apart:(es.map (·.2.1)).Nodup
inductive vn:List O->List O->Prop
 |rowsM {t:TypeId} {n:Nat} {es:List (V×V×Nat)} {clock:Nat} {rows:List O} (h:Qx t n es clock rows):vn [.ro (some t) n [] .leaf] (.map es clock :: rows)
inductive Gh (w:World):List O->(Nat×Nat×Nat)->(Nat->Prop)->Prop
 |Ls {os os':List O} {L:Nat×Nat×Nat} {own:Nat->Prop} (h:vn os os') (g:Gh w os' L own):Gh w os L own
 |mk {os:List O} {L:Nat×Nat×Nat} {own:Nat->Prop} (Y:Ren) (nc:qB os=false) (glob:ND Y) (dom:∀ b L,Y b=some L->b<(pK os).next)
   (live:∀ b o,(pK os).tr.get b=some o->∃ L c,Y b=some L/\w.heap[L.1]?=some c/\jD Y o L c)
   (inj:∀ b b' o o' B,(pK os).tr.get b=some o->(pK os).tr.get b'=some o'->(o.rw=true\/o'.rw=true)->Y.fp b B->Y.fp b' B->b=b')
   (ownlt:∀ b o B,(pK os).tr.get b=some o->Y.own b B->B<w.heap.size)
   (root:Y 1001=some L)(img:∀ B,own B↔∃ b o,(pK os).tr.get b=some o/\Y.fp b B)
   (sub:∀ b os' L',(pK os).tr.get b=some (.ghost os')->Y b=some L'->Gh w os' L' (Y.own b)):Gh w os L own
structure Sim (Y:Ren)(h:H)(w:World):Prop where
 glob:ND Y
 dom:∀ b L,Y b=some L->b<h.next
 live:∀ b o,h.tr.get b=some o->∃ L c,Y b=some L/\w.heap[L.1]?=some c/\jD Y o L c
 inj:∀ b b' o o' B,h.tr.get b=some o->h.tr.get b'=some o'->(o.rw=true\/o'.rw=true)->Y.fp b B->Y.fp b' B->b=b'
 ownlt:∀ b o B,h.tr.get b=some o->Y.own b B->B<w.heap.size
 gho:∀ b os L,h.tr.get b=some (.ghost os)->Y b=some L->Gh w os L (Y.own b)
theorem vn.Ls {os':List O}(h:vn os os'):qB os=true:=by cases h;rfl
theorem Gh.Ti (g:Gh w os L own)(nc:qB os=false):∃ Y,Sim Y (pK os) w/\Y 1001=some L/\∀ B,own B↔∃ b o,(pK os).tr.get b=some o/\Y.fp b B:=by
 cases g with
 |Ls h _=>rw[h.Ls] at nc;cases nc
 |mk Y _ h1 h2 h3 h4 h5 h6 h7 h8=>exact⟨Y,⟨h1,h2,h3,h4,h5,h8⟩,h6,h7⟩
theorem Gh.hidden (g:Gh w os L own)(c:qB os=true):∃ os',vn os os'/\Gh w os' L own:=by
 cases g with
 |Ls h g=>exact⟨_,h,g⟩
 |mk Y nc=>rw[c] at nc;cases nc
theorem Sim.wY {Y:Ren}(s:Sim Y h w)(hb:h.tr.get b=some o)(hf:Y.fp b B):B<w.heap.size:=by
 rcases hf with⟨L,h1,rfl⟩|hf;·obtain⟨L',c,h2,h3,_⟩:=s.live b o hb;rw[h1] at h2;cases h2;exact(aD.1 h3).1
 .exact s.ownlt b o B hb hf
theorem Gh.lt (g:Gh w os L own)(hB:own B):B<w.heap.size:=by
 induction g with
 |Ls _ _ ih=>exact ih hB
 |mk Y nc h1 h2 h3 h4 h5 h6 h7 h8=>obtain⟨b,o,hb,hf⟩:=(h7 B).1 hB;exact(Sim.mk h1 h2 h3 h4 h5 h8).wY hb hf
theorem Gh.frame (g:Gh w os L own)(h:∀ B,own B->w'.heap[B]?=w.heap[B]?):Gh w' os L own:=by
 induction g with
 |Ls hc _ ih=>exact .Ls hc (ih h)
 |mk Y nc glob dom live inj ownlt root img sub ih=>
  rename_i os L own;have at':∀ b o,(pK os).tr.get b=some o->∀ B,Y.fp b B->w'.heap[B]?=w.heap[B]?:=fun b o hb B hB=>h B ((img B).2 ⟨b,o,hb,hB⟩);refine .mk Y nc glob dom (fun b o hb=>?_) inj (fun b o B hb hB=>?_) root img (fun b os' L' hb hL=>ih b os' L' hb hL fun B hB=>at' b _ hb B (.inr hB));·obtain⟨L,c,h1,h2,h3⟩:=live b o hb;exact⟨L,c,h1,by rw[at' b o hb L.1 (Ren.uo h1)];exact h2,h3⟩
  .have h1:=at' b o hb B (.inr hB);have h2:=ownlt b o B hb hB;rw[bq h2] at h1;exact(aD.1 h1).1
structure Ext (Y:Ren)(h:H)(w:World)(Y':Ren)(h':H)(w':World):Prop where
 next:h.next<=h'.next
 agree:∀ b,b<h.next->Y' b=Y b
 old:∀ b,b<h.next->h.tr.get b=none->h'.tr.get b=none
 size:w.heap.size<=w'.heap.size
 frame:∀ B,B<w.heap.size->(∀ b o,h.tr.get b=some o->o.rw=true->¬ Y.fp b B)->w'.heap[B]?=w.heap[B]?
 origin:∀ b o B,h'.tr.get b=some o->Y'.fp b B->B<w.heap.size->∃ b0 o0,h.tr.get b0=some o0/\Y.fp b0 B/\(o.rw=true->o0.rw=true)
 tape:w'.tape=w.tape
 os:w'.os=w.os
 output:w'.output=w.output
theorem Ext.refl (Y:Ren)(h:H)(w:World):Ext Y h w Y h w:=
 ⟨aF _,fun _ _=>rfl,fun _ _ q=>q,aF _,fun _ _ _=>rfl,fun b o _ a b' _=>⟨b,o,a,b',id⟩,rfl,rfl,rfl⟩
theorem Ext.le {Y Y':Ren}{h h':H}{w w':World}(hs:Sim Y h w)(e:Ext Y h w Y' h' w'):Y.le Y':=fun b L hb=>by rw[e.agree b (hs.dom b L hb)];exact hb
theorem Ext.trans {Y Y' Y'':Ren}{h'':H}{w'':World}(e:Ext Y h w Y' h' w')(k:Ext Y' h' w' Y'' h'' w''):Ext Y h w Y'' h'' w'' where
 next:=bF e.next k.next
 agree b hb:=by rw[k.agree b (bh hb e.next),e.agree b hb]
 old b hb q:=k.old b (bh hb e.next) (e.old b hb q)
 size:=bF e.size k.size
 frame B hB hn:=by have h1:=e.frame B hB hn;rw[<- h1];refine k.frame B (bh hB e.size) fun b o hb hrw hf=>?_;obtain⟨b0,o0,x,y,u⟩:=e.origin b o B hb hf hB;exact hn b0 o0 x (u hrw) y
 origin b o B hb hf hlt:=by obtain⟨b0,o0,x,y,u⟩:=k.origin b o B hb hf (bh hlt e.size);obtain⟨b1,o1,x',y',u'⟩:=e.origin b0 o0 B x y hlt;exact⟨b1,o1,x',y',fun q=>u' (u q)⟩
 tape:=by rw[k.tape,e.tape]
 os:=by rw[k.os,e.os]
 output:=by rw[k.output,e.output]
theorem Sim.lt {Y:Ren}(hs:Sim Y h w)(hb:h.tr.get b=some o)(hL:Y b=some L):L.1<w.heap.size:=hs.wY hb (Ren.uo hL)
theorem Sim.Vc {Y:Ren}(hs:Sim Y h w){b':Nat}{L':Nat×Nat×Nat}(h1:h.tr.get b=some o)(h2:h.tr.get b'=some o')(hrw:o.rw=true\/o'.rw=true)(h3:Y b=some L)(h4:Y b'=some L')(e:L.1=L'.1):b=b':=
 hs.inj b b' o o' L'.1 h1 h2 hrw (Ren.Ep h3 e) (Ren.uo h4)
theorem Sim.sub {Y:Ren}(hs:Sim Y h w)(hn:h.next<=h'.next)(hsub:∀ b o,h'.tr.get b=some o->h.tr.get b=some o):Sim Y h' w where
 glob:=hs.glob
 dom b L hL:=bh (hs.dom b L hL) hn
 live b o hb:=hs.live b o (hsub b o hb)
 inj b b' o o' B hb hb':=hs.inj b b' o o' B (hsub b o hb) (hsub b' o' hb')
 ownlt b o B hb:=hs.ownlt b o B (hsub b o hb)
 gho b os L hb:=hs.gho b os L (hsub b _ hb)
@[simp] theorem H.J7 (h:H)(b:Nat)(o:Option O):(h.set b o).next=h.next:=rfl
@[simp] theorem H.gj (h:H)(b:Nat)(o:Option O)(b':Nat):(h.set b o).tr.get b'=if b'=b then o else h.tr.get b':=T.eL _ _ _ _
@[simp] theorem H.Q9 (h:H)(o:O):(h.add o).next=h.next+1:=rfl
@[simp] theorem H.add_get (h:H)(o:O)(b':Nat):(h.add o).tr.get b'=if b'=h.next then some o else h.tr.get b':=T.eL _ _ _ _
theorem Sim.set {Y:Ren}{h:H}{w w':World}(hs:Sim Y h w){b:Nat}{o o':O}{L:Nat×Nat×Nat}{c':Obj}(hb:h.tr.get b=some o)(hL:Y b=some L)
  (hw:w'.heap[L.1]?=some c')(ho:jD Y o' L c')(hother:∀ B,B≠L.1->w'.heap[B]?=w.heap[B]?)(hg:o'.isG=false)(hrw:o.rw=true):Sim Y (h.set b (some o')) w':=by
 have old:∀ x ox,(h.set b (some o')).tr.get x=some ox->∃ o,h.tr.get x=some o/\(x≠b->o=ox):=fun x ox hx=>by
  simp only[H.gj] at hx;split at hx;·rename_i e;subst e;exact⟨o,hb,fun h=>absurd rfl h⟩
  .exact⟨ox,hx,fun _=>rfl⟩
 have ne:∀ x ox B,h.tr.get x=some ox->x≠b->Y.fp x B->B≠L.1:=fun x ox B hx e hf q=>e (hs.inj x b ox o L.1 hx hb (.inr hrw) (by rw[<- q];exact hf) (Ren.uo hL));refine⟨hs.glob,hs.dom,fun x ox hx=>?_,fun x y ox oy B hx hy hq=>?_,fun x ox B hx hB=>?_,fun x os Lx hx hLx=>?_⟩
 .simp only[H.gj] at hx;split at hx;·rename_i e;subst e;cases hx;exact⟨L,c',hL,hw,ho⟩
  .rename_i e;obtain⟨Lx,cx,h1,h2,h3⟩:=hs.live x ox hx;exact⟨Lx,cx,h1,by rw[hother Lx.1 (ne x ox _ hx e (Ren.uo h1))];exact h2,h3⟩
 .obtain⟨ox',gx,ix⟩:=old x ox hx;obtain⟨oy',gy,iy⟩:=old y oy hy;have rw':∀ z oz oz',h.tr.get z=some oz'->(z≠b->oz'=oz)->oz.rw=true->oz'.rw=true:=fun z oz oz' g i r=>by
   by_cases e:z=b;·subst e;rw[hb] at g;cases g;exact hrw
   .rw[i e];exact r
  exact hs.inj x y ox' oy' B gx gy (hq.imp (rw' x ox ox' gx ix) (rw' y oy oy' gy iy))
 .obtain⟨ox',gx,_⟩:=old x ox hx;have h1:=hs.ownlt x ox' B gx hB;by_cases e:B=L.1;·rw[e];exact(aD.1 hw).1
  .have h2:=hother B e;rw[bq h1] at h2;exact(aD.1 h2).1
 .simp only[H.gj] at hx;split at hx;·cases hx;cases hg
  .rename_i e;exact(hs.gho x os Lx hx hLx).frame fun B hB=>hother B (ne x _ B hx e (.inr hB))
theorem Ext.set {Y:Ren}{h:H}{w w':World}{b:Nat}{o o':O}{L:Nat×Nat×Nat}(hb:h.tr.get b=some o)(hL:Y b=some L)(hrw:o.rw=true)
  (hsz:w'.heap.size=w.heap.size)(hother:∀ B,B≠L.1->w'.heap[B]?=w.heap[B]?)(h1:w'.tape=w.tape)(h2:w'.os=w.os)(h3:w'.output=w.output):
  Ext Y h w Y (h.set b (some o')) w' where
 next:=aF _
 agree _ _:=rfl
 old x _ q:=by rw[H.gj,if_neg (fun e=>by rw[e,hb] at q;cases q)];exact q
 size:=by omega
 frame B _ hn:=hother B fun e=>hn b o hb hrw (Ren.Ep hL e.symm)
 origin x ox B hx hf _:=by
  simp only[H.gj] at hx;split at hx;·rename_i e;subst e;exact⟨_,o,hb,hf,fun _=>hrw⟩
  .exact⟨x,ox,hx,hf,id⟩
 tape:=h1
 os:=h2
 output:=h3
def Ren.with (Y:Ren)(b:Nat)(L:Nat×Nat×Nat):Ren:=⟨fun x=>if x=b then some L else Y x,fun x B=>x≠b/\Y.own x B⟩
theorem Ren.fF (Y:Ren)(b:Nat)(L:Nat×Nat×Nat):Y.with b L b=some L:=by simp[Ren.with]
theorem Ren.jX (Y:Ren)(L:Nat×Nat×Nat)(h:x≠b):Y.with b L x=Y x:=by simp[Ren.with,h]
theorem Ren.xb (Y:Ren)(L:Nat×Nat×Nat)(h:x≠b):(Y.with b L).own x=Y.own x:=by simp[Ren.with,h]
theorem Ren.nM (Y:Ren)(L:Nat×Nat×Nat)(h:x≠b):(Y.with b L).fp x=Y.fp x:=Ren.zq (Ren.jX Y L h) (Ren.xb Y L h)
theorem Ren.nN (Y:Ren)(L:Nat×Nat×Nat)(h:(Y.with b L).fp b B):B=L.1:=by
 rcases h with⟨L',h1,rfl⟩|h;·rw[Ren.fF] at h1;cases h1;rfl
 .exact absurd rfl h.1
theorem Ren.gV (Y:Ren)(L:Nat×Nat×Nat)(h:Y b=none):Y.le (Y.with b L):=fun x Lx hx=>by
 by_cases e:x=b;·subst e;rw[h] at hx;cases hx
 .rw[Ren.jX Y L e];exact hx
theorem Sim.fresh {Y:Ren}(hs:Sim Y h w):Y h.next=none:=by
 cases e:Y h.next with
 |none=>rfl
 |some L=>exact absurd (hs.dom _ _ e) (Nat.lt_irrefl _)
theorem Sim.add {Y:Ren}(hs:Sim Y h w){id:Nat}{c':Obj}(hid:Y id=none)(hlt:id<h'.next)(hn:h.next<=h'.next)
  (hget:∀ x,h'.tr.get x=if x=id then some o' else h.tr.get x)(hL:w.heap.size<=L.1)(hw:w'.heap[L.1]?=some c')
  (ho:jD (Y.with id L) o' L c')(hother:∀ B,B<w.heap.size->w'.heap[B]?=w.heap[B]?)(hg:o'.isG=false):Sim (Y.with id L) h' w' where
 glob:=hs.glob.mono (Ren.gV Y L hid)
 dom b Lb hb:=by
  by_cases e:b=id;·subst e;exact hlt
  .rw[Ren.jX Y L e] at hb;exact bh (hs.dom b Lb hb) hn
 live b ob hb:=by
  rw[hget] at hb;split at hb;·rename_i e;subst e;cases hb;exact⟨L,c',Ren.fF ..,hw,ho⟩
  .obtain⟨Lb,cb,h1,h2,h3⟩:=hs.live b ob hb;exact⟨Lb,cb,Ren.gV Y L hid _ _ h1,by rw[hother _ (hs.lt hb h1)];exact h2,h3.mono (Ren.gV Y L hid)⟩
 inj x y ox oy B hx hy hq fx fy:=by
  rw[hget] at hx hy;by_cases ex:x=id<;>by_cases ey:y=id;·rw[ex,ey]
  .subst ex;have:=Y.nN L fx;rw[Ren.nM Y L ey] at fy;rw[if_neg ey] at hy;have:=hs.wY hy fy;omega
  .subst ey;have:=Y.nN L fy;rw[Ren.nM Y L ex] at fx;rw[if_neg ex] at hx;have:=hs.wY hx fx;omega
  .rw[if_neg ex] at hx;rw[if_neg ey] at hy;rw[Ren.nM Y L ex] at fx;rw[Ren.nM Y L ey] at fy;exact hs.inj x y ox oy B hx hy hq fx fy
 ownlt x ox B hx hB:=by rw[hget] at hx;have ex:x≠id:=hB.1;rw[if_neg ex] at hx;have h1:=hs.ownlt x ox B hx hB.2;have h2:=hother B h1;rw[bq h1] at h2;exact(aD.1 h2).1
 gho x os Lx hx hLx:=by
  rw[hget] at hx;by_cases ex:x=id;·rw[if_pos ex] at hx;cases hx;cases hg
  .rw[if_neg ex] at hx;rw[Ren.jX Y L ex] at hLx;rw[Ren.xb Y L ex];have g:=hs.gho x os Lx hx hLx;exact g.frame fun B hB=>hother B (g.lt hB)
theorem Ext.add {Y:Ren}{id:Nat}(hid:h.next<=id)(hn:h.next<=h'.next)
  (hget:∀ x,h'.tr.get x=if x=id then some o' else h.tr.get x)(hL:w.heap.size<=L.1)(hsz:w.heap.size<=w'.heap.size)
  (hother:∀ B,B<w.heap.size->w'.heap[B]?=w.heap[B]?)(h1:w'.tape=w.tape)(h2:w'.os=w.os)(h3:w'.output=w.output):
  Ext Y h w (Y.with id L) h' w' where
 next:=hn
 agree b hb:=Ren.jX Y L (by omega)
 old b hb q:=by rw[hget,if_neg (by omega)];exact q
 size:=hsz
 frame B hB _:=hother B hB
 origin x ox B hx hf hlt:=by
  rw[hget] at hx;by_cases e:x=id;·subst e;have:=Y.nN L hf;omega
  .rw[if_neg e] at hx;rw[Ren.nM Y L e] at hf;exact⟨x,ox,hx,hf,fun q=>q⟩
 tape:=h1
 os:=h2
 output:=h3
theorem Rel.loc {Y Y':Ren}(e:Y'.loc=Y.loc){v:V}{c:Value}(h:Rel Y v c):Rel Y' v c:=h.mono fun b L hb=>by show Y'.loc b=_;rw[e];exact hb
theorem jD.loc {Y Y':Ren}(e:Y'.loc=Y.loc){o:O}{L:Nat×Nat×Nat}{c:Obj}(h:jD Y o L c):jD Y' o L c:=h.mono fun b L hb=>by show Y'.loc b=_;rw[e];exact hb
theorem H7 {Y Y':Ren}{h1 h2 h2':H}(hS2:Sim Y h2 w)(hn:h1.next=h2.next)(hsub:∀ b o,h1.tr.get b=some o->h2.tr.get b=some o)(hS':Sim Y' h' w')(hEe:Ext Y h1 w Y' h' w')(hn':h2'.next=h'.next)
  (hget:∀ b o,h2'.tr.get b=some o->(h1.tr.get b=none/\h2.tr.get b=some o)\/∃ o1,h'.tr.get b=some o1/\o1.rw=o.rw/\(∀ os,o=.ghost os->o1=o)/\∀ Y L c,jD Y o1 L c->jD Y o L c):
  ∃ Y2:Ren,Y2.loc=Y'.loc/\Sim Y2 h2' w'/\Ext Y h2 w Y2 h2' w'/\∀ x o,h1.tr.get x=none->h2.tr.get x=some o->h'.tr.get x=none:=by
 have hS1:=hS2.sub (eF hn.symm) hsub;have hle:=hEe.le hS1;have loc:∀ b o,h2.tr.get b=some o->Y' b=Y b:=fun b o e2=>by obtain⟨Mm,_,m1,_⟩:=hS2.live b o e2;rw[hle _ _ m1,m1]
 have lost:∀ x o y o' B,h1.tr.get x=none->h2.tr.get x=some o->Y.fp x B->h'.tr.get y=some o'->Y'.fp y B->(o'.rw=true\/o.rw=true)->False:=fun x o y o' B e1 e2 e3 e4 e5 e6=>by obtain⟨b0,o0,a,b,r⟩:=hEe.origin y o' B e4 e5 (hS2.wY e2 e3);have:=hS2.inj b0 x o0 o B (hsub _ _ a) e2 (e6.imp r id) b e3;subst this;rw[e1] at a;cases a
 have gone:∀ x o,h1.tr.get x=none->h2.tr.get x=some o->h'.tr.get x=none:=fun x o e1 e2=>by obtain⟨Mm,_,m1,_⟩:=hS2.live x o e2;exact hEe.old x (by rw[hn];exact hS2.dom x Mm m1) e1
 let Y2:Ren:=⟨Y'.loc,fun b B=>(h1.tr.get b=none/\h2.tr.get b≠none/\Y.own b B)\/(¬ (h1.tr.get b=none/\h2.tr.get b≠none)/\Y'.own b B)⟩;have l2:Y2.loc=Y'.loc:=rfl;have l2':∀ b,Y2 b=Y' b:=fun b=>rfl;have fa:∀ b o,h1.tr.get b=none->h2.tr.get b=some o->Y2.own b=Y.own b/\Y2.fp b=Y.fp b:=fun b o e1 e2=>by
  have e:Y2.own b=Y.own b:=by funext B;simp only[Y2,e1,e2,ne_eq,reduceCtorEq,not_false_eq_true,and_self,not_true_eq_false,false_and,or_false,true_and]
  exact⟨e,Ren.zq (by rw[l2',loc b o e2]) e⟩
 have fb:∀ b o,h'.tr.get b=some o->Y2.own b=Y'.own b/\Y2.fp b=Y'.fp b:=fun b o e1=>by
  have no:¬ (h1.tr.get b=none/\h2.tr.get b≠none):=fun⟨q1,q2⟩=>by obtain⟨o2,q3⟩:=Option.ne_none_iff_exists'.1 q2;rw[gone b o2 q1 q3] at e1;cases e1
  have e:Y2.own b=Y'.own b:=by funext B;refine propext ⟨fun q=>q.elim (fun q=>(no ⟨q.1,q.2.1⟩).elim) fun q=>q.2,fun q=>.inr ⟨no,q⟩⟩
  exact⟨e,Ren.zq rfl e⟩
 have still:∀ x o B,h1.tr.get x=none->h2.tr.get x=some o->Y.fp x B->w'.heap[B]?=w.heap[B]?:=fun x o B e1 e2 hf=>by refine hEe.frame B (hS2.wY e2 hf) fun b' o' p r q=>?_;have:=hS2.inj b' x o' o B (hsub _ _ p) e2 (.inl r) q hf;subst this;rw[e1] at p;cases p
 refine⟨Y2,l2,⟨hS'.glob,fun b L h=>by rw[hn'];exact hS'.dom b L h,fun b o h=>?_,fun b b' o o' B h h' hq e e'=>?_,fun b o B h hB=>?_,fun b os L h hL=>?_⟩,⟨by rw[hn',<- hn];exact hEe.next,fun b hb=>hEe.agree b (by rw[hn];exact hb),fun b hb q=>?_,hEe.size,fun B hB hno=>?_,fun b o B h e hlt=>?_,hEe.tape,hEe.os,hEe.output⟩,gone⟩
 .rcases hget b o h with⟨e1,e2⟩|⟨o1,e,_,_,e3⟩;·obtain⟨L,c,x,y,z⟩:=hS2.live b o e2;refine⟨L,c,hle _ _ x,?_,(z.mono hle).loc l2⟩;rw[still b o L.1 e1 e2 (Ren.uo x)];exact y
  .obtain⟨L,c,x,y,z⟩:=hS'.live b o1 e;exact⟨L,c,x,y,(e3 _ L c z).loc l2⟩
 .rcases hget b o h with⟨x1,x2⟩|⟨o1,x,xr,_⟩<;>rcases hget b' o' h' with⟨y1,y2⟩|⟨o2,y,yr,_⟩;·rw[(fa b o x1 x2).2] at e;rw[(fa b' o' y1 y2).2] at e';exact hS2.inj b b' o o' B x2 y2 hq e e'
  .rw[(fa b o x1 x2).2] at e;rw[(fb b' o2 y).2] at e';exact(lost b o b' o2 B x1 x2 e y e' (by rw[yr];exact hq.symm)).elim
  .rw[(fb b o1 x).2] at e;rw[(fa b' o' y1 y2).2] at e';exact(lost b' o' b o1 B y1 y2 e' x e (by rw[xr];exact hq)).elim
  .rw[(fb b o1 x).2] at e;rw[(fb b' o2 y).2] at e';exact hS'.inj b b' o1 o2 B x y (by rw[xr,yr];exact hq) e e'
 .rcases hget b o h with⟨x1,x2⟩|⟨o1,x,_⟩;·rw[(fa b o x1 x2).1] at hB;exact bh (hS2.ownlt b o B x2 hB) hEe.size
  .rw[(fb b o1 x).1] at hB;exact hS'.ownlt b o1 B x hB
 .rcases hget b _ h with⟨x1,x2⟩|⟨o1,x,_,x3,_⟩;·rw[(fa b _ x1 x2).1];rw[l2',loc b _ x2] at hL;exact(hS2.gho b os L x2 hL).frame fun B hB=>still b _ B x1 x2 (.inr hB)
  .rw[(fb b o1 x).1];rw[x3 os rfl] at x;exact hS'.gho b os L x hL
 .cases g:h2'.tr.get b with
  |none=>rfl
  |some o=>
   rcases hget b o g with⟨_,e⟩|⟨o1,e,_⟩;·rw[q] at e;cases e
   .rw[hEe.old b (by rw[hn];exact hb) (by
     cases g1:h1.tr.get b with
     |none=>rfl
     |some o2=>have:=hsub b o2 g1;rw[q] at this;cases this)] at e
    cases e
 .exact hEe.frame B hB fun b o p u q=>hno b o (hsub _ _ p) u q
 .rcases hget b o h with⟨e1,e2⟩|⟨o1,e3,e4,_⟩;·rw[(fa b o e1 e2).2] at e;exact⟨b,o,e2,e,id⟩
  .rw[(fb b o1 e3).2] at e;obtain⟨b0,o0,x,y,z⟩:=hEe.origin b o1 B e3 e hlt;exact⟨b0,o0,hsub _ _ x,y,fun q=>z (by rw[e4];exact q)⟩
end Go.Ev
namespace Go.Ev
variable {n i off:Nat}{pat:List V}{tr:T V}{v:V}{Y:Ren}{cs:Array Value}
theorem eT (h:cell n pat tr i=some v):i<n:=by
 unfold cell at h;split at h;·rename_i hb;simpa [cZ] using hb
 .cases h
theorem gC (h:i<n)(hg:tr.get i=some v):cell n pat tr i=some v:=by
 unfold cell;have:Nat.blt i n=true:=by simpa [cZ] using h
 rw[this];simp[hg]
theorem gX {tr':T V}(h:tr.get i=tr'.get i):cell n pat tr i=cell n pat tr' i:=by unfold cell;rw[h]
theorem eP {n:Nat}{pat:List V}{tr:T V}:∀ {k i:Nat} {l:List V},fC n pat tr i k=some l->l.length=k/\∀ j v,l[j]?=some v->cell n pat tr (i+j)=some v
 |0,i,l,h=>by simp[fC] at h;subst h;simp
 |k+1,i,l,h=>by
  simp only[fC] at h;split at h
  .rename_i v hv;split at h
   .rename_i l' hl';obtain⟨h1,h2⟩:=eP hl';simp at h;subst h;refine⟨by simp[h1],fun j v' hj=>?_⟩;cases j with
    |zero=>simp at hj;subst hj;exact hv
    |succ j=>simp at hj;have:=h2 j v' hj;rwa [show i+(j+1)=Nat.succ i+j by omega]
   .cases h
  .cases h
theorem lQ (l:List V):∀ i v,cell l.length l .leaf i=some v->l[i]?=some v:=by
 intro i v h;have hi:=eT h;unfold cell at h;have:Nat.blt i l.length=true:=by simpa [cZ] using hi
 rw[this] at h;simp only[T.eR] at h;unfold yH at h;rw[jb,ah hi] at h;simp at h;rw[ah hi,h]
theorem yB (l:List V):∀ i v,cell l.length [] (T.ofList some l.length l) i=some v->l[i]?=some v:=by
 intro i v h;have hi:=eT h;unfold cell at h;have:Nat.blt i l.length=true:=by simpa [cZ] using hi
 rw[this] at h;rw[T.kA some l.length l i (aF _),ah hi] at h;simp at h;rw[ah hi,h]
theorem Ld (l:List V):∃ pat tr,mkA l=.agg l.length pat tr/\∀ i v,cell l.length pat tr i=some v->l[i]?=some v:=by
 unfold mkA;split;·exact⟨l,.leaf,rfl,lQ l⟩
 .exact⟨[],_,rfl,yB l⟩
theorem Qa (e:Option TypeId)(l:List V):∃ pat tr,mkO e l=.cells e l.length pat tr/\∀ i v,cell l.length pat tr i=some v->l[i]?=some v:=by
 unfold mkO;split;·exact⟨l,.leaf,rfl,lQ l⟩
 .exact⟨[],_,rfl,yB l⟩
structure AR (Y:Ren)(n:Nat)(pat:List V)(tr:T V)(cs:Array Value):Prop where
 size:cs.size=n
 one:∀ (i:Nat) (x:Value),cs[i]?=some x->one x=true
 rel:∀ (i:Nat) (v:V) (x:Value),cell n pat tr i=some v->cs[i]?=some x->Rel Y v x
theorem AR.rel' (h:AR Y n pat tr cs):Rel Y (.agg n pat tr) (.agg cs):=.agg h.size h.one h.rel
theorem Rel.ar {c:Value}(h:Rel Y (.agg n pat tr) c):∃ cs,c=.agg cs/\AR Y n pat tr cs:=by
 cases h with
 |agg h1 h2 h3=>exact⟨_,rfl,h1,h2,h3⟩
theorem AR.get (h:AR Y n pat tr cs)(hv:cell n pat tr i=some v):∃ x,cs[i]?=some x/\Rel Y v x:=by
 have hi:i<cs.size:=by rw[h.size];exact eT hv
 exact⟨cs[i],by simp[hi],h.rel i v _ hv (by simp[hi])⟩
structure yC (P:Program)(t:TypeId)(ty:TY):Prop where
 under:P.underlying t=some ty.desc
 info:∃ i,P.info? t=some i/\i.size=ty.size/\i.methods=ty.methods/\∀ z,ty.zero=some z->∃ c,i.zero=some c/\∀ Y,Rel Y z c
 agg:ty.agg=(match ty.desc with|.struct _=>true|.array _ _=>true|_=>false)
section
variable {P:Program}{t:TypeId}{ty:TY}(h:yC P t ty)(w:World)
theorem yC.run_underlying (h:yC P t ty):(underlying t).run P w=.ok ty.desc w:=by simp[underlying,h.under]
theorem yC.run_sizeOf (h:yC P t ty):(sizeOf t).run P w=.ok ty.size w:=by obtain⟨i,h1,h2,_⟩:=h.info;simp[sizeOf,typeInfo,h1,h2]
theorem yC.lR (h:yC P t ty):(isAgg t).run P w=.ok ty.agg w:=by unfold isAgg;simp only[Sem.run_bind,h.run_underlying,Result.andThen_ok];rw[h.agg];cases ty.desc<;>rfl
theorem yC.mF (h:yC P t ty){z:V}(hz:ty.zero=some z):∃ c,(∀ w,(zeroValue t).run P w=.ok c w)/\∀ Y,Rel Y z c:=by obtain⟨i,h1,_,_,h4⟩:=h.info;obtain⟨c,h5,h6⟩:=h4 z hz;exact⟨c,fun w=>by simp[zeroValue,typeInfo,h1,h5],h6⟩
end
theorem gD (cs:Array Value)(a b i:Nat)(x:Value)(h:(cs.extract a b)[i]?=some x):cs[a+i]?=some x:=by
 rw[dV] at h;split at h;·exact h
 .cases h
theorem AR.piece (h:AR Y n pat tr cs){agg:Bool}{size:Nat}
  (hp:partAt agg size n pat tr off=some v):if agg=true then ∃ ds,ds=cs.extract off (off+size)/\Rel Y v (.agg ds) else ∃ x,cs[off]?=some x/\Rel Y v x:=by
 unfold partAt at hp;cases agg with
 |false=>simp only[aW,if_false];exact h.get hp
 |true=>
  simp only[if_true];refine⟨_,rfl,?_⟩;simp only at hp;split at hp
  .rename_i hb;simp only[ae,T.beq_true] at hb;obtain⟨rfl,rfl⟩:=hb;simp at hp;subst hp;have:cs.extract 0 (0+size)=cs:=by rw[aI,<- h.size];simp
   rw[this];exact h.rel'
  .split at hp
   .rename_i l hl;simp at hp;subst hp;obtain⟨h1,h2⟩:=eP hl;obtain⟨pat',tr',e,h3⟩:=Ld l;rw[e];have hle:off+size<=cs.size\/size=0:=by
     by_cases h0:size=0;·exact .inr h0
     .refine .inl ?_;have:=h2 (size - 1) _ (ah (by omega));have:=eT this;rw[h.size];omega
    refine .agg ?_ ?_ ?_;·simp only[cE];omega
    .intro i x hx;exact h.one _ _ (gD _ _ _ _ _ hx)
    .intro i v x hv hx;exact h.rel _ _ _ (h2 i v (h3 i v hv)) (gD _ _ _ _ _ hx)
   .cases hp
theorem AR.mG {P:Program}(h:AR Y n pat tr cs){t:TypeId}{ty:TY}(ht:yC P t ty)
  (hp:partAt ty.agg ty.size n pat tr off=some v):∃ c,Rel Y v c/\∀ w,(part t cs off).run P w=.ok c w:=by
 have:=h.piece hp;cases ha:ty.agg with
 |true=>rw[ha] at this;simp only[if_true] at this;obtain⟨ds,rfl,hr⟩:=this;exact⟨_,hr,fun w=>by simp[part,ht.lR,ha,ht.run_sizeOf]⟩
 |false=>rw[ha] at this;simp only[aW,if_false] at this;obtain⟨x,hx,hr⟩:=this;exact⟨_,hr,fun w=>by simp[part,ht.lR,ha,hx]⟩
theorem lS {n':Nat}{pat':List V}{tr':T V}{off:Nat}:∀ {k i:Nat} {tr tr'':T V},yI n' pat' tr' off i k tr=some tr'' ->
  (∀ j,i<=j->j<i+k->∃ v,cell n' pat' tr' j=some v/\tr''.get (off+j)=some v)/\∀ m,(m<off+i\/off+i+k<=m)->tr''.get m=tr.get m
 |0,i,tr,tr'',h=>by simp[yI] at h;subst h;exact⟨fun j a b=>by omega,fun m _=>rfl⟩
 |k+1,i,tr,tr'',h=>by
  simp only[yI] at h;split at h
  .rename_i v hv;obtain⟨h1,h2⟩:=lS h;refine⟨fun j a b=>?_,fun m hm=>?_⟩
   .by_cases e:j=i;·subst e;refine⟨v,hv,?_⟩;rw[h2 _ (.inl (by omega))];exact T.zab _ _ _
    .exact h1 j (by omega) (by omega)
   .rw[h2 m (by omega),T.ia];show m≠off+i;omega
  .cases h
theorem yD {size:Nat}{tr':T V}{c:Value}(hp:pI size v n tr off=some tr')(hv:Rel Y v c)
  (h1:∀ (i:Nat) (x:Value),cs[i]?=some x->one x=true)(h2:∀ (i:Nat) (v:V) (x:Value),cell n pat tr i=some v->cs[i]?=some x->Rel Y v x):
  c.cells.size=size/\off+size<=n/\∀ cs':Array Value,cs'.size=n->(∀ i,cs'[i]?=if off<=i/\i<off+size then c.cells[i - off]? else cs[i]?)->AR Y n pat tr' cs':=by
 unfold pI at hp;split at hp;·cases hp
 .rename_i hle;have hle:off+size<=n:=by
   have:=az hle;exact this
  split at hp
  .rename_i n' pat' tr'';split at hp
   .rename_i hb;rw[T.beq_true] at hb;subst hb;obtain⟨ds,rfl,ha⟩:=hv.ar;refine⟨ha.size,hle,fun cs' hs' hg=>⟨hs',fun i x hx=>?_,fun i v x hc hx=>?_⟩⟩
    .rw[hg] at hx;split at hx;·exact ha.one _ _ hx
     .exact h1 _ _ hx
    .obtain⟨o1,o2⟩:=lS hp;rw[hg] at hx;split at hx;·rename_i hr;obtain⟨v',hv',hg'⟩:=o1 (i - off) (by omega) (by omega);rw[show off+(i - off)=i by omega] at hg';have:=gC (pat:=pat) (eT hc) hg';rw[this] at hc;cases hc;exact ha.rel _ _ _ hv' hx
     .rename_i hr;rw[gX (tr':=tr) (o2 i (by omega))] at hc;exact h2 _ _ _ hc hx
   .cases hp
  .cases hp
  .rename_i hna hnt;split at hp
   .rename_i hb;rw[T.beq_true] at hb;subst hb;have hsc:v.scalar=true:=by cases v<;>simp_all [V.scalar]
    have hcc:=hv.cells hsc;simp at hp;subst hp;refine⟨by rw[hcc];rfl,hle,fun cs' hs' hg=>⟨hs',fun i x hx=>?_,fun i v' x hc hx=>?_⟩⟩
    .rw[hg] at hx;split at hx;·rename_i hr;rw[hcc,show i - off=0 by omega] at hx;simp at hx;subst hx;exact hv.wX hsc
     .exact h1 _ _ hx
    .rw[hg] at hx;split at hx
     .rename_i hr;have e:i=off:=by omega
      subst e;rw[hcc,show i - i=0 by omega] at hx;simp at hx;subst hx;have:=gC (pat:=pat) (eT hc) (T.zab tr i (some v));rw[this] at hc;cases hc;exact hv
     .rename_i hr;rw[gX (tr':=tr) (T.ia tr _ (by omega))] at hc;exact h2 _ _ _ hc hx
   .cases hp
end Go.Ev
namespace Go.Ev
variable {v:V}{op:BinOp}
theorem QB:((2:Int) ^ IntKind.i64.bits)=18446744073709551616:=by decide
theorem QC:((2:Int) ^ (IntKind.i64.bits - 1))=9223372036854775808:=by decide
theorem Tk:((2:Int) ^ IntKind.u32.bits)=4294967296:=by decide
theorem Vd:((2:Int) ^ IntKind.u8.bits)=256:=by decide
theorem iV (m:Nat)(hb:m<9223372036854775808):IntKind.wrap .i64 (Int.ofNat m)=Int.ofNat m:=by unfold IntKind.wrap;simp only[QB,QC,IntKind.signed,eJ,decide_eq_true_eq,aN];split<;>omega
theorem zB (m:Nat)(hb:m<9223372036854775808):IntKind.wrap .i64 (Int.negSucc m)=Int.negSucc m:=by unfold IntKind.wrap;simp only[QB,QC,IntKind.signed,eJ,decide_eq_true_eq];split<;>omega
theorem zC (m:Nat)(hb:m<4294967296):IntKind.wrap .u32 (Int.ofNat m)=Int.ofNat m:=by unfold IntKind.wrap;simp only[Tk,IntKind.signed,Bool.false_and,aW,if_false,aN];omega
theorem Bw (m:Nat)(hb:m<256):IntKind.wrap .u8 (Int.ofNat m)=Int.ofNat m:=by unfold IntKind.wrap;simp only[Vd,IntKind.signed,Bool.false_and,aW,if_false,aN];omega
theorem gk {a b:Nat}(h:Nat.blt a b=true):a<b:=az h
theorem oV (k:IntKind)(n:Int):wr k n=k.wrap n:=by
 cases k<;>cases n<;>simp only[wr]
 .split;·rename_i h;exact(iV _ (gk h)).symm
  .simp only[]
 .split;·rename_i h;exact(zB _ (gk h)).symm
  .simp only[]
 .split;·rename_i h;exact(Bw _ (gk h)).symm
  .simp only[]
 .split;·rename_i h;exact(zC _ (gk h)).symm
  .simp only[]
def iY (P:Program)(s:Sem Value)(Y:Ren)(v:V):Prop:=∃ c,Rel Y v c/\∀ w,s.run P w=.ok c w
theorem iY.mk {P:Program}{s:Sem Value}{Y:Ren}{c:Value}(h:Rel Y v c)(hs:∀ w,s.run P w=.ok c w):iY P s Y v:=⟨c,h,hs⟩
theorem tl (s:List UInt8):(⟨s.toArray⟩:ByteArray).toList=s:=by rw[ByteArray.toList_eq]
section
variable {P:Program}{Y:Ren}
theorem zD {k:IntKind}{a b:Int}(t:TypeId)(h:uN op k a b=some v):iY P (Go.binOp op t (.int k a) (.int k b)) Y v:=by
 cases op<;>simp only[uN] at h;case add=>cases h;exact .mk (.int _ _) fun w=>by rw[oV];simp[Go.binOp,Op.intArith]
 case sub=>cases h;exact .mk (.int _ _) fun w=>by rw[oV];simp[Go.binOp,Op.intArith];rfl
 case mul=>cases h;exact .mk (.int _ _) fun w=>by rw[oV];simp[Go.binOp,Op.intArith]
 case quo=>
  split at h;·cases h
  .rename_i hb;have hb:b≠0:=by rw[kC] at hb;simpa using hb
   cases h;exact .mk (.int _ _) fun w=>by rw[oV];simp[Go.binOp,Op.intDiv,hb]
 case rem=>
  split at h;·cases h
  .rename_i hb;have hb:b≠0:=by rw[kC] at hb;simpa using hb
   cases h;exact .mk (.int _ _) fun w=>by simp[Go.binOp,Op.intDiv,hb]
 case and=>cases h;exact .mk (.int _ _) fun w=>by rw[oV];simp[Go.binOp,Op.intBits]
 case or=>cases h;exact .mk (.int _ _) fun w=>by rw[oV];simp[Go.binOp,Op.intBits]
 case xor=>cases h;exact .mk (.int _ _) fun w=>by rw[oV];simp[Go.binOp,Op.intBits]
 case andNot=>cases h;exact .mk (.int _ _) fun w=>by rw[oV];simp[Go.binOp,Op.intBits]
 case eql=>cases h;exact .mk (.bool _) fun w=>by rw[kC];simp[Go.binOp,Op.intCmp];rw[bU];simp
 case neq=>cases h;exact .mk (.bool _) fun w=>by rw[kC];simp[Go.binOp,Op.intCmp];rw[bU];simp
 case lss=>cases h;exact .mk (.bool _) fun w=>by rw[lj];simp[Go.binOp,Op.intCmp]
 case leq=>cases h;exact .mk (.bool _) fun w=>by rw[lj];simp[Go.binOp,Op.intCmp];rw[bU];simp
 case gtr=>cases h;exact .mk (.bool _) fun w=>by rw[lj];simp[Go.binOp,Op.intCmp]
 case geq=>cases h;exact .mk (.bool _) fun w=>by rw[lj];simp[Go.binOp,Op.intCmp];rw[bU];simp
 all_goals cases h
theorem mZ {k k':IntKind}{a b:Int}(t:TypeId)(h:mH op k a b=some v):iY P (Go.binOp op t (.int k a) (.int k' b)) Y v:=by
 cases b with
 |negSucc b=>simp[mH] at h
 |ofNat b=>
  have h0:¬ (Int.ofNat b<0):=by simp
  cases op<;>simp only[mH] at h;case shl=>cases h;exact .mk (.int _ _) fun w=>by rw[oV];simp only[Go.binOp,Op.shift];rw[if_neg h0,Sem.run_pure];congr 2
  case shr=>cases h;exact .mk (.int _ _) fun w=>by simp only[Go.binOp,Op.shift];rw[if_neg h0,Sem.run_pure];congr 2
  all_goals cases h
theorem Ib (a b:List UInt8):(⟨a.toArray⟩:ByteArray)++(⟨b.toArray⟩:ByteArray)=⟨(a++b).toArray⟩:=by apply ByteArray.ext;simp
theorem zE {a b:List UInt8}(t:TypeId)(h:CY op a b=some v):iY P (Go.binOp op t (.string ⟨a.toArray⟩) (.string ⟨b.toArray⟩)) Y v:=by
 cases op<;>simp only[CY] at h;case add=>
  split at h
  .rename_i hb;have hb:a.length+b.length<=1000000000:=az hb;cases h;refine .mk (.str _) fun w=>?_;have hsz:¬ (((⟨a.toArray⟩:ByteArray).size+(⟨b.toArray⟩:ByteArray).size:Nat):Int) > IntKind.i64.max:=by
    simp[ByteArray.size,IntKind.max,IntKind.signed,IntKind.bits];omega
   simp only[Go.binOp,Op.stringOp];rw[if_neg hsz,Sem.run_pure,Ib]
  .cases h
 case eql=>cases h;exact .mk (.bool _) fun w=>by simp[Go.binOp,Op.stringOp]
 case neq=>cases h;exact .mk (.bool _) fun w=>by simp[Go.binOp,Op.stringOp]
 case lss=>cases h;exact .mk (.bool _) fun w=>by simp[Go.binOp,Op.stringOp]
 case leq=>cases h;exact .mk (.bool _) fun w=>by simp[Go.binOp,Op.stringOp]
 case gtr=>cases h;exact .mk (.bool _) fun w=>by simp[Go.binOp,Op.stringOp]
 case geq=>cases h;exact .mk (.bool _) fun w=>by simp[Go.binOp,Op.stringOp]
 all_goals cases h
end
def zF:Row->Array Value->Sem Value
 |.clone=>Extern.MapsClone.clone
 |.same=>Extern.AbiNoEscape.same
structure GOk (P:Program)(G:Γ):Prop where
 funcs:∀ f fn,G.funcs.get f=some fn->P.funcs[f]?=some fn/\fn.name ≠ "runtime.NumGoroutine"
 types:∀ t ty,G.ty t=some ty->yC P t ty
 eqs:∀ t,G.eqs.contains t=true->P.eqGuardType P.depth t=false/\P.stoodInHeld t=false
 rows:∀ f r,G.rows f=some r->∃ fn,P.funcs[f]?=some fn/\fn.name ≠ "runtime.NumGoroutine"/\fn.body=none/\Extern.findNext fn=none/\Extern.find fn=some (zF r)
 fields:∀ t ty fs,G.ty t=some ty->ty.desc=.struct fs->∀ f,f∈fs.toList->∃ ft,G.ty f.type=some ft/\f.offset+ft.size<=ty.size/\(ft.agg=false->0<ft.size)
 big:∀ t ty,G.ty t=some ty->∃ i z,P.info? t=some i/\i.bytes<=1048576/\i.zero=some z/\z.cells.size=i.size/\∀ x,x∈z.cells.toList->one x=true
 mixed:P.follows .mixedOrders=true
section
variable {P:Program}{G:Γ}(hG:GOk P G){Y:Ren}
theorem qE (hG:GOk P G){eq:TypeId->V->V->Option Bool}{D:Nat}(heq:∀ t x y b cx cy,eq t x y=some b->Rel Y x cx->Rel Y y cy->∀ w,(Op.equalIn D t cx cy).run P w=.ok b w)
  {n:Nat}{pat:List V}{tr:T V}{n':Nat}{pat':List V}{tr':T V}{xs ys:Array Value}(hx:AR Y n pat tr xs)(hy:AR Y n' pat' tr' ys):
  ∀ {fs:List Field} {b:Bool},eqFields G eq n pat tr n' pat' tr' fs=some b->∀ w,(Op.eqFields D xs ys fs).run P w=.ok b w
 |[],b,h,w=>by simp[eqFields] at h;subst h;simp[Op.eqFields]
 |f :: fs,b,h,w=>by
  simp only[eqFields] at h;split at h;·cases h
  .rename_i hn;have hn:f.name ≠ "_":=by simpa using hn
   split at h;·cases h
   .rename_i ft hft;have ht:=hG.types _ _ hft;split at h
    .rename_i va vb hva hvb;obtain⟨ca,ra,sa⟩:=hx.mG ht hva;obtain⟨cb,rb,sb⟩:=hy.mG ht hvb;simp only[Op.eqFields,hn,ne_eq,not_false_eq_true,if_true,Sem.run_bind,sa,sb,Result.andThen_ok];split at h;·rename_i he;rw[heq _ _ _ _ _ _ he ra rb];simp only[Result.andThen_ok,Bool.not_true,aW,if_false];exact qE hG heq hx hy h w
     .rename_i r hr;cases b with
      |true=>exact absurd h (by intro e;exact hr e)
      |false=>rw[heq _ _ _ _ _ _ h ra rb];simp
    .cases h
theorem tQ {eq:V->V->Option Bool}{elem:TypeId}{te:TY}(hte:yC P elem te){D:Nat}(heq:∀ x y b cx cy,eq x y=some b->Rel Y x cx->Rel Y y cy->∀ w,(Op.equalIn D elem cx cy).run P w=.ok b w)
  {n:Nat}{pat:List V}{tr:T V}{n':Nat}{pat':List V}{tr':T V}{xs ys:Array Value}(hx:AR Y n pat tr xs)(hy:AR Y n' pat' tr' ys):
  ∀ {k i:Nat} {b:Bool},nD eq te.agg te.size n pat tr n' pat' tr' i k=some b->∀ w,
   ((forIn (m:=Sem) (List.range' i k) ((none,()):Option Bool×Unit) fun i _=>do
     let a <- part elem xs (i * te.size);let b <- part elem ys (i * te.size);let r <- Op.equalIn D elem a b;if (!r)=true then pure (.done (some false,())) else pure (.yield (none,())))).run P w=.ok (if b then (none,()) else (some false,())) w
 |0,i,b,h,w=>by simp[nD] at h;subst h;simp
 |k+1,i,b,h,w=>by
  simp only[nD] at h;split at h
  .rename_i va vb hva hvb;obtain⟨ca,ra,sa⟩:=hx.mG hte hva;obtain⟨cb,rb,sb⟩:=hy.mG hte hvb;have sa':∀ w,(part elem xs (i * te.size)).run P w=.ok ca w:=sa;have sb':∀ w,(part elem ys (i * te.size)).run P w=.ok cb w:=sb;rw[eu,List.forIn_cons];simp only[Sem.run_bind,sa',sb',Result.andThen_ok];split at h;·rename_i he;rw[heq _ _ _ _ _ he ra rb];simp only[Result.andThen_ok,Bool.not_true,aW,if_false,Sem.run_pure];exact tQ hte heq hx hy h w
   .rename_i r hr;cases b with
    |true=>exact absurd h (by intro e;exact hr e)
    |false=>rw[heq _ _ _ _ _ h ra rb];simp
  .cases h
end
end Go.Ev
namespace Go.Ev
section
variable {P:Program}{G:Γ}(hG:GOk P G){Y:Ren}
set_option maxHeartbeats 4000000 in
theorem Bx (hG:GOk P G):∀ (d D:Nat),d<=D->∀ (t:TypeId) (x y:V) (b:Bool) (cx cy:Value),eqO G d t x y=some b->Rel Y x cx->Rel Y y cy->∀ w,(Op.equalIn D t cx cy).run P w=.ok b w:=by
 intro d;induction d with
 |zero=>intro D _ t x y b cx cy h;simp[eqO] at h
 |succ d ih=>
  intro D hD t x y b cx cy h hx hy w;obtain⟨D,rfl⟩:∃ D',D=D'+1:=⟨D - 1,by omega⟩;simp only[eqO] at h;split at h;·cases h
  .rename_i ty hty;have ht:=hG.types _ _ hty;have hu:=ht.under;have ru:∀ w,(underlying t).run P w=.ok ty.desc w:=fun w=>ht.run_underlying w;split at h;·rename_i e;cases h;cases hx;cases hy;exact run_equalIn_bool' w D t _ _ (by rw[hu,e])
   .rename_i e;split at h;·rename_i hk;have hk:=of_decide_eq_true hk;subst hk;cases h;cases hx;cases hy;rw[run_equalIn_int w D t _ _ _ _ (by rw[hu,e])];rw[kC];congr 1
    .cases h
   .rename_i e;cases h;cases hx;cases hy;rw[run_equalIn_string w D t _ _ (by rw[hu,e]),tl,tl]
   .rename_i e;cases h;cases hx;cases hy;simp[Op.equalIn,ru,e]
   .rename_i e;cases h;cases hx;cases hy;simp[Op.equalIn,ru,e]
   .rename_i e;cases h;cases hx;cases hy;simp[Op.equalIn,ru,e]
   .rename_i te b1 o1 b2 o2 e;split at h
    .rename_i tt hb hte;simp only[ae,T.beq_true] at hb;obtain⟨rfl,rfl⟩:=hb;cases h;obtain⟨j,j1,_⟩:=(hG.types _ _ hte).info;cases hx with
     |ptr h1=>
      cases hy with
      |ptr h2=>rw[h1] at h2;cases h2;simp[Op.equalIn,ru,e,sizeOf,typeInfo,j1,run_sameAddr_same]
    .cases h
   .rename_i e;cases h;cases hx;cases hy;simp[Op.equalIn,ru,e]
   .rename_i e;cases h;cases hx;cases hy;simp[Op.equalIn,ru,e]
   .rename_i fs n pat tr n' pat' tr' e;split at h
    .rename_i he;obtain⟨xs,rfl,ax⟩:=hx.ar;obtain⟨ys,rfl,ay⟩:=hy.ar;have hf:P.fieldsOf t=fs:=by simp[Program.fieldsOf,hu,e]
     rw[run_equalIn_struct w D t xs ys (by rw[hf,hu,e]) (hG.eqs t he).2,hf];exact qE hG (fun t' x y b cx cy h1 h2 h3=>ih D (by omega) t' x y b cx cy h1 h2 h3) ax ay h w
    .cases h
   .rename_i len elem n pat tr n' pat' tr' e;split at h;·rename_i te he hte;obtain⟨xs,rfl,ax⟩:=hx.ar;obtain⟨ys,rfl,ay⟩:=hy.ar;have hte:=hG.types _ _ hte;have key:=tQ hte (fun x y b cx cy h1 h2 h3=>ih D (by omega) elem x y b cx cy h1 h2 h3) ax ay h w;simp only[Op.equalIn,Sem.run_bind,ru,e,Result.andThen_ok,hte.run_sizeOf];rw[Std.Legacy.Range.forIn_eq_forIn_range'];simp only[Std.Legacy.Range.size,dw,Nat.add_sub_cancel,eH];rw[key];cases b<;>simp
    .cases h
   .rename_i e;cases h;cases hx;cases hy;simp[Op.equalIn,ru,e]
   .rename_i e;cases h;cases hx;cases hy<;>simp[Op.equalIn,ru,e]
   .rename_i e;cases h;cases hy;cases hx<;>simp[Op.equalIn,ru,e]
   .rename_i e;cases h;cases hx;cases hy;simp[Op.equalIn,ru,e]
   .rename_i e;cases h;cases hx;cases hy;simp[Op.equalIn,ru,e]
   .rename_i e;cases h;cases hx;cases hy;simp[Op.equalIn,ru,e]
   .rename_i e;cases h;cases hx;cases hy;simp[Op.equalIn,ru,e]
   .rename_i e;cases h;cases hx;cases hy<;>simp[Op.equalIn,ru,e]
   .rename_i e;cases h;cases hy;cases hx<;>simp[Op.equalIn,ru,e]
   .cases h
end
variable {t:TypeId}{cx cy:Value}{op:BinOp}{Xx Yy:Operand}
def jz:Value->Value->Bool
 |.bool _,.bool _=>true
 |.pointer _,.pointer _=>true
 |.nilIface,.iface _ _=>true
 |.iface _ _,.nilIface=>true
 |.agg _,.agg _=>true
 |.slice ..,.slice ..=>true
 |.map _,.map _=>true
 |.nilFunc,.nilFunc=>true
 |.nilFunc,.func ..=>true
 |.func ..,.nilFunc=>true
 |_,_=>false
def isAgg2:Value->Value->Bool
 |.agg _,.agg _=>true
 |_,_=>false
section
variable {P:Program}
theorem zG (h:jz cx cy=true)(hp:∀ a b,cx=.pointer (some a)->cy=.pointer (some b)->False)(w:World):
  (Go.binOp .eql t cx cy).run P w=((Op.equal t cx cy).run P w).andThen (fun b w=>.ok (.bool b) w):=by
 cases cx<;>cases cy<;>first
  |(simp[jz] at h;done)
  |(simp only[Go.binOp,Sem.run_bind,Sem.run_pure];done)
  |skip
theorem zH (h:jz cx cy=true)(w:World):
  (Go.binOp .neq t cx cy).run P w=((Op.equal t cx cy).run P w).andThen (fun b w=>.ok (.bool (!b)) w):=by
 cases cx<;>cases cy<;>first
  |(simp[jz] at h;done)
  |(simp only[Go.binOp,Sem.run_bind,Sem.run_pure];done)
  |skip
theorem vq (h:jz cx cy=true)(hg:isAgg2 cx cy=true->P.eqGuardType P.depth t=false)(w:World):
  (eqGuard op t Xx Yy cx cy).run P w=.ok () w:=by
 by_cases ha:isAgg2 cx cy=true
 .cases cx<;>cases cy<;>first
   |(simp[isAgg2] at ha;done)
   |exact run_eqGuard_agg w op t Xx Yy _ _ (hg ha)
 .cases cx<;>cases cy<;>first
   |(simp[jz] at h;done)
   |(simp[isAgg2] at ha;done)
   |(cases op<;>simp[eqGuard])
end
theorem qF {P:Program}{ms:Array (String×TypeId)}(D:Nat)(h:P.underlying t=some (.interface ms))(w:World):(Op.equalIn (D+1) t .nilIface .nilIface).run P w=.ok true w:=by simp[Op.equalIn,Go.run_underlying h]
theorem Ic {P:Program}(h:(isConst Xx || isConst Yy)=true)(w:World):(eqGuard op t Xx Yy .nilIface .nilIface).run P w=.ok () w:=by
 cases Xx<;>cases Yy<;>first
  |(simp[isConst] at h;done)
  |(cases op<;>simp[eqGuard])
section
variable {P:Program}{G:Γ}(hG:GOk P G){Y:Ren}
theorem Di (hG:GOk P G){d:Nat}{x y:V}{b:Bool}(h:eqO G d t x y=some b)(hx:Rel Y x cx)(hy:Rel Y y cy)
  (hi:∀ k a k' a',x=.int k a->y=.int k' a'->False)(hs:∀ a a',x=.str a->y=.str a'->False):
  jz cx cy=true/\(isAgg2 cx cy=true->P.eqGuardType P.depth t=false):=by
 cases d with
 |zero=>simp[eqO] at h
 |succ d=>
  simp only[eqO] at h;split at h;·cases h
  .split at h;·cases hx;cases hy;simp[jz,isAgg2]
   .exact absurd rfl (fun e=>hi _ _ _ _ e rfl)
   .exact absurd rfl (fun e=>hs _ _ e rfl)
   .cases hx;cases hy;simp[jz,isAgg2]
   .cases hx;cases hy;simp[jz,isAgg2]
   .cases hx;cases hy;simp[jz,isAgg2]
   .split at h;·cases hx;cases hy;simp[jz,isAgg2]
    .cases h
   .cases hx;cases hy;simp[jz,isAgg2]
   .cases hx;cases hy;simp[jz,isAgg2]
   .split at h;·rename_i he;obtain⟨xs,rfl,_⟩:=hx.ar;obtain⟨ys,rfl,_⟩:=hy.ar;exact⟨rfl,fun _=>(hG.eqs t he).1⟩
    .cases h
   .split at h;·rename_i he _;obtain⟨xs,rfl,_⟩:=hx.ar;obtain⟨ys,rfl,_⟩:=hy.ar;exact⟨rfl,fun _=>(hG.eqs t he).1⟩
    .cases h
   .cases hx;cases hy;simp[jz,isAgg2]
   .cases hx;cases hy<;>simp[jz,isAgg2]
   .cases hy;cases hx<;>simp[jz,isAgg2]
   .cases hx;cases hy;simp[jz,isAgg2]
   .cases hx;cases hy;simp[jz,isAgg2]
   .cases hx;cases hy;simp[jz,isAgg2]
   .cases hx;cases hy;simp[jz,isAgg2]
   .cases hx;cases hy<;>simp[jz,isAgg2]
   .cases hy;cases hx<;>simp[jz,isAgg2]
   .cases h
theorem Et (hG:GOk P G){x y:Option V}{v:V}(h:Lk G op t (isConst Xx || isConst Yy) x y=some v)
  (hx:∀ a,x=some a->Rel Y a cx)(hy:∀ a,y=some a->Rel Y a cy):
  iY P (do eqGuard op t Xx Yy cx cy;Go.binOp op t cx cy) Y v:=by
 unfold Lk at h;split at h
 .
  have h1:=hx _ rfl;have h2:=hy _ rfl;cases h1;cases h2;unfold Lh at h;split at h
  .rename_i hc hty;have ht:=hG.types _ _ hty;have hg:∀ w,(eqGuard op t Xx Yy .nilIface .nilIface).run P w=.ok () w:=by
    intro w;exact Ic hc w
   split at h;·rename_i e;cases h;refine .mk (.bool _) fun w=>?_;simp only[Sem.run_bind,hg,Result.andThen_ok,Go.binOp,Op.equal,Op.maxDepth];rw[qF 9999 (by rw[ht.under,e])];rfl
   .rename_i e;cases h;refine .mk (.bool _) fun w=>?_;simp only[Sem.run_bind,hg,Result.andThen_ok,Go.binOp,Op.equal,Op.maxDepth];rw[qF 9999 (by rw[ht.under,e])];rfl
   .cases h
  .cases h
 .have h1:=hx _ rfl;have h2:=hy _ rfl;cases h1;cases h2;have hg:∀ k a k' b w,(eqGuard op t Xx Yy (.int k a) (.int k' b)).run P w=.ok () w:=by
   intro k a k' b w;cases op<;>simp[eqGuard]
  split at h;·obtain⟨c,r,s⟩:=mZ (P:=P) (Y:=Y) t h;exact .mk r fun w=>by simp only[Sem.run_bind,hg,Result.andThen_ok];exact s w
  .obtain⟨c,r,s⟩:=mZ (P:=P) (Y:=Y) t h;exact .mk r fun w=>by simp only[Sem.run_bind,hg,Result.andThen_ok];exact s w
  .split at h;·rename_i hk;have hk:=of_decide_eq_true hk;subst hk;obtain⟨c,r,s⟩:=zD (P:=P) (Y:=Y) t h;exact .mk r fun w=>by simp only[Sem.run_bind,hg,Result.andThen_ok];exact s w
   .cases h
 .have h1:=hx _ rfl;have h2:=hy _ rfl;cases h1;cases h2;have hg:∀ a b w,(eqGuard op t Xx Yy (.string a) (.string b)).run P w=.ok () w:=by
   intro a b w;cases op<;>simp[eqGuard]
  obtain⟨c,r,s⟩:=zE (P:=P) (Y:=Y) t h;exact .mk r fun w=>by simp only[Sem.run_bind,hg,Result.andThen_ok];exact s w
 .rename_i x y hn hi hs;have h1:=hx _ rfl;have h2:=hy _ rfl;have hi':∀ k a k' a',x=.int k a->y=.int k' a'->False:=fun k a k' a' e1 e2=>by subst e1;subst e2;exact hi _ _ _ _ rfl rfl
  have hs':∀ a a',x=.str a->y=.str a'->False:=fun a a' e1 e2=>by subst e1;subst e2;exact hs _ _ rfl rfl
  split at h
  .split at h
   .rename_i b hp hb;cases h;obtain⟨p1,p2⟩:=Di hG hb h1 h2 hi' hs';refine .mk (.bool _) fun w=>?_;simp only[Sem.run_bind,vq p1 p2,Result.andThen_ok];rw[zG p1 (fun a a' e1 e2=>?_),Op.equal,Op.maxDepth,Bx hG 8 10000 (by omega) _ _ _ _ _ _ hb h1 h2];·rfl
    .subst e1;subst e2;cases h1;cases h2;simp[Qc] at hp
   .cases h
  .split at h;·rename_i b hb;cases h;obtain⟨p1,p2⟩:=Di hG hb h1 h2 hi' hs';refine .mk (.bool _) fun w=>?_;simp only[Sem.run_bind,vq p1 p2,Result.andThen_ok];rw[zH p1,Op.equal,Op.maxDepth,Bx hG 8 10000 (by omega) _ _ _ _ _ _ hb h1 h2];rfl
   .cases h
  .cases h
 .cases h
end
end Go.Ev
namespace Go.Ev
variable {v:V}{x:Option V}{cx:Value}{t:TypeId}
theorem yZ (off:Nat):∀ (xs:List Value) (k:Nat) (cs:Array Value),
  ((xs.zipIdx k).foldl (fun cs (p:Value×Nat)=>cs.setIfInBounds (off+p.2) p.1) cs).size=cs.size /\
  ∀ i,((xs.zipIdx k).foldl (fun cs (p:Value×Nat)=>cs.setIfInBounds (off+p.2) p.1) cs)[i]?=if off+k<=i/\i<off+k+xs.length/\i<cs.size then xs[i - (off+k)]? else cs[i]?
 |[],k,cs=>by refine⟨by simp,fun i=>?_⟩;simp only[List.zipIdx_nil,List.foldl_nil,cO];rw[if_neg (by omega)]
 |x :: xs,k,cs=>by
  obtain⟨h1,h2⟩:=yZ off xs (k+1) (cs.setIfInBounds (off+k) x);simp only[List.zipIdx_cons,List.foldl_cons];refine⟨by rw[h1];simp,fun i=>?_⟩;rw[h2];simp only[dP,aU];by_cases hi:off+(k+1)<=i/\i<off+(k+1)+xs.length/\i<cs.size;·rw[if_pos hi,if_pos (by omega),show i - (off+k)=(i - (off+(k+1)))+1 by omega,aQ]
  .rw[if_neg hi];by_cases e:i=off+k
   .subst e;by_cases hl:off+k<cs.size;·rw[if_pos (by omega),show off+k - (off+k)=0 by omega];simp[hl]
    .rw[if_neg (by omega)];simp[hl]
   .rw[if_neg (by omega),bK (by omega)]
theorem El (off:Nat)(xs cs:Array Value):
  (xs.zipIdx.foldl (fun cs (p:Value×Nat)=>cs.setIfInBounds (off+p.2) p.1) cs).size=cs.size /\
  ∀ i,(xs.zipIdx.foldl (fun cs (p:Value×Nat)=>cs.setIfInBounds (off+p.2) p.1) cs)[i]?=if off<=i/\i<off+xs.size/\i<cs.size then xs[i - off]? else cs[i]?:=by
 rw[<- Array.foldl_toList,Array.toList_zipIdx];have:=yZ off xs.toList 0 cs;simpa using this
def OpR (Y:Ren)(e:Operand->Option V)(f:Operand->Value):Prop:=∀ x v,e x=some v->Rel Y v (f x)
theorem kx {Y:Ren}{e:Operand->Option V}{f:Operand->Value}(hef:OpR Y e f){pl:Nat->Option (Nat×Nat)}{place:Nat->Option (Nat×Nat)}(hpl:∀ i L,pl i=some L->place i=some L)
  {n:Nat}{pat:List V}:∀ {parts:List (Nat×Operand)} {tr tr':T V} {cs:Array Value},qM pl e n parts tr=some tr'->AR Y n pat tr cs ->
   ∃ cs',Instr.fill place cs (parts.map fun p=>(p.1,f p.2))=some cs'/\AR Y n pat tr' cs'
 |[],tr,tr',cs,h,ha=>by simp[qM] at h;subst h;exact⟨cs,rfl,ha⟩
 |p :: rest,tr,tr',cs,h,ha=>by
  simp only[qM] at h;split at h
  .rename_i off size v hp hv;split at h
   .rename_i tr1 ht;have hr:=hef _ _ hv;obtain⟨c1,c2,c3⟩:=yD ht hr ha.one ha.rel;have hsz:=ha.size;obtain⟨f1,f2⟩:=El off (f p.2).cells cs;have ha':=c3 ((f p.2).cells.zipIdx.foldl (fun cs (p:Value×Nat)=>cs.setIfInBounds (off+p.2) p.1) cs) (by rw[f1,hsz]) (fun i=>by
     rw[f2 i];by_cases hi:off<=i/\i<off+size;·rw[if_pos hi,if_pos (by omega)]
     .rw[if_neg hi,if_neg (by omega)])
    obtain⟨cs',h1,h2⟩:=kx hef hpl h ha';refine⟨cs',?_,h2⟩;simp only[aS,Instr.fill,hpl _ _ hp];have:¬ (((f p.2).cells.size≠size || decide (off+(f p.2).cells.size > cs.size))=true):=by simp;omega
    rw[if_neg this];exact h1
   .cases h
  .cases h
section
variable {P:Program}{G:Γ}(hG:GOk P G){Y:Ren}
theorem HU {c a b:Option V}{cc ca cb:Value}(h:Hp c a b=some v)(hc:∀ x,c=some x->Rel Y x cc)(ha:∀ x,a=some x->Rel Y x ca)(hb:∀ x,b=some x->Rel Y x cb):
  iY P (do pure (if <- asBool cc then ca else cb)) Y v:=by
 unfold Hp at h;split at h;·have:=hc _ rfl;cases this;exact .mk (ha v h) fun w=>by simp[asBool]
 .have:=hc _ rfl;cases this;exact .mk (hb v h) fun w=>by simp[asBool]
 .cases h
theorem HV {op:UnOp}(h:pUn op x=some v)(hx:∀ a,x=some a->Rel Y a cx):iY P (Op.unary op cx) Y v:=by
 unfold pUn at h;split at h;·have:=hx _ rfl;cases this;cases h;exact .mk (.bool _) fun w=>by simp[Op.unary]
 .have:=hx _ rfl;cases this;cases h;exact .mk (.int _ _) fun w=>by have e0:∀ m:Int,Int.sub 0 m = -m:=fun m=>Int.zero_sub m;rw[oV];simp[Op.unary,Op.intArith,e0]
 .have:=hx _ rfl;cases this;cases h;exact .mk (.int _ _) fun w=>by rw[oV];simp[Op.unary,Op.intBits]
 .cases h
theorem Em (h:Qd x=some v)(hx:∀ a,x=some a->Rel Y a cx)(o:Oper)(f:Operand->Value)(Xx:Operand)(ho:o.op=.nilCheck Xx)(hXx:f Xx=cx):
  ∃ c,Rel Y v c/\∀ w,(execOp f o).run P w=.ok (.value c) w:=by
 unfold Qd at h;split at h
 .have h1:=hx _ rfl;cases h;cases h1 with
  |ptr hb=>exact⟨_,.ptr hb,fun w=>by simp[execOp,ho,hXx]⟩
 .have h1:=hx _ rfl;cases h;cases h1 with
  |func _ a b c d=>exact⟨_,.func _ a b c d,fun w=>by simp[execOp,ho,hXx]⟩
 .cases h
theorem Br {e:Operand->Option V}{f:Operand->Value}(hef:OpR Y e f){fn:Fn}{first captured:Array Operand}(h:A8 e fn first.toList captured.toList=some v):
  iY P (Instr.makeFunc fn (first.map f) (captured.map f)) Y v:=by
 unfold A8 at h;split at h
 .split at h
  .rename_i a b ha hb;cases h;obtain⟨a1,a2⟩:=fQ ha;obtain⟨b1,b2⟩:=fQ hb;refine .mk (.func _ (by simp[a1]) (by simp[b1]) (fun i v x h1 h2=>?_) (fun i v x h1 h2=>?_)) fun w=>rfl;·simp only[Array.getElem?_map,cH] at h2;obtain⟨y,hy,rfl⟩:=h2;exact hef _ _ (a2 i y v (by simpa using hy) h1)
   .simp only[Array.getElem?_map,cH] at h2;obtain⟨y,hy,rfl⟩:=h2;exact hef _ _ (b2 i y v (by simpa using hy) h1)
  .cases h
 .cases h
theorem um {i:Nat}(h:wK x i=some v)(hx:∀ a,x=some a->Rel Y a cx):iY P (Instr.extract cx i) Y v:=by
 unfold wK at h;split at h
 .have h1:=hx _ rfl;cases h1 with
  |tuple h2 h3=>
   rename_i cs;rw[jb] at h;have hl:=(ai.1 h).1;have hlt:i<cs.size:=by omega
   exact .mk (h3 i v cs[i] h (by simp[hlt])) fun w=>by simp[Instr.extract,hlt]
 .cases h
theorem Bu (hG:GOk P G){s d:TypeId}(h:AY (G.ty s) (G.ty d) x=some v)(hx:∀ a,x=some a->Rel Y a cx):iY P (Go.convert s d cx) Y v:=by
 unfold AY at h;split at h
 .rename_i hs hd;have h1:=hx _ rfl;cases h1;split at h;·rename_i e;cases h;exact .mk (.int _ _) fun w=>by rw[oV];simp[Go.convert,(hG.types _ _ hs).run_underlying,(hG.types _ _ hd).run_underlying,e,Conv.intToInt]
  .cases h
 .rename_i hs hd;have h1:=hx _ rfl;cases h1;split at h;·rename_i e;cases h;exact .mk (.str _) fun w=>by simp[Go.convert,(hG.types _ _ hs).run_underlying,(hG.types _ _ hd).run_underlying,e]
  .cases h
 .cases h
theorem zb (hG:GOk P G)(h:CZ t (G.ty t) x=some v)(hx:∀ a,x=some a->Rel Y a cx):iY P (Instr.makeInterface t cx) Y v:=by
 unfold CZ at h;split at h
 .rename_i ty u hty;split at h;·cases h
  .rename_i hne;cases h;refine .mk (.iface t (hx _ rfl)) fun w=>?_;simp only[Instr.makeInterface,Sem.run_bind,(hG.types _ _ hty).run_underlying,Result.andThen_ok];cases hd:ty.desc<;>first
    |rfl
    |exact absurd hd (hne _)
 .cases h
theorem qR (hG:GOk P G){f:Nat}(h:kq G (G.ty t) x f=some v)(hx:∀ a,x=some a->Rel Y a cx):iY P (Instr.fieldAt t cx f) Y v:=by
 unfold kq at h;split at h
 .rename_i ty b o hty;have h1:=hx _ rfl;cases h1 with
  |ptr hb=>
   rename_i B d z;split at h
   .rename_i fs e;split at h
    .rename_i fd hfd;split at h
     .rename_i ft hft;split at h
      .rename_i h0;cases h;have h0:ft.size≠0:=fun e=>by rw[e] at h0;simp at h0
       have hg:fs[f]?=some fd:=by simpa using hfd
       refine .mk (.ptr hb) fun w=>?_;simp only[Instr.fieldAt,Sem.run_bind,(hG.types _ _ hty).run_underlying,e,Result.andThen_ok,hg,Instr.sureAddr,Sem.run_pure,fieldPlace,(hG.types _ _ hft).run_sizeOf,h0,if_false,Addr.add];by_cases hz:fd.offset=0;·simp[hz]
       .simp[hz,bA]
      .cases h
     .cases h
    .cases h
   .cases h
 .cases h
theorem zc (hG:GOk P G){f:Nat}(h:yJ G (G.ty t) x f=some v)(hx:∀ a,x=some a->Rel Y a cx):iY P (Instr.field t cx f) Y v:=by
 unfold yJ at h;split at h
 .rename_i ty n pat tr hty;obtain⟨cs,rfl,ha⟩:=(hx _ rfl).ar;split at h
  .rename_i fs e;split at h
   .rename_i fd hfd;split at h
    .rename_i ft hft;obtain⟨c,r,s⟩:=ha.mG (hG.types _ _ hft) h;have hg:fs[f]?=some fd:=by simpa using hfd
     exact .mk r fun w=>by simp[Instr.field,(hG.types _ _ hty).run_underlying,e,hg,asAgg,s]
    .cases h
   .cases h
  .cases h
 .cases h
end
end Go.Ev
namespace Go.Ev
variable {Y:Ren}{x:Option V}{v:V}{t:TypeId}{cx:Value}
theorem wU {e:Operand->Option V}{f:Operand->Value}(hef:OpR Y e f){P:Program}{x:Operand}{d hi r:Nat}(h:bnd (some x) e d hi=some r)(Hi:Nat)(hH:hi<=Hi)(code:BoundsCode):
  r<=hi/\∀ w,(Instr.sliceBound (f x) Hi code).run P w=.ok r w:=by
 unfold bnd at h;simp only at h;split at h
 .rename_i k n hn;have hr:=hef _ _ hn;obtain⟨h1,h2⟩:=idx_eq h;have h3:r<=hi:=by omega
  refine⟨h3,fun w=>?_⟩;cases hv:f x with
  |int k' n'=>rw[hv] at hr;cases hr;simp only[Instr.sliceBound,asIntOf,Sem.run_bind,Sem.run_pure,Result.andThen_ok];rw[if_pos (by omega)];simp;omega
  |_=>rw[hv] at hr;cases hr
 .cases h
theorem kW {e:Operand->Option V}{f:Operand->Value}(hef:OpR Y e f){P:Program}{lo hi mx:Option Operand}{len cap l h m:Nat}(hb:wJ e lo hi mx len cap=some (l,h,m))
  (hmh:∀ a,mx=some a->hi≠none)(isS:Bool)(K:Nat)(hK:cap<=K):
  (mx=none->m=cap)/\m<=cap/\(hi≠none->h<=m)/\l<=h/\(hi=none->h=len)/\∀ w,(Instr.sliceBounds isS len K (lo.map f) (hi.map f) (mx.map f)).run P w=.ok (l,h,if mx=none then K else m) w:=by
 unfold wJ at hb;split at hb
 .rename_i m' hm;split at hb
  .rename_i h' hh;split at hb
   .rename_i l' hl;simp only[bW,ez] at hb;obtain⟨rfl,rfl,rfl⟩:=hb;have low:∀ code w (A B:Nat),l'<=h'/\(match lo.map f with
      |some v=>do let l <- Instr.sliceBound v h' code;pure (l,A,B)
      |none=>do let l <- pure 0;pure (l,A,B):Sem (Nat×Nat×Nat)).run P w=.ok (l',A,B) w:=by
     intro code w A B;cases lo with
     |none=>simp[bnd] at hl;subst hl;simp
     |some x=>obtain⟨a,b⟩:=wU hef (P:=P) hl h' (aF _) code;exact⟨a,by simp[b w]⟩
    cases mx with
    |none=>
     simp[bnd] at hm;subst hm;cases hi with
     |none=>simp[bnd] at hh;subst hh;refine⟨fun _=>rfl,aF _,fun h=>absurd rfl h,(low .sliceB default 0 0).1,fun _=>rfl,fun w=>?_⟩;have:=fun A B=>(low .sliceB w A B).2;simp only[Instr.sliceBounds,dR,Sem.run_bind,Sem.run_pure,Result.andThen_ok,cT,aW,if_false,if_true];exact this _ _
     |some y=>obtain⟨a,b⟩:=wU hef (P:=P) hh K hK (if isS=true then .sliceAcap else .sliceAlen);refine⟨fun _=>rfl,aF _,fun _=>a,(low .sliceB default 0 0).1,fun h=>by simp at h,fun w=>?_⟩;have:=fun A B=>(low .sliceB w A B).2;simp only[Instr.sliceBounds,dR,cA,Sem.run_bind,Sem.run_pure,Result.andThen_ok,cT,aW,if_false,if_true];rw[b w];simp only[Result.andThen_ok];exact this _ _
    |some z=>
     obtain⟨a,b⟩:=wU hef (P:=P) hm K hK (if isS=true then .slice3Acap else .slice3Alen);cases hi with
     |none=>exact absurd rfl (hmh z rfl)
     |some y=>obtain⟨a',b'⟩:=wU hef (P:=P) hh m' (aF _) .slice3B;refine⟨fun h=>by simp at h,a,fun _=>a',(low .slice3C default 0 0).1,fun h=>by simp at h,fun w=>?_⟩;have:=fun A B=>(low .slice3C w A B).2;simp only[Instr.sliceBounds,cA,Sem.run_bind,Option.isSome_some,if_true];rw[b w];simp only[Result.andThen_ok];rw[b' w];simp only[Result.andThen_ok];exact this _ _
   .cases hb
  .cases hb
 .cases hb
theorem ze (B d o l s m:Nat):(if m=l then (⟨B,d+o,none⟩:Addr) else (⟨B,d+o,none⟩:Addr).add (l * s))=⟨B,d+nE o l s m,none⟩:=by
 unfold nE;by_cases h:m=l;·have:Nat.beq m l=true:=T.beq_true.2 h;rw[this];simp[h]
 .rw[T.beq_false h];rw[if_neg h];simp only[Addr.add];by_cases hz:l * s=0;·simp[hz]
  .rw[if_neg hz];simp only[Addr.mk.injEq,true_and,and_true];show d+o+l * s=d+(o+l * s);omega
theorem oQ (s:List UInt8)(l h:Nat):(⟨s.toArray⟩:ByteArray).extract l h=⟨((s.drop l).take (h - l)).toArray⟩:=by
 apply ByteArray.ext;simp[ByteArray.data_extract,List.extract_toArray]
 done
theorem fH.J5 {u:V}{a b:Value}(h:Rel Y v a)(k:Rel Y u b):Rel Y (.tuple [v,u]) (.tuple #[a,b]):=by
 refine .tuple rfl fun i x y h1 h2=>?_;match i with
 |0=>simp at h1 h2;subst h1;subst h2;exact h
 |1=>simp at h1 h2;subst h1;subst h2;exact k
 |i+2=>simp at h1
section
variable {P:Program}{G:Γ}(hG:GOk P G){Y:Ren}
theorem qS (hG:GOk P G){ix:Option V}{ci:Value}(h:gY G (G.ty t) x ix=some v)(hx:∀ a,x=some a->Rel Y a cx)(hi:∀ a,ix=some a->Rel Y a ci):iY P (Instr.indexAt t cx ci) Y v:=by
 unfold gY at h;split at h
 .rename_i ty b o k i hty;have h1:=hx _ rfl;have h2:=hi _ rfl;cases h2;cases h1 with
  |ptr hb=>
   rename_i B d z;split at h
   .rename_i len elem e;split at h
    .rename_i q te hq hte;cases h;obtain⟨q1,q2⟩:=idx_eq hq;refine .mk (.ptr hb) fun w=>?_;simp only[Instr.indexAt,asIntOf,Sem.run_bind,Sem.run_pure,Result.andThen_ok,(hG.types _ _ hty).run_underlying,e,Instr.sureAddr];rw[if_pos (by omega)];simp only[Sem.run_bind,(hG.types _ _ hte).run_sizeOf,Result.andThen_ok,Sem.run_pure,Addr.add,show i.toNat=q by omega];by_cases hz:q * te.size=0;·simp[hz]
     .rw[if_neg hz];simp only[bA];rfl
    .cases h
   .cases h
 .rename_i ty b o len cap k i hty;have h1:=hx _ rfl;have h2:=hi _ rfl;cases h2;split at h
  .rename_i elem e;split at h
   .rename_i q te hq hte;cases h;obtain⟨q1,q2⟩:=idx_eq hq;have go:∀ (B d z c:Nat),Y b=some (B,d,z)->iY P (Instr.indexAt t (.slice (some ⟨B,d+o,none⟩) len c) (.int k i)) Y (.ptr b (Nat.add o (Nat.mul q te.size))):=by
     intro B d z c hb;refine .mk (.ptr hb) fun w=>?_;simp only[Instr.indexAt,asIntOf,Sem.run_bind,Sem.run_pure,Result.andThen_ok,(hG.types _ _ hty).run_underlying,e];rw[if_pos (by omega)];simp only[Sem.run_bind,(hG.types _ _ hte).run_sizeOf,Result.andThen_ok,Sem.run_pure,Addr.add,show i.toNat=q by omega];by_cases hz:q * te.size=0;·simp[hz]
     .rw[if_neg hz];simp only[bA];rfl
    cases h1 with
    |sliceK hb=>exact go _ _ _ _ hb
    |sliceA hb _ _=>exact go _ _ _ _ hb
    |sliceZ a=>omega
   .cases h
  .cases h
 .cases h
theorem zf (hG:GOk P G){ix:Option V}{ci:Value}(h:oE G (G.ty t) x ix=some v)(hx:∀ a,x=some a->Rel Y a cx)(hi:∀ a,ix=some a->Rel Y a ci):iY P (Instr.index t cx ci) Y v:=by
 unfold oE at h;split at h
 .rename_i ty n pat tr k i hty;obtain⟨cs,rfl,ha⟩:=(hx _ rfl).ar;have h2:=hi _ rfl;cases h2;split at h
  .rename_i len elem e;split at h;·rename_i q te hq hte;obtain⟨q1,q2⟩:=idx_eq hq;obtain⟨c,r,s⟩:=ha.mG (hG.types _ _ hte) h;refine .mk r fun w=>?_;simp only[Instr.index,asIntOf,Sem.run_bind,Sem.run_pure,Result.andThen_ok,(hG.types _ _ hty).run_underlying,e];rw[if_pos (by omega)];simp only[Sem.run_bind,(hG.types _ _ hte).run_sizeOf,Result.andThen_ok,show i.toNat=q by omega];exact s w
   .cases h
  .cases h
 .rename_i ty s kk k hty;have h1:=hx _ rfl;have h2:=hi _ rfl;cases h1;cases h2;split at h
  .rename_i e;split at h
   .rename_i b hb;cases h;rw[jb] at hb;refine .mk (.int _ _) fun w=>?_;have hl:=(ai.1 hb).1;have hget:(⟨s.toArray⟩:ByteArray)[k]?=some b:=by
     have h3:k<(⟨s.toArray⟩:ByteArray).size:=by simpa [ByteArray.size] using hl
     rw[getElem?_pos (⟨s.toArray⟩:ByteArray) k h3];have:=(ai.1 hb).2;simp[ByteArray.getElem_eq_getElem_data,this]
    simp only[Instr.index,asIntOf,Sem.run_bind,Sem.run_pure,Result.andThen_ok,(hG.types _ _ hty).run_underlying,e];simp[hget]
   .cases h
  .cases h
 .cases h
theorem wV (hG:GOk P G){xt:TypeId}{ok:Bool}(h:pJ t (G.ty t) x ok=some v)(hx:∀ a,x=some a->Rel Y a cx):iY P (Instr.typeAssert cx xt t ok) Y v:=by
 unfold pJ at h;split at h
 .rename_i ty u hty;have ht:=hG.types _ _ hty;have h1:=hx _ rfl;have zero:∀ z,ty.zero=some z->∃ c,(∀ w,(zeroValue t).run P w=.ok c w)/\Rel Y z c:=fun z hz=>let ⟨c,a,b⟩:=ht.mF hz;⟨c,a,b Y⟩;split at h;·cases h
  .rename_i hne;cases h1;split at h
   .rename_i z hz;cases h;obtain⟨c,s,r⟩:=zero z hz;refine .mk (fH.J5 r (.bool false)) fun w=>?_;simp only[Instr.typeAssert,Sem.run_bind,ht.run_underlying,Result.andThen_ok];cases hd:ty.desc<;>first
     |exact absurd hd (hne _)
     |(simp[s])
   .cases h
  .rename_i hne;cases h1 with
   |iface _ hr=>
    split at h
    .rename_i he;rw[T.beq_true] at he;split at h
     .cases h;refine .mk (fH.J5 hr (.bool true)) fun w=>?_
      simp only[Instr.typeAssert,Sem.run_bind,ht.run_underlying,Result.andThen_ok];cases hd:ty.desc<;>first
       |exact absurd hd (hne _)
       |(simp[he])
     .cases h;refine .mk hr fun w=>?_
      simp only[Instr.typeAssert,Sem.run_bind,ht.run_underlying,Result.andThen_ok];cases hd:ty.desc<;>first
       |exact absurd hd (hne _)
       |(simp[he])
    .rename_i t' _ _ _ he;have he:t'≠t:=fun e=>by rw[e] at he;simp at he
     split at h
     .rename_i z hz;cases h;obtain⟨c,s,r⟩:=zero z hz;refine .mk (fH.J5 r (.bool false)) fun w=>?_;simp only[Instr.typeAssert,Sem.run_bind,ht.run_underlying,Result.andThen_ok];cases hd:ty.desc<;>first
       |exact absurd hd (hne _)
       |(simp[he,s])
     .cases h
  .cases h
 .cases h
end
end Go.Ev
namespace Go.Ev
variable {e:Operand->Option V}{f:Operand->Value}{t:TypeId}{v:V}
theorem En (B d o l s m:Nat):(if m=l then some (⟨B,d+o,none⟩:Addr) else (some (⟨B,d+o,none⟩:Addr)).map (·.add (l * s)))=some ⟨B,d+nE o l s m,none⟩:=by rw[<- ze];split<;>rfl
theorem Dd (B d o k:Nat):(⟨B,d+o,none⟩:Addr).add k=⟨B,d+(o+k),none⟩:=by
 simp only[Addr.add];by_cases hz:k=0;·simp[hz]
 .rw[if_neg hz,bA]
section
variable {P:Program}{G:Γ}(hG:GOk P G){Y:Ren}
theorem zh (hG:GOk P G)(hef:OpR Y e f){x:Operand}{lo hi mx:Option Operand}(h:gN G (G.ty t) e x lo hi mx=some v):
  iY P (Instr.sliceAt t (f x) (lo.map f) (hi.map f) (mx.map f)) Y v:=by
 unfold gN at h;split at h
 .rename_i ty u hty hu;have ht:=hG.types _ _ hty;have hr:=hef _ _ hu;generalize f x=cx at hr ⊢;have exact_cap:∀ {len c l hh m:Nat},wJ e lo hi mx len c=some (l,hh,m)->(∀ a,mx=some a->hi≠none)->∀ isS w,(Instr.sliceBounds isS len c (lo.map f) (hi.map f) (mx.map f)).run P w=.ok (l,hh,m) w:=by
   intro len c l hh m hb hmh isS w;obtain⟨b0,b1,b2,b3,b4,b5⟩:=kW hef (P:=P) hb hmh isS c (aF _);rw[b5 w];split;·rename_i hm;rw[b0 hm]
   .rfl
  split at h
  .
   rename_i n elem b o e1;split at h;·cases h
   .rename_i hmh;split at h
    .rename_i l hh m te hb hte;cases h;have b5:=exact_cap hb (fun a ha hn=>hmh a ha hn) false;cases hr with
     |ptr hb'=>refine .mk (.sliceK hb') fun w=>?_;simp only[Instr.sliceAt,Sem.run_bind,ht.run_underlying,e1,Result.andThen_ok,Instr.sureAddr,Sem.run_pure,b5,(hG.types _ _ hte).run_sizeOf,ze];rfl
    .cases h
  .
   rename_i elem b o len c e1;split at h;·cases h
   .rename_i hmh;split at h
    .rename_i l hh m te hb hte;cases h;have b5:=exact_cap hb (fun a ha hn=>hmh a ha hn) true;cases hr with
     |sliceK hb'=>refine .mk (.sliceK hb') fun w=>?_;simp only[Instr.sliceAt,Sem.run_bind,ht.run_underlying,e1,Result.andThen_ok,Instr.slice,Sem.run_pure,b5,(hG.types _ _ hte).run_sizeOf,En];rfl
    .cases h
  .
   rename_i elem b o len c es e1;split at h;·cases h
   .
    rename_i z y;split at h
    .rename_i l hh m te hb hte;split at h
     .rename_i hml;rw[T.beq_true] at hml;subst hml;cases h;have go:∀ (a:Addr) (k:Nat),c<=k->iY P (Instr.sliceAt t (.slice (some a) len k) (lo.map f) ((some y).map f) ((some z).map f)) Y (.slice b o 0 (.atl 0 es)):=by
       intro a k hk;obtain⟨b0,b1,b2,b3,b4,b5⟩:=kW hef (P:=P) hb (fun a ha=>by simp) true k hk;have b2:=b2 (by simp);refine .mk (.sliceZ a) fun w=>?_;simp only[Instr.sliceAt,Sem.run_bind,ht.run_underlying,e1,Result.andThen_ok,Instr.slice,Sem.run_pure,b5,(hG.types _ _ hte).run_sizeOf];have:hh=m:=by omega
       simp[this]
      cases hr with
      |sliceA hb' hm hz=>exact go _ _ hm
      |sliceZ a=>exact go _ _ (aF _)
     .rename_i hml;have hml:m≠l:=fun e=>by rw[e] at hml;simp at hml
      cases h;cases hr with
      |sliceA hb' hm hz=>rename_i k B d zz;obtain⟨b0,b1,b2,b3,b4,b5⟩:=kW hef (P:=P) hb (fun a ha=>by simp) true k hm;refine .mk (.sliceK hb') fun w=>?_;simp only[Instr.sliceAt,Sem.run_bind,ht.run_underlying,e1,Result.andThen_ok,Instr.slice,Sem.run_pure,b5,(hG.types _ _ hte).run_sizeOf];simp only[reduceCtorEq,if_false,if_neg hml,cA,Dd];rfl
      |sliceZ a=>obtain⟨b0,b1,b2,b3,b4,b5⟩:=kW hef (P:=P) hb (fun a ha=>by simp) true 0 (aF _);have b2:=b2 (by simp);omega
    .cases h
   .
    rename_i hno;split at h
    .rename_i l hh m te hb hte;split at h
     .rename_i hes;simp only[ae,T.beq_true] at hes;obtain⟨hes,hhm⟩:=hes;have hhm:=az hhm;subst hes;cases h;cases hr with
      |sliceA hb' hm hz=>
       rename_i k B d zz;obtain⟨b0,b1,b2,b3,b4,b5⟩:=kW hef (P:=P) hb (fun a ha=>by simp at ha) true k hm;have b0:=b0 rfl;subst b0;have b6:∀ w,(Instr.sliceAt t (.slice (some ⟨B,d+o,none⟩) len k) (lo.map f) (hi.map f) ((none:Option Operand).map f)).run P w =
         .ok (.slice (if k=l then some ⟨B,d+o,none⟩ else some ⟨B,d+(o+l * te.size),none⟩) (hh - l) (k - l)) w:=by
        intro w;simp only[Instr.sliceAt,Sem.run_bind,ht.run_underlying,e1,Result.andThen_ok,Instr.slice,Sem.run_pure,b5,(hG.types _ _ hte).run_sizeOf];simp only[if_true,cA,Dd]
       have n1:Nat.sub hh l=hh - l:=rfl;have n2:Nat.sub m l=m - l:=rfl;by_cases hkl:k=l
       .have hz1:hh - l=0:=by omega
        have hz2:m - l=0:=by omega
        rw[n1,n2,hz1,hz2];refine .mk (.sliceZ ⟨B,d+o,none⟩) fun w=>?_;rw[b6 w,if_pos hkl,hz1,show k - l=0 by omega]
       .refine .mk (.sliceA hb' (k:=k - l) ?_ ?_) fun w=>?_;·rw[n2];omega
        .show d+(o+l * te.size)+(k - l) * te.size<=zz;have:l * te.size+(k - l) * te.size=k * te.size:=by
          rw[<- bH];congr 1;omega
         omega
        .rw[b6 w,if_neg hkl];rfl
      |sliceZ a=>
       obtain⟨b0,b1,b2,b3,b4,b5⟩:=kW hef (P:=P) hb (fun a ha=>by simp at ha) true 0 (aF _);have hl:l=0:=by omega
       have hh0:hh=0:=by omega
       have hm0:m=0:=by omega
       subst hl;subst hh0;subst hm0;refine .mk (.sliceZ a) fun w=>?_;simp only[Instr.sliceAt,Sem.run_bind,ht.run_underlying,e1,Result.andThen_ok,Instr.slice,Sem.run_pure,b5,(hG.types _ _ hte).run_sizeOf];simp
     .cases h
    .cases h
  .
   rename_i elem e1;split at h;·cases h
   .rename_i hmh;split at h
    .rename_i r te hb hte;cases h;obtain⟨l,hh,m⟩:=r;have b5:=exact_cap hb (fun a ha hn=>hmh a ha hn) true;obtain⟨b0,b1,b2,b3,b4,_⟩:=kW hef (P:=P) hb (fun a ha hn=>hmh a ha hn) true 0 (aF _);have hm0:m=0:=by omega
     have hh0:hh=0:=by
      cases hi with
      |none=>exact b4 rfl
      |some y=>have:=b2 (by simp);omega
     have hl:l=0:=by omega
     subst hm0;subst hh0;subst hl;cases hr;refine .mk .nils fun w=>?_;simp only[Instr.sliceAt,Sem.run_bind,ht.run_underlying,e1,Result.andThen_ok,Instr.slice,Sem.run_pure,b5,(hG.types _ _ hte).run_sizeOf];simp
    .cases h
  .
   rename_i s e1;split at h;·cases h
   .split at h
    .rename_i l hh m hb;split at h
     .rename_i r hr';cases h;have b5:=exact_cap hb (fun a ha=>by simp at ha) false;obtain⟨r1,r2⟩:=iL _ _ _ hr';rw[iM] at r1;cases hr;refine .mk (.str r) fun w=>?_;have hsz:(⟨s.toArray⟩:ByteArray).size=s.length:=by simp[ByteArray.size]
      simp only[Instr.sliceAt,Sem.run_bind,ht.run_underlying,e1,Result.andThen_ok,Instr.slice,Sem.run_pure,dR,cT,aW,if_false,hsz];have b5:=b5 w;simp only[dR] at b5;rw[b5,r1];simp only[Result.andThen_ok,oQ];rfl
     .cases h
    .cases h
  .cases h
 .cases h
theorem Eo (hG:GOk P G){ty':TypeId}{x:Option V}{cx:Value}(h:Ov (G.ty t) x=some v)(hx:∀ a,x=some a->Rel Y a cx):iY P (Builtin.cap_ #[t] ty' #[cx]) Y v:=by
 unfold Ov at h;split at h
 .rename_i ty u hty;have ht:=hG.types _ _ hty;have hr:=hx _ rfl;split at h;·rename_i e1;cases h;cases hr;refine .mk (.int _ _) fun w=>?_;simp[Builtin.cap_,ht.run_underlying,e1,goInt]
  .rename_i e1;cases h;cases hr;refine .mk (.int _ _) fun w=>?_;simp[Builtin.cap_,ht.run_underlying,e1,goInt]
  .cases h
 .cases h
theorem zj (hG:GOk P G)(hef:OpR Y e f){parts:Array (Nat×Operand)}(h:qv G (G.ty t) e parts.toList=some v):
  iY P (Instr.build t (parts.map fun p=>(p.1,f p.2))) Y v:=by
 unfold qv at h;split at h
 .rename_i ty hty;have ht:=hG.types _ _ hty;split at h
  .rename_i n pat tr hz hbd;split at h
   .rename_i tr' hf;cases h;obtain⟨i,i1,i2,i3,i4⟩:=ht.info;obtain⟨c,c1,c2⟩:=i4 _ hz;obtain⟨cs,rfl,ha⟩:=(c2 Y).ar;cases hd:ty.desc with
    |struct fs=>
     have hfl:∀ f,f∈fs.toList->∃ ft,G.ty f.type=some ft:=fun f hf=>let ⟨ft,a,_⟩:=hG.fields t ty fs hty hd f hf;⟨ft,a⟩;have places:∀ l:List Field,(∀ f,f∈l->∃ ft,G.ty f.type=some ft)->∃ ps:List (Nat×Nat),l.mapM (fun f=>(P.info? f.type).map fun i=>(f.offset,i.size))=some ps /\
       ∀ (k:Nat) (fd:Field) (ft:TY),l[k]?=some fd->G.ty fd.type=some ft->ps[k]?=some (fd.offset,ft.size):=by
      intro l;induction l with
      |nil=>intro _;exact⟨[],rfl,fun k fd ft h=>by simp at h⟩
      |cons fd l ih=>
       intro hl;obtain⟨ps,p1,p2⟩:=ih fun f hf=>hl f (by simp[hf]);obtain⟨ft,hft⟩:=hl fd (by simp);obtain⟨j,j1,j2,_⟩:=(hG.types _ _ hft).info;refine⟨(fd.offset,ft.size) :: ps,by simp[p1,j1,j2],fun k fd' ft' hk hft'=>?_⟩;cases k with
       |zero=>simp at hk;subst hk;rw[hft] at hft';cases hft';rfl
       |succ k=>simp at hk;exact p2 k fd' ft' hk hft'
     obtain⟨ps,p1,p2⟩:=places fs.toList hfl;obtain⟨cs',f1,f2⟩:=kx hef (place:=(ps.toArray[·]?)) (fun k L hL=>by
      unfold place at hL;simp only[hd] at hL;split at hL
      .rename_i fd hfd;split at hL;·rename_i ft hft;cases hL;simpa using p2 k fd ft hfd hft
       .cases hL
      .cases hL) hf ha
     refine .mk f2.rel' fun w=>run_build w t _ cs' ?_;simp only[Program.built,i1,ht.under,hd,c1,p1,Value.cells,cz];exact f1
    |array len elem=>
     obtain hte|hte:(∃ te,G.ty elem=some te)\/G.ty elem=none:=by cases G.ty elem<;>simp
     .obtain⟨te,hte⟩:=hte;obtain⟨j,j1,j2,_⟩:=(hG.types _ _ hte).info;obtain⟨cs',f1,f2⟩:=kx hef (place:=fun i=>some (i * j.size,j.size)) (fun k L hL=>by
       unfold place at hL;simp only[hd,hte] at hL;cases hL;rw[j2];rfl) hf ha
      refine .mk f2.rel' fun w=>run_build w t _ cs' ?_;simp only[Program.built,i1,ht.under,hd,c1,j1,Value.cells,cz];exact f1
     .simp[buildable,hd,hte] at hbd
    |_=>simp[buildable,hd] at hbd
   .cases h
  .cases h
 .cases h
theorem HW {k:IntKind}{less:Int->Int->Bool}{f2:Value->Value->Sem Value}(hf:∀ k k' x y w,(f2 (.int k x) (.int k' y)).run P w=.ok (.int k (if less y x then y else x)) w):
  ∀ {l:List V} {x:Int} {cs:List Value} {v:V},oF.go less k x l=some v->fH Y l cs->∃ c,Rel Y v c/\∀ w,(cs.foldlM f2 (.int k x)).run P w=.ok c w
 |[],x,cs,v,h,hr=>by rw[hr.of_nil];simp[oF.go] at h;subst h;exact⟨_,.int _ _,fun w=>rfl⟩
 |.int k' y :: l,x,cs,v,h,hr=>by obtain⟨c,cs',rfl,h1,h2⟩:=hr.zaa;cases h1;simp only[oF.go] at h;obtain⟨c,r,s⟩:=HW hf h h2;refine⟨c,r,fun w=>?_⟩;simp only[List.foldlM_cons,Sem.run_bind,hf,Result.andThen_ok];have:=s w;revert this;cases less y x<;>exact id
 |.bool _ :: _,_,_,_,h,_=>by simp[oF.go] at h
 |.str _ :: _,_,_,_,h,_=>by simp[oF.go] at h
 |.nilp :: _,_,_,_,h,_=>by simp[oF.go] at h
 |.ptr _ _ :: _,_,_,_,h,_=>by simp[oF.go] at h
 |.nils :: _,_,_,_,h,_=>by simp[oF.go] at h
 |.slice .. :: _,_,_,_,h,_=>by simp[oF.go] at h
 |.nilm :: _,_,_,_,h,_=>by simp[oF.go] at h
 |.map _ :: _,_,_,_,h,_=>by simp[oF.go] at h
 |.func .. :: _,_,_,_,h,_=>by simp[oF.go] at h
 |.nilf :: _,_,_,_,h,_=>by simp[oF.go] at h
 |.iface .. :: _,_,_,_,h,_=>by simp[oF.go] at h
 |.nili :: _,_,_,_,h,_=>by simp[oF.go] at h
 |.agg .. :: _,_,_,_,h,_=>by simp[oF.go] at h
 |.tuple _ :: _,_,_,_,h,_=>by simp[oF.go] at h
theorem kX (hef:OpR Y e f){args:List Operand}{vs:List V}(h:eX e args=some vs):fH Y vs (args.map f):=by obtain⟨a1,a2⟩:=fQ h;refine⟨by simp[a1],fun i v x h1 h2=>?_⟩;simp only[aL,cH] at h2;obtain⟨y,hy,rfl⟩:=h2;exact hef _ _ (a2 i y v hy h1)
theorem vg (hef:OpR Y e f){args:List Operand}{less:Int->Int->Bool}{f2:Value->Value->Sem Value}(hf:∀ k k' x y w,(f2 (.int k x) (.int k' y)).run P w=.ok (.int k (if less y x then y else x)) w)
  {v:V}(h:oF (eX e args) less=some v):∃ y ys,args.map f=y :: ys/\iY P (ys.foldlM f2 y) Y v:=by
 unfold oF at h;split at h;·rename_i k x rest hl;have hr:=kX hef hl;obtain⟨c,cs',h0,h1,h2⟩:=hr.zaa;cases h1;exact⟨_,_,h0,HW hf h h2⟩
 .cases h
end
end Go.Ev
namespace Go.Ev
section
variable {P:Program}{G:Γ}(hG:GOk P G){Y:Ren}
theorem iY.next {s:Sem Value}{v:V}{n:Sem Next}(h:iY P s Y v)(hn:n=(do pure (.value (<- s)):Sem Next)):∃ c,Rel Y v c/\∀ w,n.run P w=.ok (.value c) w:=by obtain⟨c,r,s⟩:=h;exact⟨c,r,fun w=>by rw[hn];simp[s w]⟩
theorem OpR.opt {e:Operand->Option V}{f:Operand->Value}(hef:OpR Y e f)(x:Operand):∀ a,e x=some a->Rel Y a (f x):=fun a h=>hef x a h
set_option maxHeartbeats 1000000 in
theorem Nr (hG:GOk P G){e:Operand->Option V}{f:Operand->Value}(hef:OpR Y e f){o:Oper}{v:V}(h:act G e o.op=.val (some v)):∃ c,Rel Y v c/\∀ w,(execOp f o).run P w=.ok (.value c) w:=by
 cases ho:o.op<;>rw[ho] at h<;>simp only[act,reduceCtorEq,Ac.val.injEq] at h;case move x=>exact⟨_,hef _ _ h,fun w=>by simp[execOp,ho]⟩
 case assign x=>exact⟨_,hef _ _ h,fun w=>by simp[execOp,ho]⟩
 case pick c a b=>obtain⟨r,h1,h2⟩:=HU (P:=P) h (hef.opt c) (hef.opt a) (hef.opt b);refine⟨r,h1,fun w=>?_⟩;have:=h2 w;simp only[Sem.run_bind,Sem.run_pure] at this;simp only[execOp,ho,Sem.run_bind,Sem.run_pure];cases hb:(asBool (f c)).run P w<;>rw[hb] at this<;>simp_all
 case build t ps=>exact(zj hG hef h).next (by simp only[execOp,ho])
 case nilCheck x=>exact Em h (hef.opt x) o f x ho rfl
 case binOp op t x y c=>exact(Et hG h (hef.opt x) (hef.opt y)).next (by simp only[execOp,ho])
 case unOp op t x=>exact(HV h (hef.opt x)).next (by simp only[execOp,ho])
 case convert s d x=>
  split at h;·cases h
  .simp only[Ac.val.injEq] at h;exact(Bu hG h (hef.opt x)).next (by simp only[execOp,ho])
 case makeInterface t x=>exact(zb hG h (hef.opt x)).next (by simp only[execOp,ho])
 case makeFunc fn first captured=>exact(Br hef h).next (by simp only[execOp,ho])
 case makeMap t r=>cases r<;>simp at h
 case slice t x lo hi mx=>exact(zh hG hef h).next (by simp only[execOp,ho])
 case fieldAddr s x n=>exact(qR hG h (hef.opt x)).next (by simp only[execOp,ho])
 case field s x n=>exact(zc hG h (hef.opt x)).next (by simp only[execOp,ho])
 case indexAddr t x i=>exact(qS hG h (hef.opt x) (hef.opt i)).next (by simp only[execOp,ho])
 case index t x i=>exact(zf hG h (hef.opt x) (hef.opt i)).next (by simp only[execOp,ho])
 case typeAssert x xt t ok=>exact(wV hG (xt:=xt) h (hef.opt x)).next (by simp only[execOp,ho])
 case extract t i=>exact(um h (hef.opt t)).next (by simp only[execOp,ho])
 case call c=>
  unfold fX at h;split at h;·cases h
  .cases h
  .rename_i b hb;unfold fh at h;split at h;·cases h
   .rename_i t x ht hx;simp only[Ac.val.injEq] at h;refine(Eo hG (t:=t) (ty':=o.type) h (hef.opt x)).next ?_
    have h1:c.argTypes = #[t]:=by rw[<- aP (xs:=c.argTypes),ht]
    have h2:c.args = #[x]:=by rw[<- aP (xs:=c.args),hx]
    simp only[execOp,ho,resolve,hb,pure_bind,invoke,builtin,h1,h2,cR,aS,cB]
   .rename_i t args;simp only[Ac.val.injEq] at h;obtain⟨y,ys,e1,g⟩:=vg (P:=P) hef (f2:=Builtin.min2) (fun k k' x y w=>by simp only[Builtin.min2,Sem.run_pure,lj,decide_eq_true_eq]) h;refine g.next ?_;simp only[execOp,ho,resolve,hb,pure_bind,invoke,builtin,Builtin.min_,cz,e1]
   .rename_i t args;simp only[Ac.val.injEq] at h;obtain⟨y,ys,e1,g⟩:=vg (P:=P) hef (f2:=Builtin.max2) (fun k k' x y w=>by simp only[Builtin.max2,Sem.run_pure,lj,decide_eq_true_eq]) h;refine g.next ?_;simp only[execOp,ho,resolve,hb,pure_bind,invoke,builtin,Builtin.max_,cz,e1]
   .cases h
   .cases h
   .cases h
   .rename_i t x hx;simp only[Ac.val.injEq] at h;have h2:c.args = #[x]:=by rw[<- aP (xs:=c.args),hx]
    have hn:execOp f o=(do pure (.value (<- Builtin.unsafeSliceData_ c.argTypes o.type #[f x])):Sem Next):=by simp only[execOp,ho,resolve,hb,pure_bind,invoke,builtin,h2,cR,aS,cB]
    have run:∀ c',(∀ w,(Builtin.unsafeSliceData_ c.argTypes o.type #[f x]).run P w=.ok c' w)->Rel Y v c'->∃ c,Rel Y v c/\∀ w,(execOp f o).run P w=.ok (.value c) w:=fun c' h1 h2=>⟨c',h2,fun w=>by rw[hn];simp[h1 w]⟩;unfold uP at h;split at h;·rename_i hu;cases h;have hr:=hef x _ hu;generalize hcx:f x=cx at hr;cases hr;exact run (.pointer none) (fun w=>by rw[hcx];rfl) .nilp
    .rename_i b o' n m hu;cases h;have hr:=hef x _ hu;generalize hcx:f x=cx at hr;cases hr with
     |sliceK hb'=>exact run _ (fun w=>by rw[hcx];rfl) (.ptr hb')
    .rename_i b o' n m es hu;cases h;have hr:=hef x _ hu;generalize hcx:f x=cx at hr;cases hr with
     |sliceA hb' hm hz=>
      rename_i k B d z;refine run (.pointer (some ⟨B,d+o',none⟩)) (fun w=>?_) (.ptr hb');rw[hcx];have:k≠0:=by omega
      obtain⟨k,rfl⟩:=Nat.exists_eq_succ_of_ne_zero this;rfl
    .cases h
   all_goals cases h
end
variable {w:World}{B n d:Nat}{pat:List V}{tr:T V}{h:H}
theorem Qr (v:Value):one v=v.oneCell':=by cases v<;>rfl
structure Lo (w w':World)(B:Nat)(c':Obj):Prop where
 here:w'.heap[B]?=some c'
 other:∀ B',B'≠B->w'.heap[B']?=w.heap[B']?
 size:w'.heap.size=w.heap.size
 tape:w'.tape=w.tape
 os:w'.os=w.os
 output:w'.output=w.output
structure Qs (w w':World)(c:Obj):Prop where
 heap:w'.heap=w.heap.push c
 tape:w'.tape=w.tape
 os:w'.os=w.os
 output:w'.output=w.output
theorem Lo.trans {w' w'':World}{c c':Obj}(a:Lo w w' B c)(b:Lo w' w'' B c'):Lo w w'' B c' where
 here:=b.here
 other B' h:=by rw[b.other B' h,a.other B' h]
 size:=by rw[b.size,a.size]
 tape:=by rw[b.tape,a.tape]
 os:=by rw[b.os,a.os]
 output:=by rw[b.output,a.output]
theorem Addr.pO (B off i:Nat):(⟨B,off,none⟩:Addr).add i=⟨B,off+i,none⟩:=by unfold Addr.add;split<;>simp_all
section
variable {P:Program}
theorem kT {off k:Nat}{cs:Array Value}{el:TypeId}{fr:Nat×Nat}(hg:w.heap[B]?=some (.cells cs el fr))(h:off+k<=cs.size\/k=0):
  (loadCells ⟨B,off,none⟩ k).run P w=.ok (cs.extract off (off+k)) w:=by
 have hl:(cs.extract off (off+k)).toList.length=k:=by simp only[aT,cE];omega
 have:=run_loadCells_list (P:=P) w ⟨B,off,none⟩ (cs.extract off (off+k)).toList (fun j v hv=>by
  rw[Addr.pO];simp only[World.cell?,hg,cT,aW,if_false];have hv:(cs.extract off (off+k))[j]?=some v:=by rw[<- aM];exact hv
  exact gD _ _ _ _ _ hv)
 rw[hl,aP] at this;exact this
theorem jW {B off:Nat}{el:TypeId}{lo hi:Nat}:∀ (vs:List Value) (i:Nat) (cs:Array Value) (w:World),w.heap[B]?=some (.cells cs el (lo,hi)) ->
  (∀ k,k<cs.size->¬ (lo<=k/\k<hi))->off+i+vs.length<=cs.size->(∀ v∈vs,one v=true) ->
  ∃ w' cs',(storeCells ⟨B,off,none⟩ vs i).run P w=.ok () w'/\Lo w w' B (.cells cs' el (lo,hi))/\cs'.size=cs.size /\
   ∀ k,cs'[k]?=if off+i<=k/\k<off+i+vs.length then vs[k - (off+i)]? else cs[k]?
 |[],i,cs,w,hg,_,_,_=>by refine⟨w,cs,rfl,⟨hg,fun _ _=>rfl,rfl,rfl,rfl,rfl⟩,rfl,fun k=>?_⟩;rw[if_neg];simp only[cO];omega
 |v :: rest,i,cs,w,hg,hfz,hl,h1=>by
  have hi':off+i<cs.size:=by simp at hl;omega
  have hst:(store ((⟨B,off,none⟩:Addr).add i) v).run P w=.ok () (w.setCell ⟨B,off+i,none⟩ v):=by rw[Addr.pO,run_store P w _ v _ (by rw[<- Qr];exact h1 v (by simp))];simp only[World.cell?,World.frozen?,hg,cT,aW,if_false];rw[bq hi'];simp only;rw[if_neg];simp only[ae,decide_eq_true_eq];exact hfz _ hi'
  have hlt:B<w.heap.size:=(aD.1 hg).1;have hset:Lo w (w.setCell ⟨B,off+i,none⟩ v) B (.cells (cs.setIfInBounds (off+i) v) el (lo,hi)):=by
   refine⟨?_,fun B' hB'=>?_,?_,rfl,rfl,rfl⟩;·simp only[World.setCell,cQ,if_true,hg,cA,cT,aW,if_false]
   .simp only[World.setCell,cQ];rw[if_neg (fun e=>hB' e.symm)]
   .simp only[World.setCell,Array.size_modify]
  obtain⟨w',cs',e1,e2,e3,e4⟩:=jW (off:=off) rest (i+1) (cs.setIfInBounds (off+i) v) (w.setCell ⟨B,off+i,none⟩ v) hset.here (by simpa using hfz) (by simp at hl ⊢;omega) (fun x hx=>h1 x (by simp[hx]));refine⟨w',cs',?_,hset.trans e2,by rw[e3];simp,fun k=>?_⟩;·simp only[storeCells,Sem.run_bind,hst,Result.andThen_ok,e1]
  .rw[e4 k];simp only[aU];by_cases hk:off+(i+1)<=k/\k<off+(i+1)+rest.length;·rw[if_pos hk,if_pos (by omega),show k - (off+i)=(k - (off+(i+1)))+1 by omega,aQ]
   .rw[if_neg hk];by_cases e:k=off+i;·subst e;rw[if_pos (by omega),show off+i - (off+i)=0 by omega];simp[hi']
    .rw[if_neg (by omega),bK (by omega)]
theorem ED.ar {Y:Ren}{cs:Array Value}(h:ED Y n pat tr cs d)(hd:d+n<=cs.size):AR Y n pat tr (cs.extract d (d+n)) where
 size:=by simp only[cE];omega
 one i x hx:=by
  have hi:i<n:=by have:=(aD.1 hx).1;simp only[cE] at this;omega
  exact h.1 i x hi (gD _ _ _ _ _ hx)
 rel i v x hv hx:=h.2 i v x hv (gD _ _ _ _ _ hx)
theorem HJ {agg:Bool}{size off:Nat}{v:V}(h:partAt agg size n pat tr off=some v):(agg=true->off+size<=n\/size=0)/\(agg=false->off<n):=by
 unfold partAt at h;cases agg with
 |false=>exact⟨fun e=>(by cases e),fun _=>eT h⟩
 |true=>
  simp only at h;refine⟨fun _=>?_,fun e=>by cases e⟩;split at h;·rename_i hb;simp only[ae,T.beq_true] at hb;omega
  .split at h
   .rename_i l hl;obtain⟨h1,h2⟩:=eP hl;by_cases h0:size=0;·exact .inr h0
    .have:=h2 (size - 1) _ (ah (by omega));have:=eT this;exact .inl (by omega)
   .cases h
theorem C5 {Y:Ren}(hs:Sim Y h w){b:Nat}{z:Nat}(hb:Y b=some (B,d,z)){o:O}{e:Option TypeId}(ho:h.tr.get b=some o)(hoc:o=.cells e n pat tr\/o=.ro e n pat tr):
  ∃ cs el fr,w.heap[B]?=some (.cells cs el fr)/\cs.size=z/\d+n<=z/\ED Y n pat tr cs d:=by
 obtain⟨L,c,h1,h2,h3⟩:=hs.live b o ho;rw[hb] at h1;cases h1;rcases hoc with rfl|rfl;·obtain⟨cs,el,lo,hi,rfl,a,b,_,_,c⟩:=h3;exact⟨cs,el,_,h2,a,b,c⟩
 .obtain⟨cs,el,fr,rfl,a,b,_,c⟩:=h3;exact⟨cs,el,_,h2,a,b,c⟩
theorem tE (cs:Array Value)(a:Nat):cs.extract a (a+0) = #[]:=by apply Array.eq_empty_of_size_eq_zero;simp only[cE];omega
theorem qO (cs:Array Value){o s:Nat}(h:o+s<=n):(cs.extract d (d+n)).extract o (o+s)=cs.extract (d+o) (d+o+s):=by
 apply Array.ext_getElem?;intro i;simp only[dV,cE]
 grind
section
variable {G:Γ}(hG:GOk P G){Y:Ren}
theorem yT (hG:GOk P G)(hs:Sim Y h w){t:TypeId}{a:Option V}{v:V}{ca:Value}(hl:jT (G.ty t) h a=some v)(ha:∀ x,a=some x->Rel Y x ca):
  ∃ c,Rel Y v c/\(Instr.loadAt t ca).run P w=.ok c w:=by
 unfold jT at hl;split at hl
 .rename_i ty b o hty;have ht:=hG.types _ _ hty;have hr:=ha _ rfl;cases hr with
  |ptr hb=>
   rename_i B d z;have main:∀ {ob:O} {e:Option TypeId} {n:Nat} {pat:List V} {tr:T V},h.tr.get b=some ob->(ob=.cells e n pat tr\/ob=.ro e n pat tr)->partAt ty.agg ty.size n pat tr o=some v ->
     ∃ c,Rel Y v c/\(Instr.loadAt t (.pointer (some ⟨B,d+o,none⟩))).run P w=.ok c w:=by
    intro ob e n pat tr ho hoc hp;obtain⟨cs,el,fr,g1,g2,g3,g4⟩:=C5 hs hb ho hoc;have har:=g4.ar (by omega);have hpc:=har.piece hp;obtain⟨p1,p2⟩:=HJ hp;simp only[Instr.loadAt,Instr.sureAddr,loadVar,Sem.run_bind,Sem.run_pure,Result.andThen_ok,ht.lR];cases hag:ty.agg with
    |true=>
     rw[hag] at hpc;simp only[if_true] at hpc;obtain⟨ds,rfl,hr⟩:=hpc;refine⟨_,hr,?_⟩;simp only[if_true,Sem.run_bind,ht.run_sizeOf,Result.andThen_ok];rw[kT g1 (by have:=p1 hag;omega)];simp only[Result.andThen_ok,Sem.run_pure];congr 2;by_cases h0:ty.size=0;·rw[h0,tE,tE]
     .rw[qO];have:=p1 hag;omega
    |false=>
     rw[hag] at hpc;simp only[aW,if_false] at hpc;obtain⟨x,hx,hr⟩:=hpc;refine⟨x,hr,?_⟩;have hc:w.cell? ⟨B,d+o,none⟩=some x:=by simp only[World.cell?,g1,cT,aW,if_false];exact gD _ _ _ _ _ hx
     simp only[aW,if_false,run_load,hc]
   split at hl;·rename_i hg;exact main hg (.inl rfl) hl
   .rename_i hg;exact main hg (.inr rfl) hl
   .cases hl
 .cases hl
theorem ju (hs:Sim Y h w){b o k:Nat}{l:List V}(hl:eW h b o k=some l){z:Nat}(hb:Y b=some (B,d,z)):
  ∃ cs,(∀ w',w'.heap=w.heap->(loadCells ⟨B,d+o,none⟩ k).run P w'=.ok cs w')/\fH Y l cs.toList/\cs.size=k/\∀ x∈cs.toList,one x=true:=by
 unfold eW at hl;have main:∀ {ob:O} {e:Option TypeId} {n:Nat} {pat:List V} {tr:T V},h.tr.get b=some ob->(ob=.cells e n pat tr\/ob=.ro e n pat tr)->fC n pat tr o k=some l ->
   ∃ cs,(∀ w',w'.heap=w.heap->(loadCells ⟨B,d+o,none⟩ k).run P w'=.ok cs w')/\fH Y l cs.toList/\cs.size=k/\∀ x∈cs.toList,one x=true:=by
  intro ob e n pat tr ho hoc hp;obtain⟨cs,el,fr,g1,g2,g3,g4⟩:=C5 hs hb ho hoc;obtain⟨h1,h2⟩:=eP hp;have hle:o+k<=n\/k=0:=by
   by_cases h0:k=0;·exact .inr h0
   .have:=h2 (k - 1) _ (ah (by omega));have:=eT this;exact .inl (by omega)
  have hsz:(cs.extract (d+o) (d+o+k)).size=k:=by simp only[cE];omega
  refine⟨_,fun w' hw'=>kT (by rw[hw'];exact g1) (by omega),⟨by rw[aT,hsz,h1],fun i v x hv hx=>?_⟩,hsz,fun x hx=>?_⟩;·have hx:=gD _ _ _ _ _ (by rw[aM] at hx;exact hx);exact g4.2 (o+i) v x (h2 i v hv) (by rw[<- bA];exact hx)
  .obtain⟨i,hi⟩:=bV hx;have hi':=(ai.1 hi).1;have hx:=gD _ _ _ _ _ (by rw[aM] at hi;exact hi);exact g4.1 (o+i) x (by rw[aT,hsz] at hi';omega) (by rw[<- bA];exact hx)
 split at hl;·rename_i hg;exact main hg (.inl rfl) hl
 .rename_i hg;exact main hg (.inr rfl) hl
 .cases hl
end
end
end Go.Ev
namespace Go.Ev
variable {es:List (V×V×Nat)}{es':List MapEntry}
section
variable {P:Program}{G:Γ}(hG:GOk P G){Y:Ren}
theorem Ln {x y:V}{c c':Value}(h:eqS x y=true)(hx:Rel Y x c)(hy:Rel Y y c'):c=c':=by
 unfold eqS at h;split at h;·cases hx;cases hy;simp at h;rw[h]
 .cases hx;cases hy;simp only[ae,decide_eq_true_eq] at h;obtain⟨rfl,h⟩:=h;rw[kC] at h;simp at h;rw[h]
 .cases hx;cases hy;simp at h;rw[h]
 .cases h
theorem HG:∀ {l l':List V} {cs cs':List Value},EC l l'=true->fH Y l cs->fH Y l' cs'->cs=cs'
 |[],[],cs,cs',_,h,k=>by rw[h.of_nil,k.of_nil]
 |a :: l,b :: l',cs,cs',e,h,k=>by obtain⟨c,ds,rfl,h1,h2⟩:=h.zaa;obtain⟨c',ds',rfl,k1,k2⟩:=k.zaa;simp only[EC,ae] at e;rw[Ln e.1 h1 k1,HG e.2 h2 k2]
 |[],_ :: _,_,_,e,_,_=>by simp[EC] at e
 |_ :: _,[],_,_,e,_,_=>by simp[EC] at e
theorem nI {n:Nat}{pat:List V}{tr:T V}{cs:Array Value}(h:AR Y n pat tr cs){l:List V}(hg:fC n pat tr 0 n=some l):fH Y l cs.toList:=by obtain⟨h1,h2⟩:=eP hg;refine⟨by rw[aT,h.size,h1],fun i v x hv hx=>?_⟩;have:=h2 i v hv;rw[aI] at this;exact h.rel i v x this (by simpa using hx)
theorem uX {x y:V}{c c':Value}(h:fN x y=true)(hx:Rel Y x c)(hy:Rel Y y c'):c=c':=by
 unfold fN at h;split at h
 .split at h;·rename_i hn hl hl';obtain⟨cs,rfl,a⟩:=hx.ar;obtain⟨cs',rfl,b⟩:=hy.ar;have:=HG h (nI a hl) (nI b hl');rw[Array.toList_inj] at this;rw[this]
  .cases h
 .exact Ln h hx hy
theorem yS (hG:GOk P G)(em:Bool):∀ (d n:Nat),d<=n->∀ (t:TypeId) (ty:TY) (c:Value),lV G d t=true->G.ty t=some ty->(∀ fs,ty.desc=.struct fs->∃ cs,c=.agg cs/\cs.size=ty.size) ->
  ∀ w,(Instr.checkKey em n t c).run P w=.ok () w:=by
 intro d;induction d with
 |zero=>intro n _ t ty c h;simp[lV] at h
 |succ d ih=>
  intro n hn t ty c h hty hc w;obtain⟨n,rfl⟩:∃ m,n=m+1:=⟨n - 1,by omega⟩;have ht:=hG.types _ _ hty;simp only[lV,hty] at h;split at h;·rename_i e;cases c<;>simp[Instr.checkKey,ht.run_underlying,e]
  .rename_i e;cases c<;>simp[Instr.checkKey,ht.run_underlying,e]
  .rename_i e;cases c<;>simp[Instr.checkKey,ht.run_underlying,e]
  .rename_i fs e;obtain⟨cs,rfl,hsz⟩:=hc fs e;simp only[Instr.checkKey,Sem.run_bind,ht.run_underlying,e,Result.andThen_ok];rw[<- Array.forIn_toList];have fields:=hG.fields t ty fs hty e;have plain:∀ f∈fs.toList,lV G d f.type=true:=fun f hf=>(bz.1 h) f hf;generalize fs.toList=L at fields plain;induction L with
   |nil=>simp
   |cons f L ihL=>
    have rest:=ihL (fun f hf=>fields f (by simp[hf])) (fun f hf=>plain f (by simp[hf]));rw[List.forIn_cons];by_cases hn:f.name = "_";·rw[if_neg (by simpa using hn)];simp only[Sem.run_bind,Sem.run_pure,Result.andThen_ok];simpa only[Sem.run_pure] using rest
    .rw[if_pos hn];obtain⟨ft,hft,hoff,hsc⟩:=fields f (by simp);have hpf:=plain f (by simp);have htf:=hG.types _ _ hft;have hpart:∃ c,(part f.type cs f.offset).run P w=.ok c w/\(∀ gs,ft.desc=.struct gs->∃ ds,c=.agg ds/\ds.size=ft.size):=by
      cases hag:ft.agg with
      |true=>refine⟨_,by simp only[part,Sem.run_bind,htf.lR,hag,Result.andThen_ok,if_true,htf.run_sizeOf,Sem.run_pure];rfl,fun gs _=>⟨_,rfl,?_⟩⟩;simp only[cE];omega
      |false=>
       have:=hsc hag;have hlt:f.offset<cs.size:=by omega
       refine⟨cs[f.offset],by simp[part,htf.lR,hag,hlt],fun gs hgs=>?_⟩;have:=htf.agg;rw[hgs,hag] at this;cases this
     obtain⟨c,hc1,hc2⟩:=hpart;have hck:=ih n (by omega) f.type ft c hpf hft hc2 w;simp only[Sem.run_bind,hc1,Result.andThen_ok,hck,Sem.run_pure];simpa only[Sem.run_pure] using rest
  .cases h
inductive Out (es:List (V×V×Nat))(es':List MapEntry)(i0:Nat):Option (Nat×V×V×Nat)->Option (Nat×Value)->Prop
 |none:Out es es' i0 none none
 |some {j:Nat} {e:V×V×Nat} {e':MapEntry} (h1:es[j]?=some e) (h2:es'[j]?=some e'):Out es es' i0 (some (i0+j,e)) (some (i0+j,e'.val))
theorem Out.shift {e:V×V×Nat}{e':MapEntry}{i0:Nat}{r:Option (Nat×V×V×Nat)}{r':Option (Nat×Value)}(h:Out es es' (i0+1) r r'):Out (e :: es) (e' :: es') i0 r r':=by
 cases h with
 |none=>exact .none
 |some h1 h2=>rename_i j e e';have:=Out.some (es:=e :: es) (es':=e' :: es') (i0:=i0) (j:=j+1) (e:=e) (e':=e') h1 h2;rw[show i0+1+j=i0+(j+1) by omega];exact .some (by simpa using h1) (by simpa using h2)
def nJ (Y:Ren)(es:List (V×V×Nat))(es':List MapEntry):Prop:=
 es'.length=es.length/\∀ (i:Nat) (e:V×V×Nat) (e':MapEntry),es[i]?=some e->es'[i]?=some e'->Rel Y e.1 e'.key/\Rel Y e.2.1 e'.val/\e'.born=e.2.2
theorem nJ.zaa {e:V×V×Nat}(h:nJ Y (e :: es) es'):∃ e' rest,es'=e' :: rest/\(Rel Y e.1 e'.key/\Rel Y e.2.1 e'.val/\e'.born=e.2.2)/\nJ Y es rest:=by
 cases es' with
 |nil=>have:=h.1;simp at this
 |cons e' rest=>exact⟨e',rest,rfl,h.2 0 _ _ rfl rfl,by simpa using h.1,fun i a b ha hb=>h.2 (i+1) a b (by simpa using ha) (by simpa using hb)⟩
theorem tC {kt:TypeId}{k:V}{ck:Value}{d:TypeDesc}(hs:∀ y b cy,eqO G 8 kt k y=some b->Rel Y y cy->Instr.sameNow d ck cy=some b):
  ∀ {es:List (V×V×Nat)} {es':List MapEntry} {i0:Nat} {r:Option (Nat×V×V×Nat)},gu G kt k es i0=some r->nJ Y es es'->∃ r',Instr.findNow d ck es' i0=some r'/\Out es es' i0 r r'
 |[],es',i0,r,h,he=>by simp[gu] at h;subst h;rw[aO.1 he.1];exact⟨none,rfl,.none⟩
 |e :: es,es',i0,r,h,he=>by
  obtain⟨e',rest,rfl,⟨h1,h2,h3⟩,hr⟩:=he.zaa;simp only[gu] at h;split at h;·rename_i hb;cases h;refine⟨some (i0,e'.val),by simp[Instr.findNow,hs _ _ _ hb h1],?_⟩;exact Out.some (j:=0) (es:=e :: es) (es':=e' :: rest) rfl rfl
  .rename_i hb;obtain⟨r',r1,r2⟩:=tC hs h hr;exact⟨r',by simp[Instr.findNow,hs _ _ _ hb h1];exact r1,r2.shift⟩
  .cases h
theorem mW {kt:TypeId}{k:V}{ck:Value}{w:World}(hs:∀ y b cy,eqO G 8 kt k y=some b->Rel Y y cy->(Op.equal kt ck cy).run P w=.ok b w):
  ∀ {es:List (V×V×Nat)} {es':List MapEntry} {i0:Nat} {r:Option (Nat×V×V×Nat)},gu G kt k es i0=some r->nJ Y es es'->∃ r',(Instr.findAsking kt ck es' i0).run P w=.ok r' w/\Out es es' i0 r r'
 |[],es',i0,r,h,he=>by simp[gu] at h;subst h;rw[aO.1 he.1];exact⟨none,rfl,.none⟩
 |e :: es,es',i0,r,h,he=>by
  obtain⟨e',rest,rfl,⟨h1,h2,h3⟩,hr⟩:=he.zaa;simp only[gu] at h;split at h;·rename_i hb;cases h;refine⟨some (i0,e'.val),by simp[Instr.findAsking,hs _ _ _ hb h1],?_⟩;exact Out.some (j:=0) (es:=e :: es) (es':=e' :: rest) rfl rfl
  .rename_i hb;obtain⟨r',r1,r2⟩:=mW hs h hr;exact⟨r',by simp[Instr.findAsking,hs _ _ _ hb h1];exact r1,r2.shift⟩
  .cases h
theorem gE (hG:GOk P G){kt:TypeId}{k:V}{ck:Value}(hk:Rel Y k ck)(hok:mN G kt k=true)(he:nJ Y es es'){r:Option (Nat×V×V×Nat)}(h:gu G kt k es 0=some r)(w:World):
  ∃ r',(Instr.findKey kt ck es').run P w=.ok r' w/\Out es es' 0 r r':=by
 unfold mN at hok;split at hok
 .rename_i ty hp hty;have ht:=hG.types _ _ hty;have heq:∀ y b cy,eqO G 8 kt k y=some b->Rel Y y cy->∀ w,(Op.equal kt ck cy).run P w=.ok b w:=fun y b cy h1 h2 w=>Bx hG 8 _ (by decide) kt k y b ck cy h1 hk h2 w;have now:(∀ y b cy,eqO G 8 kt k y=some b->Rel Y y cy->Instr.sameNow ty.desc ck cy=some b)->∃ r',(Instr.findKey kt ck es').run P w=.ok r' w/\Out es es' 0 r r':=fun hs=>by
   obtain⟨r',r1,r2⟩:=tC hs h he;exact⟨r',by simp[Instr.findKey,ht.run_underlying,r1],r2⟩
  simp only[lV,hty] at hp;split at hp;·rename_i e;refine now fun y b cy h1 h2=>?_;simp only[eqO,hty,e] at h1;split at h1<;>simp_all;cases hk;cases h2;simp only[Instr.sameNow];rw[h1]
  .rename_i e;refine now fun y b cy h1 h2=>?_;simp only[eqO,hty,e] at h1;split at h1<;>simp_all;cases hk;cases h2;split at h1;·rename_i hkk;have hkk:=of_decide_eq_true hkk;subst hkk;cases h1;simp only[Instr.sameNow,if_true,kC,bW];rw[bU];simp
   .cases h1
  .rename_i e;refine now fun y b cy h1 h2=>?_;simp only[eqO,hty,e] at h1;split at h1<;>simp_all;cases hk;cases h2;simp only[Instr.sameNow];rw[<- h1];rw[beq_toListBytes,tl,tl]
  .rename_i fs e;cases hes:es' with
   |nil=>subst hes;have:es=[]:=aO.1 he.1.symm;subst this;simp[gu] at h;subst h;exact⟨none,by simp[Instr.findKey,ht.run_underlying,Instr.findNow],.none⟩
   |cons e' rest=>
    obtain⟨r',r1,r2⟩:=mW (fun y b cy h1 h2=>heq y b cy h1 h2 w) h he;rw[hes] at r1 r2;refine⟨r',?_,r2⟩;have:Instr.findNow ty.desc ck (e' :: rest) 0=none:=by simp[Instr.findNow,Instr.sameNow,e]
    simp[Instr.findKey,ht.run_underlying,this,r1]
  .cases hp
 .cases hok
end
end Go.Ev
namespace Go.Ev
variable {w:World}{h:H}{t:TypeId}{v:V}{ck:Value}
section
variable {P:Program}{G:Γ}(hG:GOk P G){Y:Ren}
theorem fI {r:Nat}{es:Array MapEntry}{clock:Nat}(h:w.heap[r]?=some (.map es clock)):(getObj r).run P w=.ok (.map es clock) w:=by simp[getObj,Sem.run,h]
theorem mX (hs:Sim Y h w){r B d z:Nat}(hb:Y r=some (B,d,z)){es:List (V×V×Nat)}{clock:Nat}(ho:h.tr.get r=some (.map es clock)):
  ∃ es':Array MapEntry,w.heap[B]?=some (.map es' clock)/\nJ Y es es'.toList:=by
 obtain⟨L,c,h1,h2,h3⟩:=hs.live r _ ho;rw[hb] at h1;cases h1;obtain⟨es',rfl,a,b⟩:=h3;exact⟨es',h2,by simpa using a,fun i e e' he he'=>b i e e' he (by simpa using he')⟩
theorem JU (hG:GOk P G)(hs:Sim Y h w){ty':TypeId}{x:Option V}{cx:Value}(hl:uO G (G.ty t) h x=some v)(hx:∀ a,x=some a->Rel Y a cx):
  ∃ c,Rel Y v c/\(Builtin.len_ #[t] ty' #[cx]).run P w=.ok c w:=by
 unfold uO at hl;split at hl
 .rename_i ty u hty;have ht:=hG.types _ _ hty;have hr:=hx _ rfl;split at hl;·rename_i e;cases hl;cases hr;exact⟨_,.int _ _,by simp only[Builtin.len_,dZ,bZ,Sem.run_bind,ht.run_underlying,e,goInt,Result.andThen_ok,Sem.run_pure];rfl⟩
  .rename_i e;cases hl;exact⟨_,.int _ _,by simp[Builtin.len_,ht.run_underlying,e,goInt]⟩
  .rename_i arr e;split at hl
   .rename_i ta hta;split at hl;·rename_i e2;cases hl;exact⟨_,.int _ _,by simp[Builtin.len_,ht.run_underlying,e,(hG.types _ _ hta).run_underlying,e2,goInt]⟩
    .cases hl
   .cases hl
  .rename_i e;cases hl;cases hr;exact⟨_,.int _ _,by simp[Builtin.len_,ht.run_underlying,e,goInt]⟩
  .rename_i e;cases hl;cases hr<;>exact⟨_,.int _ _,by simp[Builtin.len_,ht.run_underlying,e,goInt]⟩
  .rename_i e;cases hl;cases hr;exact⟨_,.int _ _,by simp[Builtin.len_,ht.run_underlying,e,goInt]⟩
  .rename_i r e;split at hl
   .rename_i es clock ho;cases hl;cases hr with
    |map hb=>
     obtain⟨es',m1,m2⟩:=mX hs hb ho;refine⟨_,.int _ _,?_⟩;have:es'.size=es.length:=by simpa using m2.1
     simp[Builtin.len_,ht.run_underlying,e,fI m1,goInt,this]
   .cases hl
  .cases hl
 .cases hl
theorem kU (hG:GOk P G){kt:TypeId}{k:V}(hok:mN G kt k=true)(hk:Rel Y k ck)(em:Bool)(w:World):(Instr.checkKey em 10000 kt ck).run P w=.ok () w:=by
 unfold mN at hok;split at hok
 .rename_i ty hp hty;refine yS hG em 4 10000 (by decide) kt ty ck hp hty (fun fs hfs=>?_) w;rw[hfs] at hok;split at hok;·rw[T.beq_true] at hok;obtain⟨cs,rfl,a⟩:=hk.ar;exact⟨cs,rfl,by rw[a.size,hok]⟩
  .cases hok
  .rename_i h1 h2;exact absurd rfl (h1 fs)
 .cases hok
theorem HK {kt et:TypeId}{es':Array MapEntry}{cm:Value}{ok:Bool}(hcm:(cm=.map none/\es' = #[])\/∃ B clock,cm=.map (some B)/\w.heap[B]?=some (.map es' clock))
  (hu:P.underlying t=some (.map kt et))(hck:(Instr.checkKey es'.isEmpty 10000 kt ck).run P w=.ok () w):
  (∀ j v,(Instr.findKey kt ck es'.toList).run P w=.ok (some (j,v)) w->(Instr.lookup t cm ck ok).run P w=.ok (if ok then .tuple #[v,.bool true] else v) w) /\
  (∀ z,(Instr.findKey kt ck es'.toList).run P w=.ok none w->(zeroValue et).run P w=.ok z w->(Instr.lookup t cm ck ok).run P w=.ok (if ok then .tuple #[z,.bool false] else z) w):=by
 have hu':(underlying t).run P w=.ok (.map kt et) w:=Go.run_underlying hu w;rcases hcm with⟨rfl,rfl⟩|⟨B,clock,rfl,hb⟩
 .refine⟨fun j v hf=>?_,fun z hf hz=>?_⟩;·simp only[Instr.lookup,Sem.run_bind,hu',Result.andThen_ok,Sem.run_pure,hck,hf]
  .simp only[Instr.lookup,Sem.run_bind,hu',Result.andThen_ok,Sem.run_pure,hck,hf,hz]
 .refine⟨fun j v hf=>?_,fun z hf hz=>?_⟩;·simp only[Instr.lookup,Sem.run_bind,hu',Result.andThen_ok,Sem.run_pure,fI hb,hck,hf]
  .simp only[Instr.lookup,Sem.run_bind,hu',Result.andThen_ok,Sem.run_pure,fI hb,hck,hf,hz]
theorem Bh (hG:GOk P G)(hs:Sim Y h w){m k:Option V}{ok:Bool}{cm:Value}(hl:iz G (G.ty t) h m k ok=some v)
  (hm:∀ a,m=some a->Rel Y a cm)(hk:∀ a,k=some a->Rel Y a ck):∃ c,Rel Y v c/\(Instr.lookup t cm ck ok).run P w=.ok c w:=by
 unfold iz at hl;split at hl
 .rename_i ty m k hty;have ht:=hG.types _ _ hty;have hm:=hm _ rfl;have hk:=hk _ rfl;split at hl
  .rename_i kt et e;split at hl
   .rename_i es hok hes;have hent:∃ es':Array MapEntry,nJ Y es es'.toList/\((cm=.map none/\es' = #[])\/∃ B clock,cm=.map (some B)/\w.heap[B]?=some (.map es' clock)):=by
     split at hes;·cases hes;cases hm;exact⟨#[],⟨rfl,fun i a b h=>by simp at h⟩,.inl ⟨rfl,rfl⟩⟩
     .rename_i r;split at hes
      .rename_i ho;cases hes;cases hm with
       |map hb=>obtain⟨es',m1,m2⟩:=mX hs hb ho;exact⟨es',m2,.inr ⟨_,_,rfl,m1⟩⟩
      .cases hes
     .cases hes
    obtain⟨es',he,hcm⟩:=hent;obtain⟨L1,L2⟩:=HK (P:=P) (ok:=ok) hcm (by rw[ht.under,e]) (kU hG hok hk es'.isEmpty w);split at hl
    .rename_i hf hte;cases hl;obtain⟨r',r1,r2⟩:=gE hG hk hok he hf w;cases r2 with
     |some h1 h2=>
      obtain⟨_,e2,_⟩:=he.2 _ _ _ h1 h2;refine⟨_,?_,L1 _ _ r1⟩;cases ok with
      |true=>exact fH.J5 e2 (.bool true)
      |false=>exact e2
    .rename_i te hf hte;split at hl
     .rename_i z hz;cases hl;obtain⟨c,c1,c2⟩:=(hG.types _ _ hte).mF hz;obtain⟨r',r1,r2⟩:=gE hG hk hok he hf w;cases r2;refine⟨_,?_,L2 _ r1 (c1 w)⟩;cases ok with
      |true=>exact fH.J5 (c2 Y) (.bool false)
      |false=>exact c2 Y
     .cases hl
    .cases hl
   .cases hl
  .cases hl
 .cases hl
theorem qy {st:Nat}:∀ {es:List (V×V×Nat)} {es':List MapEntry} {x:V×V},oH es st=some x->nJ Y es es'->∃ e',es'.find? (·.born == st)=some e'/\Rel Y x.1 e'.key/\Rel Y x.2 e'.val
 |[],_,_,h,_=>by simp[oH] at h
 |e :: es,es',x,h,he=>by
  obtain⟨e',rest,rfl,⟨h1,h2,h3⟩,hr⟩:=he.zaa;simp only[oH] at h;split at h;·rename_i hb;rw[T.beq_true] at hb;cases h;exact⟨e',by simp[h3,hb],h1,h2⟩
  .rename_i hb;have hb:e.2.2≠st:=fun q=>by rw[q] at hb;simp at hb
   obtain⟨a,a1,a2⟩:=qy h hr;refine⟨a,?_,a2⟩;have:(e'.born == st)=false:=by rw[h3];simpa using hb
   rw[dI,this,a1]
theorem Ef (hs:Sim Y h w){it:Option V}{ci:Value}(hl:Hq h it=some v)(hi:∀ a,it=some a->Rel Y a ci):∃ c,Rel Y v c/\(Instr.entry ci).run P w=.ok c w:=by
 unfold Hq at hl;split at hl
 .rename_i r;have hr:=hi _ rfl;cases hr with
  |ptr hb=>
   rename_i B d z;split at hl
   .rename_i m since st seen stepped ho;obtain⟨L,c,h1,h2,h3⟩:=hs.live r _ ho;rw[hb] at h1;cases h1;obtain⟨hd,m',rfl,hm⟩:=h3;simp only at hd h2;subst hd;split at hl
    .rename_i es clock hm2;split at hl
     .rename_i hcl;rw[T.beq_true] at hcl;split at hl
      .rename_i x hx;cases hl;rcases hm with⟨a,_⟩|⟨r',B',d',z',q1,q2,q3⟩
       .cases a
       .cases q1;obtain⟨es',m1,m2⟩:=mX hs q2 hm2;obtain⟨e',f1,f2,f3⟩:=qy hx m2;have f1:es'.find? (·.born == st)=some e':=by rw[<- f1,Array.find?_toList]
        refine⟨_,fH.J5 f2 f3,?_⟩;have hg:(getObj B).run P w=.ok (.mapIter m' since (st :: seen).reverse.toArray stepped) w:=by simp[getObj,Sem.run,h2]
        simp only[Instr.entry,bX,Sem.run_bind,hg,Result.andThen_ok,q3];simp[fI m1,hcl,f1]
      .cases hl
     .cases hl
    .cases hl
   .cases hl
 .cases hl
theorem Eg {e s i count n:Nat}(hc:P.cellsOf e=s)(hs:0<s)(hn:i+n<=count):liesAt P P.depth e count (i * s) e n=true:=by
 have hd:P.depth=(2 * (P.types.size+Made.depth)+1)+1:=rfl;rw[hd];simp only[liesAt,bf];left;rw[hd];have h1:i * s / s=i:=Nat.mul_div_cancel i hs;have h2:i * s % s=0:=Nat.mul_mod_left i s;have h3:s≠0:=by omega
 simp[rowAt,hc,h1,h2,h3,hn,sameLayout]
theorem yC.cellsOf {t:TypeId}{ty:TY}(h:yC P t ty):P.cellsOf t=ty.size:=by obtain⟨i,i1,i2,_⟩:=h.info;simp[Program.cellsOf,i1,i2]
theorem lZ:∀ {l:List V} {s:List UInt8},sW l=some s->s.length=l.length/\∀ (j:Nat) (x:UInt8),s[j]?=some x->l[j]?=some (.int .u8 x.toNat)
 |[],s,h=>by cases h;exact⟨rfl,fun j x q=>by simp at q⟩
 |.int .u8 (.ofNat n) :: l,s,h=>by
  simp only[sW] at h;split at h
  .rename_i r hn hr;cases h;have hn:=gk hn;obtain⟨a,b⟩:=lZ hr;refine⟨by simp[a],fun j x q=>?_⟩;cases j with
   |zero=>
    simp at q;subst q;have:n.toUInt8.toNat=n:=by simp[bS hn]
    simp[this]
   |succ j=>simpa using b j x (by simpa using q)
  .cases h
theorem HL (hG:GOk P G)(hs:Sim Y h w){s d:TypeId}{x:Option V}{cx:Value}(hv:Ns G (G.ty s) (G.ty d) h x=some v)(hx:∀ a,x=some a->Rel Y a cx):
  ∃ c,Rel Y v c/\(convert s d cx).run P w=.ok c w:=by
 unfold Ns at hv;split at hv
 .rename_i ts td b o hts htd;have h1:=hx _ rfl;have hs':=hG.types _ _ hts;have hd':=hG.types _ _ htd;cases h1 with
  |ptr hb=>
   rename_i B d' z;split at hv
   .rename_i e n pat tr t hbo es ed;obtain⟨L,c,l1,l2,l3⟩:=hs.live b _ hbo;rw[hb] at l1;cases l1;obtain⟨cs,el,lo,hi,rfl,q1,q2,_⟩:=l3;simp only at q1 q2 l2;split at hv
    .rename_i tt htt;split at hv;·rename_i hc;cases hv;simp only[ae] at hc;have c1:=gk hc.1;have c2:=gk hc.2;obtain⟨j,j1,j2,_⟩:=(hG.types _ _ htt).info;refine⟨_,.ptr hb,Lib.run_to_unsafe w ⟨B,d'+o,none⟩ (e:=el) (cells:=cs.size) (by rw[hs'.under,es]) (by rw[hd'.under,ed]) j1 (by omega) (by simp[World.shape?,l2]) (by show d'+o<cs.size;omega)⟩
     .cases hv
    .cases hv
   .rename_i e n pat tr u hbo es ed;obtain⟨L,c,l1,l2,l3⟩:=hs.live b _ hbo;rw[hb] at l1;cases l1;obtain⟨cs,el,lo,hi,rfl,q1,q2,_,q4,_⟩:=l3;simp only at q1 q2 q4 l2;obtain⟨rfl,rfl⟩:=q4 _ rfl;split at hv
    .rename_i tu hc htu;split at hv;·rename_i hsz;cases hv;simp only[ae,T.beq_true] at hc hsz;obtain⟨rfl,rfl⟩:=hc;have c1:=gk hsz.1;have c2:=az hsz.2;have hu:=hG.types _ _ htu;obtain⟨j,j1,j2,_⟩:=hu.info;have hone:1<=cs.size / tu.size:=(Nat.one_le_div_iff c1).2 (by omega);have hl:=Eg (P:=P) (i:=0) (n:=1) (count:=cs.size / tu.size) hu.cellsOf c1 (by omega);rw[Nat.zero_mul] at hl;exact⟨_,.ptr hb,Lib.run_from_unsafe w ⟨B,0+0,none⟩ (e:=el) (cells:=cs.size) (by rw[hs'.under,es]) (by rw[hd'.under,ed]) j1 (by simp[World.shape?,l2]) (by rw[hu.cellsOf];exact hl)⟩
     .cases hv
    .cases hv
   .cases hv
 .rename_i ts td b o m cp hts htd;have h1:=hx _ rfl;have hs':=hG.types _ _ hts;have hd':=hG.types _ _ htd;split at hv
  .rename_i e l es ed hl;split at hv
   .rename_i te r hte hr;split at hv
    .rename_i hk;cases hv;have he':=hG.types _ _ hte;obtain⟨t1,t2⟩:=lZ hr;have main:∀ (B d' z k:Nat),Y b=some (B,d',z)->∃ c,Rel Y (.str r) c/\(convert s d (.slice (some ⟨B,d'+o,none⟩) (m+1) k)).run P w=.ok c w:=by
      intro B d' z k hb;obtain⟨cs,g1,g2,g3,_⟩:=ju (P:=P) hs hl hb;have hc:cs=((r.map fun x=>(x.toNat:Int)).map (Value.int .u8)).toArray:=by
       refine Array.ext' (cV fun j=>?_);have hlen:cs.toList.length=l.length:=g2.1;cases hj:r[j]? with
       |none=>have:r.length<=j:=bR.1 hj;rw[dc (by omega)];simp[hj]
       |some x=>have hjl:=(ai.1 hj).1;have q:=g2.2 j _ _ (t2 j x hj) (ah (by omega));rw[ah (by omega)];simp only[dr,aL,hj,cA,Function.comp];generalize cs.toList[j]=y at q;cases q;rfl
      refine⟨_,.str r,?_⟩;rw[run_convert_bytes_string w s d e _ (m+1) k (by rw[hs'.under,es]) (by rw[he'.under,hk]) (by rw[hd'.under,ed]),run_bytesToString w _ (m+1) k (r.map fun x=>(x.toNat:Int)) (by rw[g1 w rfl,hc])];congr 2;rw[foldl_push_bytes];have hm:(r.map fun x=>(x.toNat:Int)).map (fun n=>UInt8.ofNat n.toNat)=r:=by rw[dr];exact(List.map_congr_left (g:=id) fun x _=>by simp).trans (List.map_id _)
      rw[hm];simp[ByteArray.empty,ByteArray.emptyWithCapacity];rfl
     cases h1 with
     |sliceK hb=>exact main _ _ _ _ hb
     |sliceA hb _ _=>exact main _ _ _ _ hb
    .cases hv
   .cases hv
  .cases hv
 .cases hv
theorem Qt (hG:GOk P G){e:Operand->Option V}{f:Operand->Value}(hef:OpR Y e f){o:Oper}{g:H->Option V}(h:act G e o.op=.rd g){hh:H}(hs:Sim Y hh w)(hv:g hh=some v):
  ∃ c,Rel Y v c/\(execOp f o).run P w=.ok (.value c) w:=by
 have next:∀ {s:Sem Value},(∃ c,Rel Y v c/\s.run P w=.ok c w)->execOp f o=(do pure (.value (<- s)))->∃ c,Rel Y v c/\(execOp f o).run P w=.ok (.value c) w:=by intro s ⟨c,r,q⟩ hn;exact⟨c,r,by rw[hn];simp[q]⟩
 cases ho:o.op<;>rw[ho] at h<;>simp only[act,reduceCtorEq,Ac.rd.injEq] at h;case load t a=>subst h;exact next (yT hG hs hv (hef.opt a)) (by simp only[execOp,ho])
 case makeMap t r=>cases r<;>simp at h
 case convert s d x=>
  split at h;·simp only[Ac.rd.injEq] at h;subst h;exact next (HL hG hs hv (hef.opt x)) (by simp only[execOp,ho])
  .cases h
 case lookup t x i ok=>subst h;exact next (Bh hG hs hv (hef.opt x) (hef.opt i)) (by simp only[execOp,ho])
 case entry it=>subst h;exact next (Ef hs hv (hef.opt it)) (by simp only[execOp,ho])
 case call c=>
  unfold fX at h;split at h;·cases h
  .cases h
  .rename_i b hb;unfold fh at h;split at h<;>try cases h
   rename_i t x ht hx;refine next (JU hG (t:=t) (ty':=o.type) hs hv (hef.opt x)) ?_
   have h1:c.argTypes = #[t]:=by rw[<- aP (xs:=c.argTypes),ht]
   have h2:c.args = #[x]:=by rw[<- aP (xs:=c.args),hx]
   simp only[execOp,ho,resolve,hb,pure_bind,invoke,builtin,h1,h2,cR,aS,cB]
end
end Go.Ev
namespace Go.Ev
variable {n id:Nat}{t:TypeId}{v:V}{obj:O}{e:Operand->Option V}
def HM (P:Program)(s:Sem Value)(Y:Ren)(id:Nat)(obj:O)(v:V):Prop:=
 ∀ w,∃ c c' L w',s.run P w=.ok c w'/\Qs w w' c'/\L.1=w.heap.size/\jD (Y.with id L) obj L c'/\Rel (Y.with id L) v c
section
variable {P:Program}{G:Γ}(hG:GOk P G){Y:Ren}
theorem ku (w:World)(el:TypeId)(cs:Array Value):(newRow el cs).run P w=.ok ⟨w.heap.size,0,none⟩ { w with heap:=w.heap.push (.cells cs el) }:=by simp[newRow]
theorem AR.C6 {pat:List V}{tr:T V}{cs:Array Value}(h:AR Y n pat tr cs)(el:TypeId)(B:Nat):jD Y (.cells (some el) n pat tr) (B,0,cs.size) (.cells cs el):=by refine⟨cs,el,0,0,rfl,rfl,by simp[h.size],fun i _=>by omega,fun e' he=>by cases he;exact⟨rfl,rfl⟩,fun i x hi hx=>h.one i x (by simpa using hx),fun i v x hv hx=>h.rel i v x hv (by simpa using hx)⟩
theorem JV {c:Value}{o:O}(h:Qf t v=some o)(hr:Rel Y v c)(B:Nat):jD Y o (B,0,c.cells.size) (.cells c.cells t):=by
 unfold Qf at h;split at h;·cases h;obtain⟨cs,rfl,a⟩:=hr.ar;exact a.C6 t B
 .cases h
 .rename_i h1 h2;cases h;have hs:v.scalar=true:=by cases v<;>simp_all [V.scalar]
  have hc:=hr.cells hs;rw[hc];refine AR.C6 (cs:=#[c]) ⟨rfl,fun i x hx=>?_,fun i u x hv hx=>?_⟩ t B
  .have:i=0:=by
    have:=(aD.1 hx).1;simp only[dY,aU,cO] at this;omega
   subst this;simp at hx;subst hx;exact hr.wX hs
  .have:i=0:=by
    have:=(aD.1 hx).1;simp only[dY,aU,cO] at this;omega
   subst this;simp at hx;subst hx;have:=lQ [v] 0 u hv;simp at this;subst this;exact hr
theorem uY {x:Option V}{c:Value}(hx:∀ a,x=some a->Rel Y a c)(hid:Y id=none)(h:BK t x id=some (obj,v)):HM P (Instr.box t c) Y id obj v:=by
 unfold BK at h;split at h
 .split at h
  .rename_i o ho;cases h;intro w;refine⟨.pointer (some ⟨w.heap.size,0,none⟩),_,(w.heap.size,0,c.cells.size),{ w with heap:=w.heap.push (.cells c.cells t) },by simp only[Instr.box,newVar,Sem.run_bind,ku,Result.andThen_ok,Sem.run_pure],⟨rfl,rfl,rfl,rfl⟩,rfl,?_,?_⟩;·exact(JV ho (hx _ rfl) _).mono (Ren.gV Y _ hid)
   .have:=Rel.ptr (Y:=Y.with id (w.heap.size,0,c.cells.size)) (b:=id) (o:=0) (Ren.fF ..);exact this
  .cases h
 .cases h
theorem mI {te:TY}(ht:yC P t te){z:List V}(h:lW te=some z):z.length=te.size/\∃ c,(∀ w,(zeroValue t).run P w=.ok c w)/\c.cells.size=te.size/\(∀ Y,fH Y z c.cells.toList)/\∀ x∈c.cells.toList,one x=true:=by
 unfold lW at h;split at h
 .rename_i n pat tr hz;split at h
  .rename_i hn;rw[T.beq_true] at hn;obtain⟨c,c1,c2⟩:=ht.mF hz;obtain⟨cs,rfl,_⟩:=(c2 H6).ar;have hAR:∀ Y,AR Y n pat tr cs:=fun Y=>by
    obtain⟨cs',e,a⟩:=(c2 Y).ar;cases e;exact a
   have hR:∀ Y,fH Y z cs.toList:=fun Y=>nI (hAR Y) h;have hl:=(eP h).1;refine⟨by omega,_,c1,by simp only[Value.cells];rw[(hAR H6).size,hn],hR,fun x hx=>?_⟩;obtain⟨i,hi⟩:=bV hx;exact(hAR H6).one i x (by simp only[Value.cells] at hi;rw[aM] at hi;exact hi)
  .cases h
 .cases h
 .rename_i v h1 h2 hz;split at h
  .rename_i hn;rw[T.beq_true] at hn;cases h;obtain⟨c,c1,c2⟩:=ht.mF hz;have hs:v.scalar=true:=by cases v<;>simp_all [V.scalar]
   have hc:=(c2 H6).cells hs;refine⟨by simp[hn],c,c1,by rw[hc,hn];rfl,fun Y=>by rw[hc];exact fH.nil.cons (c2 Y),fun x hx=>?_⟩;rw[hc] at hx;simp at hx;subst hx;exact(c2 H6).wX hs
  .cases h
 .cases h
theorem HN {z:List V}{zero:Array Value}(hr:fH Y z zero.toList)(h1:∀ x∈zero.toList,one x=true)(hn:n=0\/0<zero.size):
  AR Y n z .leaf ((Array.range n).map (zero[· % zero.size]!)):=by
 have get:∀ i,i<n->∃ x,zero[i % zero.size]?=some x/\((Array.range n).map (zero[· % zero.size]!))[i]?=some x:=by
  intro i hi;have hz:0<zero.size:=by omega
  have hm:i % zero.size<zero.size:=dD _ hz;refine⟨zero[i % zero.size],by simp[hm],?_⟩;simp[hi,hm]
 have hlen:zero.size=z.length:=by simpa using hr.1
 refine⟨by simp,fun i x hx=>?_,fun i v x hv hx=>?_⟩
 .have hi:i<n:=by have:=(aD.1 hx).1;simpa using this
  obtain⟨y,y1,y2⟩:=get i hi;have hyx:y=x:=bP (y2.symm.trans hx);rw[hyx] at y1;exact h1 x (by have:=dg y1;simpa using this)
 .have hi:=eT hv;obtain⟨y,y1,y2⟩:=get i hi;have hyx:y=x:=bP (y2.symm.trans hx);rw[hyx] at y1;have hv':z[i % z.length]?=some v:=by
   unfold cell at hv;have hb:Nat.blt i n=true:=by simpa [cZ] using hi
   rw[hb] at hv;simp only[T.eR] at hv;unfold yH at hv;rw[jb,jb] at hv;by_cases hl:i<z.length;·rw[ah hl] at hv;simp at hv;rw[bS hl,ah hl,hv]
   .rw[dc (Nat.le_of_not_lt hl)] at hv;exact hv
  exact hr.2 _ v x hv' (by rw[<- hlen];simpa using y1)
theorem oN {B z cap:Nat}:Rel (Y.with id (B,0,z)) (.slice id 0 n (.known cap)) (.slice (some ⟨B,0,none⟩) n cap):=by have:=Rel.sliceK (Y:=Y.with id (B,0,z)) (b:=id) (o:=0) (len:=n) (c:=cap) (Ren.fF ..);exact this
theorem yU (hG:GOk P G)(hid:Y id=none)(h:lD t (G.ty t) id=some (obj,v)):HM P (Instr.alloc t true (.tuple #[])) Y id obj v:=by
 unfold lD at h;split at h
 .rename_i ty hty;cases hz:ty.zero with
  |none=>rw[hz] at h;simp[BK] at h
  |some z=>rw[hz] at h;obtain⟨c,c1,c2⟩:=(hG.types _ _ hty).mF hz;have:=uY (P:=P) (c:=c) (fun a ha=>by cases ha;exact c2 Y) hid h;intro w;obtain⟨a,b,L,w',e1,e2⟩:=this w;refine⟨a,b,L,w',?_,e2⟩;rw[<- e1];simp only[Instr.alloc,Instr.box,Sem.run_bind,c1,Result.andThen_ok]
 .cases h
theorem pP (hG:GOk P G){len:Nat}{f:Operand->Value}(hef:OpR Y e f){parts:Array (Nat×Operand)}(hid:Y id=none)
  (h:fD G (G.ty t) len e parts.toList id=some (obj,v)):HM P (Instr.buildSlice t len (parts.map fun p=>(p.1,f p.2))) Y id obj v:=by
 unfold fD at h;split at h
 .rename_i ty hty;split at h
  .rename_i elem e1;split at h
   .rename_i te hte;split at h
    .rename_i z hz hle;have hle:=az hle;split at h
     .rename_i tr hf;cases h;have ht:=hG.types _ _ hty;have hte':=hG.types _ _ hte;obtain⟨z1,c,c1,c2,c3,c4⟩:=mI hte' hz;intro w;have hle:len * te.size<=100000:=hle;have hnb:¬ (len * te.size > 2 ^ 24):=by omega
      by_cases h0:len * te.size=0
      .have q2:AR Y (len * te.size) z .leaf ((Array.range (len * te.size)).map ((#[]:Array Value)[· % (#[]:Array Value).size]!)):=by
        rw[h0];exact⟨by simp,fun i x hx=>by simp at hx,fun i v x hv=>absurd (eT hv) (by omega)⟩
       obtain⟨cs',f1,f2⟩:=kx hef (place:=fun i=>some (i * te.size,te.size)) (fun k L hL=>by cases hL;rfl) hf q2;refine⟨_,_,(w.heap.size,0,cs'.size),{ w with heap:=w.heap.push (.cells cs' elem) },?_,⟨rfl,rfl,rfl,rfl⟩,rfl,(f2.C6 elem _).mono (Ren.gV Y _ hid),oN⟩;rw[h0] at f1;simp only[Instr.buildSlice,Sem.run_bind,ht.run_underlying,e1,Result.andThen_ok,hte'.run_sizeOf,h0,if_neg (show ¬ (0:Nat) > 2 ^ 24 by decide),if_true,Sem.run_pure,cz,f1,ku]
      .have q2:AR Y (len * te.size) z .leaf ((Array.range (len * te.size)).map (c.cells[· % c.cells.size]!)):=by
        refine HN (c3 Y) c4 (.inr ?_);rw[c2];exact Nat.pos_of_ne_zero fun e=>h0 (by rw[e,Nat.mul_zero])
       obtain⟨cs',f1,f2⟩:=kx hef (place:=fun i=>some (i * te.size,te.size)) (fun k L hL=>by cases hL;rfl) hf q2;refine⟨_,_,(w.heap.size,0,cs'.size),{ w with heap:=w.heap.push (.cells cs' elem) },?_,⟨rfl,rfl,rfl,rfl⟩,rfl,(f2.C6 elem _).mono (Ren.gV Y _ hid),oN⟩;simp only[Instr.buildSlice,Sem.run_bind,ht.run_underlying,e1,Result.andThen_ok,hte'.run_sizeOf,if_neg hnb,if_neg h0,c1,Sem.run_pure,cz,f1,ku]
     .cases h
    .cases h
   .cases h
  .cases h
 .cases h
theorem qP (hG:GOk P G){l c:Option V}{cl cc:Value}(hid:Y id=none)(hl:∀ a,l=some a->Rel Y a cl)(hc:∀ a,c=some a->Rel Y a cc)
  (h:fW G (G.ty t) l c id=some (obj,v)):HM P (Instr.makeSlice t cl cc) Y id obj v:=by
 unfold fW at h;split at h
 .rename_i ty k1 l k2 c hty;have hl:=hl _ rfl;have hc:=hc _ rfl;cases hl;cases hc;split at h
  .rename_i elem e1;split at h
   .rename_i te hte;split at h
    .rename_i z hz hb;cases h;simp only[ae] at hb;have hlc:l<=c:=az hb.1.1;have hcm:c<=100000:=az hb.1.2;have ht:=hG.types _ _ hty;have hte':=hG.types _ _ hte;obtain⟨z1,y,c1,c2,c3,c4⟩:=mI hte' hz;obtain⟨i,zz,i1,i2,_⟩:=hG.big _ _ hte;intro w;have wl:IntKind.i64.wrap (Int.ofNat l)=Int.ofNat l:=iV l (by omega);have wc:IntKind.i64.wrap (Int.ofNat c)=Int.ofNat c:=iV c (by omega);have hbytes:(i.bytes:Int) * (c:Int)<=281474976710656:=by
      have:i.bytes * c<=1048576 * 100000:=eG i2 hcm;have h2:((i.bytes * c:Nat):Int)<=104857600000:=by omega
      have h3:(i.bytes:Int) * (c:Int)=((i.bytes * c:Nat):Int):=by simp
      rw[h3];omega
     have n1:¬ (c:Int)<0:=by omega
     have n2:¬ (281474976710656<(i.bytes:Int) * (c:Int)):=by omega
     have n3:¬ (l:Int)<0:=by omega
     have n4:¬ (c:Int)<(l:Int):=by omega
     simp only[aN] at wl wc;have rt:∀ w,(typeInfo elem).run P w=.ok i w:=fun w=>by simp[typeInfo,i1]
     by_cases h0:c * te.size=0
     .have q2:AR Y (c * te.size) z .leaf ((Array.range (c * te.size)).map ((#[]:Array Value)[· % (#[]:Array Value).size]!)):=by
       rw[h0];exact⟨by simp,fun i x hx=>by simp at hx,fun i v x hv=>absurd (eT hv) (by omega)⟩
      refine⟨_,_,(w.heap.size,0,_),{ w with heap:=w.heap.push (.cells _ elem) },?_,⟨rfl,rfl,rfl,rfl⟩,rfl,(q2.C6 elem _).mono (Ren.gV Y _ hid),oN⟩;simp[Instr.makeSlice,ht.run_underlying,e1,asInt,asIntOf,rt,wl,wc,n1,n2,n3,n4,hte'.run_sizeOf,h0,ku]
     .have q2:AR Y (c * te.size) z .leaf ((Array.range (c * te.size)).map (y.cells[· % y.cells.size]!)):=by
       refine HN (c3 Y) c4 (.inr ?_);rw[c2];exact Nat.pos_of_ne_zero fun e=>h0 (by rw[e,Nat.mul_zero])
      refine⟨_,_,(w.heap.size,0,_),{ w with heap:=w.heap.push (.cells _ elem) },?_,⟨rfl,rfl,rfl,rfl⟩,rfl,(q2.C6 elem _).mono (Ren.gV Y _ hid),oN⟩;simp[Instr.makeSlice,ht.run_underlying,e1,asInt,asIntOf,rt,wl,wc,n1,n2,n3,n4,hte'.run_sizeOf,h0,ku,c1]
    .cases h
   .cases h
  .cases h
 .cases h
theorem JW {o:O}(h:Qf t v=some o):o.isG=false:=by unfold Qf at h;split at h<;>cases h<;>rfl
theorem C7 {x:Option V}(h:BK t x id=some (obj,v)):obj.isG=false:=by
 unfold BK at h;split at h
 .split at h;·rename_i q;cases h;exact JW q
  .cases h
 .cases h
theorem HO {op:Op}{g:Nat->Option (O×V)}(h:act G e op=.al g)(hv:g id=some (obj,v)):obj.isG=false:=by
 cases op<;>simp only[act,reduceCtorEq,Ac.al.injEq] at h;case alloc t=>
  subst h;unfold lD at hv;split at hv;·exact C7 hv
  .cases hv
 case box t x=>subst h;exact C7 hv
 case buildSlice t n ps=>
  subst h;unfold fD at hv;repeat' split at hv
  all_goals first
   |(cases hv;done)
   |(cases hv;rfl)
 case makeMap t r=>
  cases r with
  |none=>simp only[Ac.al.injEq] at h;subst h;cases hv;rfl
  |some r=>simp at h
 case convert s d x=>split at h<;>cases h
 case makeSlice t l c=>
  subst h;unfold fW at hv;repeat' split at hv
  all_goals first
   |(cases hv;done)
   |(cases hv;rfl)
 case call c=>
  unfold fX at h;split at h;·cases h
  .cases h
  .unfold fh at h;split at h<;>cases h
theorem Lq (hG:GOk P G){f:Operand->Value}(hef:OpR Y e f){o:Oper}{g:Nat->Option (O×V)}(h:act G e o.op=.al g)(hid:Y id=none)(hv:g id=some (obj,v))(w:World):
  ∃ c c' L w',(execOp f o).run P w=.ok (.value c) w'/\Qs w w' c'/\L.1=w.heap.size/\jD (Y.with id L) obj L c'/\Rel (Y.with id L) v c:=by
 have next:∀ {s:Sem Value},HM P s Y id obj v->execOp f o=(do pure (.value (<- s))) ->
   ∃ c c' L w',(execOp f o).run P w=.ok (.value c) w'/\Qs w w' c'/\L.1=w.heap.size/\jD (Y.with id L) obj L c'/\Rel (Y.with id L) v c:=by
  intro s hm hn;obtain⟨c,c',L,w',e1,e2⟩:=hm w;exact⟨c,c',L,w',by rw[hn];simp[e1],e2⟩
 cases ho:o.op<;>rw[ho] at h<;>simp only[act,reduceCtorEq,Ac.al.injEq] at h;case alloc t=>subst h;exact next (yU hG hid hv) (by simp only[execOp,ho])
 case box t x=>subst h;exact next (uY (hef.opt x) hid hv) (by simp only[execOp,ho])
 case buildSlice t n ps=>subst h;exact next (pP hG hef hid hv) (by simp only[execOp,ho])
 case makeMap t r=>
  cases r with
  |none=>
   simp only[Ac.al.injEq] at h;subst h;cases hv;refine next (s:=Instr.makeMap t none) (fun w=>⟨.map (some w.heap.size),.map #[] 0,(w.heap.size,0,0),{ w with heap:=w.heap.push (.map #[] 0) },by simp[Instr.makeMap],⟨rfl,rfl,rfl,rfl⟩,rfl,⟨#[],rfl,rfl,fun i e e' h=>by simp at h⟩,?_⟩) (by simp only[execOp,ho,dR])
   exact .map (d:=0) (z:=0) (Ren.fF ..)
  |some r=>simp at h
 case convert s d x=>split at h<;>cases h
 case makeSlice t l c=>subst h;exact next (qP hG hid (hef.opt l) (hef.opt c) hv) (by simp only[execOp,ho])
 case call c=>
  unfold fX at h;split at h;·cases h
  .cases h
  .rename_i b hb;unfold fh at h;split at h<;>cases h
end
end Go.Ev
namespace Go.Ev
variable {h h':H}{w:World}{v:V}{b o:Nat}
def Tf (P:Program)(n:Sem Next)(Y:Ren)(h:H)(w:World)(v:V)(h':H):Prop:=
 ∃ Y' c w',(n.run P w=.ok (.value c) w'\/(n.run P w=.ok .skip w'/\c=undef))/\Sim Y' h' w'/\Ext Y h w Y' h' w'/\Rel Y' v c
def oO (P:Program)(s:Sem Value)(Y:Ren)(h:H)(w:World)(v:V)(h':H):Prop:=
 ∃ Y' c w',s.run P w=.ok c w'/\Sim Y' h' w'/\Ext Y h w Y' h' w'/\Rel Y' v c
def HP (P:Program)(s:Sem Unit)(Y:Ren)(h:H)(w:World)(v:V)(h':H):Prop:=
 ∃ Y' w',s.run P w=.ok () w'/\Sim Y' h' w'/\Ext Y h w Y' h' w'/\v=.tuple []
theorem oO.next {P:Program}{s:Sem Value}{Y:Ren}{n:Sem Next}(k:oO P s Y h w v h')(hn:n=(do pure (.value (<- s)))):Tf P n Y h w v h':=by obtain⟨Y',c,w',h1,h2,h3,h4⟩:=k;exact⟨Y',c,w',.inl (by rw[hn];simp[h1]),h2,h3,h4⟩
theorem Rel.undef {Y:Ren}:Rel Y (.tuple []) undef:=.tuple rfl fun i v x h=>by simp at h
theorem HP.next {P:Program}{s:Sem Unit}{Y:Ren}{n:Sem Next}(k:HP P s Y h w v h')(hn:n=(do s;pure .skip)):Tf P n Y h w v h':=by obtain⟨Y',w',h1,h2,h3,rfl⟩:=k;exact⟨Y',undef,w',.inr ⟨by rw[hn];simp[h1],rfl⟩,h2,h3,.undef⟩
section
variable {P:Program}{G:Γ}(hG:GOk P G){Y:Ren}
theorem jL (hs:Sim Y h w){B d z:Nat}(hb:Y b=some (B,d,z)){e:Option TypeId}{n:Nat}{pat pat2:List V}{tr tr2:T V}(ho:h.tr.get b=some (.cells e n pat tr)){cs:List Value}
  (hle:o+cs.length<=n)(h1:∀ x∈cs,one x=true)
  (hnew:∀ i v,cell n pat2 tr2 i=some v->(o<=i/\i<o+cs.length->∀ x,cs[i - o]?=some x->Rel Y v x)/\(¬ (o<=i/\i<o+cs.length)->cell n pat tr i=some v)):
  ∃ w',(storeCells ⟨B,d+o,none⟩ cs).run P w=.ok () w'/\Sim Y (h.set b (some (.cells e n pat2 tr2))) w'/\Ext Y h w Y (h.set b (some (.cells e n pat2 tr2))) w':=by
 obtain⟨L,c,l1,l2,l3⟩:=hs.live b _ ho;rw[hb] at l1;cases l1;obtain⟨ds,el,lo,hi,rfl,a1,a2,a3,a4,a5⟩:=l3;simp only at a1 a2 a3 a5 l2;obtain⟨w',ds',e1,e2,e3,e4⟩:=jW (P:=P) (B:=B) (off:=d+o) cs 0 ds w l2 (fun k hk=>a3 k (by omega)) (by omega) h1;refine⟨w',e1,hs.set ho hb e2.here ?_ e2.other rfl rfl,Ext.set ho hb rfl e2.size e2.other e2.tape e2.os e2.output⟩;refine⟨ds',el,lo,hi,rfl,by rw[e3];exact a1,a2,a3,a4,fun i x hi hx=>?_,fun i v x hv hx=>?_⟩
 .rw[e4] at hx;split at hx;·exact h1 x (aC hx)
  .exact a5.1 i x hi hx
 .obtain⟨n1,n2⟩:=hnew i v hv;simp only at hx;rw[e4] at hx;by_cases hr:o<=i/\i<o+cs.length;·rw[if_pos (by omega)] at hx;exact n1 hr x (by rw[show i - o=d+i - (d+o+0) by omega];exact hx)
  .rw[if_neg (by omega)] at hx;exact a5.2 i v x (n2 hr) hx
theorem mb:∀ (vs:List V) (off:Nat) (tr:T V) (m:Nat),(qL off vs tr).get m=if off<=m/\m<off+vs.length then vs[m - off]? else tr.get m
 |[],off,tr,m=>by simp only[qL,cO];rw[if_neg (by omega)]
 |v :: vs,off,tr,m=>by
  simp only[qL,aU];rw[mb vs];by_cases h:Nat.succ off<=m/\m<Nat.succ off+vs.length;·rw[if_pos h,if_pos (by omega),show m - off=(m - Nat.succ off)+1 by omega,aQ]
  .rw[if_neg h];by_cases e:m=off;·subst e;rw[if_pos (by omega),cJ,T.zab];rfl
   .rw[if_neg (by omega),T.ia _ _ e]
theorem jM (hs:Sim Y h w){vs:List V}(hp:putCells h b o vs=some h'){B d z:Nat}(hb:Y b=some (B,d,z)){cs:List Value}(hr:fH Y vs cs)(h1:∀ x∈cs,one x=true):
  ∃ w',(storeCells ⟨B,d+o,none⟩ cs).run P w=.ok () w'/\Sim Y h' w'/\Ext Y h w Y h' w':=by
 unfold putCells at hp;split at hp
 .rename_i e n pat tr ho;split at hp
  .rename_i hle;have hle:o+vs.length<=n:=az hle;cases hp;have hlen:=hr.1;refine jL hs hb ho (by omega) h1 fun i v hv=>⟨fun hi x hx=>?_,fun hi=>?_⟩
   .have hg:(qL o vs tr).get i=vs[i - o]?:=by rw[mb,if_pos (by omega)]
    have hlt:i - o<vs.length:=by omega
    rw[ah hlt] at hg;have:=gC (pat:=pat) (eT hv) hg;rw[this] at hv;cases hv;exact hr.2 (i - o) _ x (ah hlt) hx
   .rw[<- hv];exact gX (by rw[mb,if_neg (by omega)])
  .cases hp
 .cases hp
theorem mc (hs:Sim Y h w)(hp:putCells h b o []=some h'):Sim Y h' w/\Ext Y h w Y h' w:=by
 unfold putCells at hp;split at hp
 .rename_i e n pat tr ho;split at hp;·cases hp;obtain⟨L,c,l1,l2,l3⟩:=hs.live b _ ho;exact⟨hs.set ho l1 l2 l3 (fun _ _=>rfl) rfl rfl,Ext.set ho l1 rfl rfl (fun _ _=>rfl) rfl rfl rfl⟩
  .cases hp
 .cases hp
theorem Bi (hG:GOk P G)(hs:Sim Y h w){t:TypeId}{a x:Option V}{ca cx:Value}(hl:mV (G.ty t) h a x=some (v,h'))(ha:∀ y,a=some y->Rel Y y ca)(hx:∀ y,x=some y->Rel Y y cx):
  HP P (Instr.storeAt t ca cx) Y h w v h':=by
 unfold mV at hl;split at hl
 .rename_i ty b o u hty;have ht:=hG.types _ _ hty;have ha:=ha _ rfl;have hx:=hx _ rfl;cases ha with
  |ptr hb=>
   rename_i B d z;have run:∀ {w'},cx.cells.size=ty.size->(storeCells ⟨B,d+o,none⟩ cx.cells.toList).run P w=.ok () w'->(Instr.storeAt t (.pointer (some ⟨B,d+o,none⟩)) cx).run P w=.ok () w':=by intro w' hsz hrun;simp only[Instr.storeAt,Instr.sureAddr,storeVar,Sem.run_bind,Sem.run_pure,Result.andThen_ok,ht.run_sizeOf];rw[if_neg (by omega)];exact hrun
   split at hl
   .rename_i e n pat tr ho;split at hl
    .rename_i n' pat' tr' _;obtain⟨ds,rfl,ar⟩:=hx.ar;have hone:∀ y∈ds.toList,one y=true:=fun y hy=>by
      obtain⟨i,hi⟩:=bV hy;exact ar.one i y (by rw[aM] at hi;exact hi)
     have hlen:ds.toList.length=n':=by rw[aT,ar.size]
     split at hl;·rename_i hn hc;rw[T.beq_true] at hn;simp only[ae,T.beq_true] at hc;obtain⟨rfl,rfl⟩:=hc;cases hl;obtain⟨w',r1,r2,r3⟩:=jL (P:=P) hs hb ho (pat2:=pat') (tr2:=tr') (cs:=ds.toList) (o:=0) (by omega) hone (fun i v hv=>⟨fun hi y hy=>ar.rel i v y hv (by rw[aM] at hy;exact hy),fun hi=>absurd (eT hv) (by omega)⟩);exact⟨Y,w',run (by simp only[Value.cells];rw[ar.size,hn]) r1,r2,r3,rfl⟩
     .rename_i hn hc;rw[T.beq_true] at hn;split at hl
      .rename_i tr2 hle hov;have hle:o+n'<=n:=az hle;cases hl;obtain⟨o1,o2⟩:=lS hov;obtain⟨w',r1,r2,r3⟩:=jL (P:=P) hs hb ho (pat2:=pat) (tr2:=tr2) (cs:=ds.toList) (o:=o) (by omega) hone (fun i v hv=>by
        refine⟨fun hi y hy=>?_,fun hi=>?_⟩;·obtain⟨v',q1,q2⟩:=o1 (i - o) (by omega) (by omega);rw[show o+(i - o)=i by omega] at q2;have:=gC (pat:=pat) (eT hv) q2;rw[this] at hv;cases hv;exact ar.rel _ _ _ q1 (by rw[aM] at hy;exact hy)
        .rw[<- hv];exact gX (o2 i (by omega)).symm)
       exact⟨Y,w',run (by simp only[Value.cells];rw[ar.size,hn]) r1,r2,r3,rfl⟩
      .cases hl
     .cases hl
    .cases hl
    .rename_i hna hnt;split at hl
     .rename_i hc;simp only[ae,T.beq_true] at hc;obtain⟨hc1,hc2⟩:=hc;have hc2:=gk hc2;cases hl;have hsc:u.scalar=true:=by cases u<;>simp_all [V.scalar]
      have hcc:=hx.cells hsc;have hl1:cx.cells.toList=[cx]:=by rw[hcc]
      obtain⟨w',r1,r2,r3⟩:=jL (P:=P) hs hb ho (pat2:=pat) (tr2:=tr.put o (some u)) (cs:=[cx]) (o:=o) (by simp;omega) (fun y hy=>by simp at hy;subst hy;exact hx.wX hsc) (fun i v hv=>by
       refine⟨fun hi y hy=>?_,fun hi=>?_⟩
       .have e0:i=o:=by simp at hi;omega
        subst e0;simp at hy;subst hy;have:=gC (pat:=pat) (eT hv) (T.zab tr i (some u));rw[this] at hv;cases hv;exact hx
       .rw[<- hv];exact gX (T.ia tr _ (by simp at hi;omega)).symm)
      exact⟨Y,w',run (by rw[hcc,hc1];rfl) (by rw[hl1];exact r1),r2,r3,rfl⟩
     .cases hl
   .cases hl
 .cases hl
end
end Go.Ev
namespace Go.Ev
variable {h:H}{l:List V}{w:World}{n:Nat}
section
variable {P:Program}{G:Γ}(hG:GOk P G){Y:Ren}
theorem nK {n:Nat}{pat:List V}{tr:T V}:∀ {k o:Nat} {l:List V} (j:Nat),fC n pat tr o k=some l->j<=k->fC n pat tr o j=some (l.take j)
 |k,o,l,0,_,_=>by simp[fC]
 |0,o,l,j+1,_,h=>by omega
 |k+1,o,l,j+1,h,hj=>by
  simp only[fC] at h ⊢;split at h
  .rename_i v hv;split at h;·rename_i l' hl';simp at h;subst h;rw[nK j hl' (by omega)];rfl
   .cases h
  .cases h
theorem yV {b o k j:Nat}(hl:eW h b o k=some l)(hj:j<=k):eW h b o j=some (l.take j):=by
 unfold eW at hl ⊢;split at hl;·exact nK j hl hj
 .exact nK j hl hj
 .cases hl
theorem iB {b o k:Nat}(hl:eW h b o k=some l):l.length=k:=by
 unfold eW at hl;split at hl;·exact(eP hl).1
 .exact(eP hl).1
 .cases hl
theorem mY (hs:Sim Y h w){s:Nat}{x:V}{cx:Value}(he:elems h s x=some (n,l))(hx:Rel Y x cx):
  (∀ w,(Builtin.lenOf cx).run P w=.ok n w)/\l.length=n * s/\∀ m,m<=n->∃ cs,(∀ w',w'.heap=w.heap->(Builtin.firstCells s m cx).run P w'=.ok cs w')/\fH Y (l.take (m * s)) cs.toList/\∀ y∈cs.toList,one y=true:=by
 unfold elems at he;split at he;·cases he;cases hx;refine⟨fun w=>rfl,by simp,fun m hm=>⟨#[],fun w' _=>rfl,by simpa using fH.nil,fun y hy=>by simp at hy⟩⟩
 .rename_i b o k cap;split at he
  .rename_i l' hg;cases he;have hlen:=iB hg;have main:∀ B d z c,Y b=some (B,d,z)->∀ m,m<=n->∃ cs,(∀ w',w'.heap=w.heap->(Builtin.firstCells s m (.slice (some ⟨B,d+o,none⟩) n c)).run P w'=.ok cs w')/\fH Y (l.take (m * s)) cs.toList/\∀ y∈cs.toList,one y=true:=by
    intro B d z c hb m hm;have hg':=yV (j:=m * s) hg (bD s hm);obtain⟨cs,c1,c2,c3,c4⟩:=ju (P:=P) hs hg' hb;exact⟨cs,c1,c2,c4⟩
   cases hx with
   |sliceK hb=>exact⟨fun w=>rfl,hlen,main _ _ _ _ hb⟩
   |sliceA hb _ _=>exact⟨fun w=>rfl,hlen,main _ _ _ _ hb⟩
   |sliceZ a=>
    refine⟨fun w=>rfl,hlen,fun m hm=>⟨#[],?_,?_,fun y hy=>by simp at hy⟩⟩
    .have:m=0:=by omega
     subst this;simp[Builtin.firstCells,loadCells,loadCellsFrom]
    .have:m=0:=by omega
     subst this;simpa using fH.nil
  .cases he
 .rename_i t;split at he
  .rename_i hs1;rw[T.beq_true] at hs1;subst hs1;cases he;cases hx;refine⟨fun w=>rfl,by simp,fun m hm=>?_⟩;refine⟨_,fun w' _=>rfl,?_,?_⟩
   .rw[oQ];refine⟨by simp,fun i v y hv hy=>?_⟩;simp only[eA,List.drop_zero,dw,cz,<- List.map_take,aL] at hv hy;cases hq:(List.take m t)[i]? with
    |none=>rw[hq] at hv;simp at hv
    |some u=>rw[hq] at hv hy;simp at hv hy;subst hv;subst hy;exact .int _ _
   .intro y hy;simp only[cz,aJ] at hy;obtain⟨u,_,rfl⟩:=hy;rfl
  .cases he
 .cases he
structure Qu (P:Program)(tx:TypeId)(x:Value)(i:TypeInfo)(z:Value)(n:Nat)(news:List Value)(w:World):Prop where
 src:(∃ d,P.underlying tx=some d/\isInt d=some false/\(∀ w,(Builtin.lenOf x).run P w=.ok n w)/\∀ w',w'.heap=w.heap->(Builtin.firstCells i.size n x).run P w'=.ok news.toArray w') \/
  (∃ k k',P.underlying tx=some (.int k)/\x=.int k' (n:Int)/\n<=100000/\i.bytes<=1048576/\news=if n * i.size=0 then [] else (Builtin.zeroCells z.cells n).toList)
set_option maxHeartbeats 4000000 in
theorem jw {w':World}{t tx ty e:TypeId}{i:TypeInfo}{z:Value}(ht:P.underlying t=some (.slice e))(hi:P.info? e=some i)(hz:i.zero=some z){base:Option Addr}{sLen sCap:Nat}{x:Value}{news:List Value}
  (hx:Qu P tx x i z n news w)(hroom:sLen+n<=sCap)(hst:match (generalizing:=false) base with|some a=>(storeCells (a.add (sLen * i.size)) news).run P w=.ok () w'|none=>w'=w):
  (Builtin.append_ #[t,tx] ty #[.slice base sLen sCap,x]).run P w=.ok (.slice base (sLen+n) sCap) w':=by
 rcases hx.src with⟨d,hu,hd,hl,hc⟩|⟨k,k',hu,rfl,hn,hb,hnews⟩
 .cases base with
  |none=>
   simp only at hst;subst hst;cases d<;>first
    |(simp[isInt] at hd;done)
    |simp[Builtin.append_,Go.run_underlying ht,Go.run_underlying hu,sizeOf,typeInfo,hi,hl,hroom,hc _ rfl]
  |some a=>
   simp only at hst;cases d<;>first
    |(simp[isInt] at hd;done)
    |simp[Builtin.append_,Go.run_underlying ht,Go.run_underlying hu,sizeOf,typeInfo,hi,hl,hroom,hc _ rfl,hst]
 .have wn:IntKind.i64.wrap (n:Int)=(n:Int):=iV n (by omega);have n1:¬ ((n:Int)<0):=by omega
  have hbytes:¬ (281474976710656<(n:Int) * (i.bytes:Int)):=by
   have:n * i.bytes<=100000 * 1048576:=eG hn hb;have h3:(n:Int) * (i.bytes:Int)=((n * i.bytes:Nat):Int):=by simp
   rw[h3];omega
  by_cases h0:n * i.size=0
  .rw[if_pos h0] at hnews;subst hnews;cases base with
   |none=>simp only at hst;subst hst;simp[Builtin.append_,Go.run_underlying ht,Go.run_underlying hu,sizeOf,typeInfo,hi,hroom,asInt,asIntOf,wn,n1,hbytes,h0]
   |some a=>simp only at hst;simp[Builtin.append_,Go.run_underlying ht,Go.run_underlying hu,sizeOf,typeInfo,hi,hroom,asInt,asIntOf,wn,n1,hbytes,h0,hst]
  .rw[if_neg h0] at hnews;subst hnews;cases base with
   |none=>simp only at hst;subst hst;simp[Builtin.append_,Go.run_underlying ht,Go.run_underlying hu,sizeOf,typeInfo,hi,hroom,asInt,asIntOf,wn,n1,hbytes,zeroValue,hz]
   |some a=>simp only at hst;simp[Builtin.append_,Go.run_underlying ht,Go.run_underlying hu,sizeOf,typeInfo,hi,hroom,asInt,asIntOf,wn,n1,hbytes,h0,hst,zeroValue,hz]
set_option maxHeartbeats 4000000 in
theorem Bj {t tx ty e:TypeId}{i:TypeInfo}{z:Value}(ht:P.underlying t=some (.slice e))(hi:P.info? e=some i)(hz:i.zero=some z){base:Option Addr}{sLen sCap:Nat}{x:Value}{news olds:List Value}
  (hx:Qu P tx x i z n news w)(hroom:¬ sLen+n<=sCap)(hsmall:sLen+n<=100000)(hbts:i.bytes<=1048576)(hold:∀ w',w'.heap=w.heap->(Builtin.firstCells i.size sLen (.slice base sLen sCap)).run P w'=.ok olds.toArray w'):
  ∃ k w',sLen+n<=k/\(Builtin.append_ #[t,tx] ty #[.slice base sLen sCap,x]).run P w=.ok (.slice (some ⟨w.heap.size,0,none⟩) (sLen+n) k) w' /\
   Qs w w' (.cells ((olds++news).toArray++Builtin.zeroCells z.cells (k - (sLen+n))) e):=by
 have hfit:¬ (281474976710656<Builtin.nextslicecap (sLen+n) sCap * i.bytes):=by
  have h1:Builtin.nextslicecap (sLen+n) sCap<=1000000:=by
   unfold Builtin.nextslicecap;split;·omega
   .split;·omega
    .simp only[Builtin.growBy];repeat' split
     all_goals omega
  have:Builtin.nextslicecap (sLen+n) sCap * i.bytes<=1000000 * 1048576:=eG h1 hbts;omega
 have h63:¬ (9223372036854775807<((sLen:Int)+(n:Int))):=by omega
 refine⟨(Question.appendCap (sLen+n) sCap e).cut (w.tape w.drawn (.appendCap (sLen+n) sCap e)),w.drew.alloc (.cells ((olds++news).toArray++Builtin.zeroCells z.cells ((Question.appendCap (sLen+n) sCap e).cut (w.tape w.drawn (.appendCap (sLen+n) sCap e)) - (sLen+n))) e),by simp only[Question.cut];omega,?_,⟨rfl,rfl,rfl,rfl⟩⟩;have hold:=hold w.drew rfl;rcases hx.src with⟨d,hu,hd,hl,hc⟩|⟨k,k',hu,rfl,hn,hb,hnews⟩
 .have hc:=hc w.drew rfl;cases d<;>first
   |(simp[isInt] at hd;done)
   |(simp[Builtin.append_,Go.run_underlying ht,Go.run_underlying hu,sizeOf,typeInfo,zeroValue,hi,hz,hl,hroom,h63,hfit,Question.forced,hc,hold,newRow]
     congr 2;apply Array.ext';simp[List.append_assoc])
 .have wn:IntKind.i64.wrap (n:Int)=(n:Int):=iV n (by omega);have n1:¬ ((n:Int)<0):=by omega
  have hbytes:¬ (281474976710656<(n:Int) * (i.bytes:Int)):=by
   have:n * i.bytes<=100000 * 1048576:=eG hn hb;have h3:(n:Int) * (i.bytes:Int)=((n * i.bytes:Nat):Int):=by simp
   rw[h3];omega
  by_cases h0:n * i.size=0;·rw[if_pos h0] at hnews;subst hnews;simp[Builtin.append_,Go.run_underlying ht,Go.run_underlying hu,sizeOf,typeInfo,zeroValue,hi,hz,hroom,h63,hfit,Question.forced,hold,newRow,asInt,asIntOf,wn,n1,hbytes,h0]
  .rw[if_neg h0] at hnews;subst hnews;simp[Builtin.append_,Go.run_underlying ht,Go.run_underlying hu,sizeOf,typeInfo,zeroValue,hi,hz,hroom,h63,hfit,Question.forced,hold,newRow,asInt,asIntOf,wn,n1,hbytes,h0];congr 2;apply Array.ext';simp[List.append_assoc]
end
end Go.Ev
namespace Go.Ev
variable {h:H}{w:World}{l:List V}{elem:TypeId}
section
variable {P:Program}{G:Γ}(hG:GOk P G){Y:Ren}
theorem Ext.drop {h':H}(hn:h'.next=h.next)(hsub:∀ b o,h'.tr.get b=some o->h.tr.get b=some o):Ext Y h w Y h' w where
 next:=by omega
 agree _ _:=rfl
 old b _ q:=by
  cases g:h'.tr.get b with
  |none=>rfl
  |some o=>rw[hsub b o g] at q;cases q
 size:=aF _
 frame _ _ _:=rfl
 origin b o B hb hL _:=⟨b,o,hsub b o hb,hL,id⟩
 tape:=rfl
 os:=rfl
 output:=rfl
theorem C8 {e:Option TypeId}{row:Array Value}{lo hi d B z:Nat}(hz:row.size=z)(hd:d+l.length<=z)(hfz:∀ i,i<z->¬ (lo<=i/\i<hi))(he:∀ e',e=some e'->elem=e'/\d=0)
  (hr:∀ (i:Nat) (v:V) (x:Value),l[i]?=some v->row[d+i]?=some x->Rel Y v x)(h1:∀ (i:Nat) (x:Value),i<l.length->row[d+i]?=some x->one x=true):jD Y (mkO e l) (B,d,z) (.cells row elem (lo,hi)):=by
 obtain⟨pat,tr,q1,q2⟩:=Qa e l;rw[q1];exact⟨row,elem,lo,hi,rfl,hz,hd,hfz,he,h1,fun i v x hv hx=>hr i v x (q2 i v hv) hx⟩
theorem HQ (e:Option TypeId)(l:List V):(mkO e l).isG=false:=by unfold mkO;split<;>rfl
theorem JX {w':World}(hs:Sim Y h w){s need k:Nat}{e:Option TypeId}{row:Array Value}(hw:Qs w w' (.cells row elem))(hrow:row.size=k * s)(hneed:need<=k)(hl:l.length=need * s)
  (hr:∀ (i:Nat) (v:V) (x:Value),l[i]?=some v->row[i]?=some x->Rel Y v x)(h1:∀ (i:Nat) (x:Value),i<l.length->row[i]?=some x->one x=true)(he:∀ e',e=some e'->elem=e'):
  Sim (Y.with h.next (w.heap.size,0,k * s)) (h.add (mkO e l)) w'/\Ext Y h w (Y.with h.next (w.heap.size,0,k * s)) (h.add (mkO e l)) w' /\
   Rel (Y.with h.next (w.heap.size,0,k * s)) (.slice h.next 0 need (.atl need s)) (.slice (some ⟨w.heap.size,0,none⟩) need k):=by
 have hlt:need * s<=k * s:=bD s hneed;have hle:=Ren.gV Y (w.heap.size,0,k * s) hs.fresh;have hother:∀ B,B<w.heap.size->w'.heap[B]?=w.heap[B]?:=fun B hB=>by rw[hw.heap,cL,if_neg (by omega)]
 refine⟨?_,?_,?_⟩
 .refine hs.add (o':=mkO e l) (L:=(w.heap.size,0,k * s)) (c':=.cells row elem) hs.fresh (by simp) (by simp) (fun x=>H.add_get h _ x) (aF _) ?_ ?_ hother (HQ e l);·simp[hw.heap]
  .exact(C8 (lo:=0) (hi:=0) hrow (by omega) (fun i _=>by omega) (fun e' q=>⟨he e' q,rfl⟩) (fun i v x a b=>hr i v x a (by simpa using b)) (fun i x a b=>h1 i x a (by simpa using b))).mono hle
 .refine Ext.add (o':=mkO e l) (L:=(w.heap.size,0,k * s)) (aF _) (by simp) (fun x=>H.add_get h _ x) (aF _) ?_ hother hw.tape hw.os hw.output;rw[hw.heap];simp
 .have:=Rel.sliceA (Y:=Y.with h.next (w.heap.size,0,k * s)) (b:=h.next) (o:=0) (len:=need) (m:=need) (es:=s) (k:=k) (Ren.fF ..) hneed (by omega);exact this
theorem JY {w':World}(hs:Sim Y h w){b B d z o:Nat}(hb:Y b=some (B,d,z)){ob:O}(ho:h.tr.get b=some ob)(hrw:ob.rw=true){c':Obj}(hw:Lo w w' B c'){ob':O}(hg:ob'.isG=false)(hor:jD Y ob' (B,d+o,z) c'):
  Sim (Y.with h.next (B,d+o,z)) ((h.set b none).add ob') w'/\Ext Y h w (Y.with h.next (B,d+o,z)) ((h.set b none).add ob') w':=by
 have hfr:=hs.fresh;have hle:=Ren.gV Y (B,d+o,z) hfr;have hbn:b≠h.next:=fun e=>by rw[e,hfr] at hb;cases hb
 have get:∀ x,((h.set b none).add ob').tr.get x=if x=h.next then some ob' else if x=b then none else h.tr.get x:=fun x=>by simp
 have ne:∀ x ox B',x≠h.next->((h.set b none).add ob').tr.get x=some ox->(Y.with h.next (B,d+o,z)).fp x B'->h.tr.get x=some ox/\Y.fp x B'/\B'≠B:=by
  intro x ox B' e hx hf;rw[get,if_neg e] at hx;rw[Ren.nM Y _ e] at hf;by_cases e2:x=b;·rw[if_pos e2] at hx;cases hx
  .rw[if_neg e2] at hx;exact⟨hx,hf,fun q=>e2 (hs.inj x b ox ob B' hx ho (.inr hrw) hf (Ren.Ep hb q.symm))⟩
 refine⟨⟨hs.glob.mono hle,fun x Lx hx=>?_,fun x ox hx=>?_,fun x y ox oy B' hx hy hq fx fy=>?_,fun x ox B' hx hB'=>?_,fun x os Lx hx hLx=>?_⟩,⟨by simp,fun x hx=>Ren.jX Y _ (by omega),fun x hx q=>by rw[get,if_neg (by omega)];split<;>first|rfl|exact q,by rw[hw.size];omega,fun B' hB' hn=>?_,fun x ox B' hx hf hlt=>?_,hw.tape,hw.os,hw.output⟩⟩
 .by_cases e:x=h.next;·subst e;simp
  .rw[Ren.jX Y _ e] at hx;have:=hs.dom x Lx hx;simp;omega
 .rw[get] at hx;by_cases e:x=h.next;·rw[if_pos e] at hx;cases hx;exact⟨_,c',by rw[e];exact Ren.fF ..,hw.here,hor.mono hle⟩
  .rw[if_neg e] at hx;by_cases e2:x=b;·rw[if_pos e2] at hx;cases hx
   .rw[if_neg e2] at hx;obtain⟨Lx,cx,a1,a2,a3⟩:=hs.live x ox hx;refine⟨Lx,cx,hle _ _ a1,?_,a3.mono hle⟩;rw[hw.other _ fun q=>e2 (hs.Vc hx ho (.inr hrw) a1 hb q)];exact a2
 .by_cases ex:x=h.next<;>by_cases ey:y=h.next;·rw[ex,ey]
  .subst ex;exact absurd (Y.nN _ fx) (ne y oy B' ey hy fy).2.2
  .subst ey;exact absurd (Y.nN _ fy) (ne x ox B' ex hx fx).2.2
  .obtain⟨x1,x2,_⟩:=ne x ox B' ex hx fx;obtain⟨y1,y2,_⟩:=ne y oy B' ey hy fy;exact hs.inj x y ox oy B' x1 y1 hq x2 y2
 .have e:x≠h.next:=hB'.1;obtain⟨x1,x2,x3⟩:=ne x ox B' e hx (.inr hB');have h1:=hs.wY x1 x2;rw[hw.size];exact h1
 .by_cases e:x=h.next;·rw[get,if_pos e] at hx;cases hx;cases hg
  .have h1:=(ne x _ Lx.1 e hx (Ren.uo hLx)).1;rw[Ren.jX Y _ e] at hLx;have g:=hs.gho x os Lx h1 hLx;rw[Ren.xb Y _ e];refine g.frame fun B' hB'=>hw.other _ ?_;exact(ne x _ B' e hx (.inr ⟨e,hB'⟩)).2.2
 .exact hw.other _ fun q=>hn b ob ho hrw (Ren.Ep hb q.symm)
 .by_cases e:x=h.next;·subst e;have:=Y.nN _ hf;exact⟨b,ob,ho,Ren.Ep hb this.symm,fun _=>hrw⟩
  .obtain⟨x1,x2,_⟩:=ne x ox B' e hx hf;exact⟨x,ox,x1,x2,id⟩
theorem oZ {α:Type}(l:List α):∀ (n i:Nat),(rep n l)[i]?=if i<n * l.length then l[i % l.length]? else none
 |0,i=>by simp[rep]
 |n+1,i=>by
  simp only[rep];rw[aG];by_cases h:i<l.length;·rw[if_pos h,if_pos (by rw[dU];omega),bS h]
  .rw[if_neg h,oZ l n];have hm:i % l.length=(i - l.length) % l.length:=by
    rw[Nat.mod_eq_sub_mod (by omega)]
   by_cases h2:i - l.length<n * l.length;·rw[if_pos h2,if_pos (by rw[dU];omega),hm]
   .rw[if_neg h2,if_neg (by rw[dU];omega)]
theorem lC {α:Type}(l:List α):∀ (n:Nat),(rep n l).length=n * l.length
 |0=>by simp[rep]
 |n+1=>by simp only[rep,bt,lC l n,dU];omega
theorem iJ (z:Array Value)(n:Nat):(Builtin.zeroCells z n).size=n * z.size:=by simp[Builtin.zeroCells]
theorem jk (z:Array Value)(n i:Nat)(x:Value)(h:(Builtin.zeroCells z n)[i]?=some x):z[i % z.size]?=some x:=by
 have hi:i<n * z.size:=by have:=(aD.1 h).1;rwa [iJ] at this
 have hz:0<z.size:=Nat.pos_of_ne_zero fun e=>by rw[e] at hi;simp at hi
 have hm:i % z.size<z.size:=dD _ hz;unfold Builtin.zeroCells at h;simp[hi,hm] at h;simp[hm,h]
theorem JZ (hG:GOk P G)(hs:Sim Y h w){tx:TypeId}{te xt:TY}(hte:G.ty elem=some te)(htx:G.ty tx=some xt){zs:Bool}(hzs:isInt xt.desc=some zs){y:V}{cy:Value}{n:Nat}(hn:news te zs h y=some (n,l))(hy:Rel Y y cy)
  {i:TypeInfo}{z:Value}(hi:P.info? elem=some i)(hb:i.bytes<=1048576)(hz:i.zero=some z)(hsz:i.size=te.size):
  ∃ cs,Qu P tx cy i z n cs w/\fH Y l cs/\(∀ x∈cs,one x=true)/\l.length=n * te.size:=by
 have ht:=hG.types _ _ htx;unfold news at hn;split at hn;·obtain⟨f1,f2,f3⟩:=mY (P:=P) hs hn hy;obtain⟨cs,c1,c2,c3⟩:=f3 n (aF _);rw[List.take_of_length_le (by omega)] at c2;refine⟨cs.toList,⟨.inl ⟨xt.desc,ht.under,hzs,f1,fun w' hw'=>?_⟩⟩,c2,c3,f2⟩;rw[hsz,aP];exact c1 w' hw'
 .split at hn
  .rename_i k zv hzc;split at hn
   .rename_i hle;have hle:=az hle;cases hn;cases hy;obtain⟨z1,c,c1,c2,c3,c4⟩:=mI (hG.types _ _ hte) hzc;have hcz:c=z:=by
     have a:=c1 w;simp[zeroValue,typeInfo,hi,hz] at a;exact a.symm
    subst hcz;obtain⟨kd,hkd⟩:∃ kd,xt.desc=.int kd:=by cases hd:xt.desc<;>rw[hd] at hzs<;>simp[isInt] at hzs;exact⟨_,rfl⟩
    refine⟨_,⟨.inr ⟨kd,.i64,by rw[ht.under,hkd],rfl,hle,hb,rfl⟩⟩,?_,?_,by rw[lC,z1]⟩
    .by_cases h0:n * i.size=0;·rw[if_pos h0];have:rep n zv=[]:=aO.1 (by rw[lC,z1,<- hsz,h0]);rw[this];exact fH.nil
     .rw[if_neg h0];refine⟨by rw[aT,iJ,lC,c2,z1],fun j v x hv hx=>?_⟩;rw[oZ] at hv;split at hv;·have hx:=jk _ _ _ _ (by rw[aM] at hx;exact hx);rw[c2,<- z1] at hx;exact(c3 Y).2 _ v x hv (by rw[aM];exact hx)
      .cases hv
    .intro x hx;split at hx;·simp at hx
     .obtain⟨j,hj⟩:=bV hx;have:=jk _ _ _ _ (by rw[aM] at hj;exact hj);exact c4 x (by have:=dg this;simpa using this)
   .cases hn
  .cases hn
end
end Go.Ev
namespace Go.Ev
variable {h h':H}{w:World}{t tx ty':TypeId}{cx:Value}{v:V}
section
variable {P:Program}{G:Γ}(hG:GOk P G){Y:Ren}
structure Elem (P:Program)(elem:TypeId)(te:TY)(i:TypeInfo)(z:Value):Prop where
 info:P.info? elem=some i
 bytes:i.bytes<=1048576
 zero:i.zero=some z
 size:i.size=te.size
 cells:z.cells.size=te.size
theorem GOk.elem (hG:GOk P G){elem:TypeId}{te:TY}(h:G.ty elem=some te):∃ i z,Elem P elem te i z:=by obtain⟨i,z,a,b,c,d,_⟩:=hG.big _ _ h;obtain⟨j,j1,j2,_⟩:=(hG.types _ _ h).info;rw[a] at j1;cases j1;exact⟨i,z,a,b,c,j2,by rw[d,j2]⟩
theorem oP (hs:Sim Y h w){elem:TypeId}{te:TY}{i:TypeInfo}{z:Value}(hEe:Elem P elem te i z)(ht:P.underlying t=some (.slice elem)){base:Option Addr}{len k n:Nat}(hroom:¬ len+n<=k){e:Option TypeId}
  (he:∀ e',e=some e'->elem=e'){old new:List V}{v:V}(hg:grown h e te.size (len+n) (old++new)=some (v,h')){olds:Array Value}(hold:∀ w',w'.heap=w.heap->(Builtin.firstCells i.size len (.slice base len k)).run P w'=.ok olds w')
  (hR0:fH Y old olds.toList)(h10:∀ x∈olds.toList,one x=true)(hl0:old.length=len * te.size){cy:Value}{news:List Value}(hA:Qu P tx cy i z n news w)(hR:fH Y new news)(h1:∀ x∈news,one x=true)(hlen:new.length=n * te.size):
  oO P (Builtin.append_ #[t,tx] ty' #[.slice base len k,cy]) Y h w v h':=by
 unfold grown at hg;split at hg
 .rename_i hb;simp only[ae] at hb;have hsmall:=az hb.1;cases hg;obtain⟨kk,w',k1,k2,k3⟩:=Bj (P:=P) (tx:=tx) (ty:=ty') ht hEe.info hEe.zero (olds:=olds.toList) hA hroom hsmall hEe.bytes (by rw[aP];exact hold);have hlo:olds.toList.length=len * te.size:=by rw[hR0.1,hl0]
  have hln:news.length=n * te.size:=by rw[hR.1,hlen]
  have hRR:fH Y (old++new) (olds.toList++news):=hR0.append hR;have hll:(old++new).length=(len+n) * te.size:=by rw[bt,hl0,hlen,bH]
  have hlc:(olds.toList++news).length=(len+n) * te.size:=by rw[bt,hlo,hln,bH]
  have hrow:((olds.toList++news).toArray++Builtin.zeroCells z.cells (kk - (len+n))).size=kk * te.size:=by rw[Array.size_append,iJ,hEe.cells,dY,hlc,<- bH];congr 1;omega
  have hget:∀ (j:Nat) (x:Value),j<(old++new).length->((olds.toList++news).toArray++Builtin.zeroCells z.cells (kk - (len+n)))[j]?=some x->(olds.toList++news)[j]?=some x:=by intro j x hj hx;rw[dL (by rw[dY,hlc,<- hll];exact hj)] at hx;simpa using hx
  obtain⟨s1,s2,s3⟩:=JX hs k3 hrow k1 hll (e:=e) (fun j v x hv hx=>hRR.2 j v x hv (hget j x (ai.1 hv).1 hx)) (fun j x hj hx=>by
   have hm:=aC (hget j x hj hx);rcases aK.1 hm with q|q
   .exact h10 x q
   .exact h1 x q) he
  exact⟨_,_,w',k2,s1,s2,s3⟩
 .cases hg
theorem yW (hs:Sim Y h w){elem:TypeId}{te:TY}{i:TypeInfo}{z:Value}(hEe:Elem P elem te i z)(ht:P.underlying t=some (.slice elem)){x:V}{n:Nat}{new:List V}
  (ha:fO elem te h x n new=some (v,h'))(hx:Rel Y x cx){cy:Value}{news:List Value}(hA:Qu P tx cy i z n news w)(hR:fH Y new news)(h1:∀ x∈news,one x=true)(hlen:new.length=n * te.size):
  oO P (Builtin.append_ #[t,tx] ty' #[cx,cy]) Y h w v h':=by
 have hln:news.length=n * te.size:=by rw[hR.1,hlen]
 unfold fO at ha;split at ha
 .cases hx;split at ha;·rename_i hn;rw[T.beq_true] at hn;subst hn;cases ha;have:=jw (P:=P) (w':=w) (t:=t) (tx:=tx) (ty:=ty') ht hEe.info hEe.zero (base:=none) (sLen:=0) (sCap:=0) hA (aF _) rfl;exact⟨Y,_,w,this,hs,Ext.refl _ _ _,.nils⟩
  .rename_i hn;have hn:n≠0:=fun q=>by rw[q] at hn;simp at hn
   refine oP hs hEe ht (by omega) (old:=[]) (olds:=#[]) (e:=some elem) (fun e' q=>by cases q;rfl) (by rw[aI];exact ha) (fun w' _=>rfl) fH.nil (fun x hx=>by simp at hx) (by simp) hA hR h1 hlen
 .rename_i b o len c;cases hx with
  |sliceK hb=>
   rename_i B d zz;split at ha
   .rename_i hle;have hle:len+n<=c:=az hle;split at ha
    .rename_i h'' hp;cases ha;obtain⟨w',r1,r2,r3⟩:=jM (P:=P) hs hp hb hR h1;have:=jw (P:=P) (w':=w') (t:=t) (tx:=tx) (ty:=ty') ht hEe.info hEe.zero (base:=some ⟨B,d+o,none⟩) (sLen:=len) (sCap:=c) hA hle (by
      show Sem.run P (storeCells ((⟨B,d+o,none⟩:Addr).add (len * i.size)) news) w=Result.ok () w';rw[Addr.pO,hEe.size,bA];exact r1)
     exact⟨Y,_,w',this,r2,r3,.sliceK hb⟩
    .cases ha
   .rename_i hle;have hle:¬ len+n<=c:=fun q=>by rw[show Nat.ble (Nat.add len n) c=true from aH q] at hle;cases hle
    split at ha;·rename_i old hg;obtain⟨olds,o1,o2,o3,o4⟩:=ju (P:=P) hs hg hb;refine oP hs hEe ht hle (olds:=olds) (e:=some elem) (fun e' q=>by cases q;rfl) ha (fun w' hw'=>by rw[hEe.size];exact o1 w' hw') o2 o4 (iB hg) hA hR h1 hlen
    .cases ha
 .rename_i b o len c es;split at ha;·cases ha
  .rename_i hes;rw[T.beq_true] at hes;subst hes;split at ha
   .rename_i hle;have hle:len+n<=c:=az hle;split at ha
    .rename_i h'' hp;cases ha;cases hx with
     |sliceA hb hm hz=>rename_i k B d zz;obtain⟨w',r1,r2,r3⟩:=jM (P:=P) hs hp hb hR h1;have:=jw (P:=P) (w':=w') (t:=t) (tx:=tx) (ty:=ty') ht hEe.info hEe.zero (base:=some ⟨B,d+o,none⟩) (sLen:=len) (sCap:=k) hA (by omega) (by show Sem.run P (storeCells ((⟨B,d+o,none⟩:Addr).add (len * i.size)) news) w=Result.ok () w';rw[Addr.pO,hEe.size,bA];exact r1);exact⟨Y,_,w',this,r2,r3,.sliceA hb hm hz⟩
     |sliceZ a=>
      have hn:n=0:=by omega
      subst hn;have hne:new=[]:=aO.1 (by rw[hlen];simp);subst hne;have hnn:=hR.of_nil;subst hnn;obtain⟨r2,r3⟩:=mc hs hp;have:=jw (P:=P) (w':=w) (t:=t) (tx:=tx) (ty:=ty') ht hEe.info hEe.zero (base:=some a) (sLen:=0) (sCap:=0) hA (by omega) rfl;exact⟨Y,_,w,this,r2,r3,.sliceZ a⟩
    .cases ha
   .rename_i hle;have hle:¬ len+n<=c:=fun q=>by rw[show Nat.ble (Nat.add len n) c=true from aH q] at hle;cases hle
    split at ha
    .rename_i e0 n0 pat0 tr0 old ho hg;have hsub:∀ b' o',(h.set b none).tr.get b'=some o'->h.tr.get b'=some o':=fun b' o' q=>by
      simp only[H.gj] at q;split at q;·cases q
      .exact q
     have hs0:Sim Y (h.set b none) w:=hs.sub (aF _) hsub;have hx0:Ext Y h w Y (h.set b none) w:=Ext.drop rfl hsub;have hse0:∀ e',Ba e0 elem=some e'->elem=e':=fun e' q=>by
      unfold Ba at q;split at q
      .split at q;·cases q;rfl
       .cases q
      .cases q
     have hso:∀ e',oI o e0 elem=some e'->o=0/\Ba e0 elem=some e':=fun e' q=>by
      unfold oI at q;split at q;·rename_i hb0;exact⟨by simpa using hb0,q⟩
      .cases q
     have hse:∀ e',oI o e0 elem=some e'->elem=e':=fun e' q=>hse0 e' (hso e' q).2;cases hx with
     |sliceA hb hm hz=>
      rename_i k B d zz;obtain⟨olds,o1,o2,o3,o4⟩:=ju (P:=P) hs hg hb;by_cases hk:len+n<=k
      .
       obtain⟨L,c0,l1,l2,l3⟩:=hs.live b _ ho;rw[hb] at l1;cases l1;obtain⟨cs,el,lo,hi,rfl,a1,a2,a3,a4,a5⟩:=l3;simp only at a1 a2 a3 a5 l2;have hkz:(len+n) * te.size<=k * te.size:=bD _ hk;rw[bH] at hkz;obtain⟨w',cs',e1,e2,e3,e4⟩:=jW (P:=P) (B:=B) (off:=d+o+len * te.size) news 0 cs w l2 (fun q hq=>a3 q (by omega)) (by omega) h1;have hr:=jw (P:=P) (w':=w') (t:=t) (tx:=tx) (ty:=ty') ht hEe.info hEe.zero (base:=some ⟨B,d+o,none⟩) (sLen:=len) (sCap:=k) hA hk (by show Sem.run P (storeCells ((⟨B,d+o,none⟩:Addr).add (len * i.size)) news) w=Result.ok () w';rw[Addr.pO,hEe.size];exact e1);have hl0:old.length=len * te.size:=iB hg;have o3:olds.size=len * te.size:=o3;have hexo:olds=cs.extract (d+o) (d+o+len * te.size):=by have q1:(loadCells ⟨B,d+o,none⟩ (len * te.size)).run P w=.ok olds w:=o1 w rfl;rw[kT (P:=P) (off:=d+o) (k:=len * te.size) l2 (by omega)] at q1;cases q1;rfl
       unfold grown at ha;split at ha
       .cases ha;have hll:(old++new).length=(len+n) * te.size:=by rw[bt,hl0,hlen,bH]
        have hll':(old++new).length=len * te.size+n * te.size:=by rw[hll,bH]
        have hcell:∀ (j:Nat) (x:Value),j<(old++new).length->cs'[d+o+j]?=some x->(olds.toList++news)[j]?=some x:=by
         intro j x hj hx;have hz0:olds.toList.length=len * te.size:=by rw[aT,o3]
         rw[e4] at hx;by_cases hjl:j<len * te.size;·rw[if_neg (by omega)] at hx;rw[dj (by omega),aM,hexo,dV,if_pos (by omega)];exact hx
         .rw[if_pos (by omega)] at hx;rw[zaw (by omega),hz0];rw[show d+o+j - (d+o+len * te.size+0)=j - len * te.size by omega] at hx;exact hx
        have hRR:=o2.append hR;have hor:jD Y (mkO (oI o e0 elem) (old++new)) (B,d+o,zz) (.cells cs' el (lo,hi)):=by
         refine C8 (by rw[e3];exact a1) (by omega) a3 (fun e' q=>?_) (fun j v x hv hx=>hRR.2 j v x hv (hcell j x (ai.1 hv).1 hx)) (fun j x hj hx=>?_)
         .have q2:=hse e' q;subst q2;obtain⟨q0,q⟩:=hso _ q;unfold Ba at q;split at q
          .rename_i t';split at q;·rename_i hb2;rw[T.beq_true] at hb2;subst hb2;have a4:=a4 _ rfl;exact⟨a4.1,by have:=a4.2;simp only at this;omega⟩
           .cases q
          .cases q
         .have hm:=aC (hcell j x hj hx);rcases aK.1 hm with q|q
          .exact o4 x q
          .exact h1 x q
        obtain⟨m1,m2⟩:=JY hs hb ho rfl e2 (HQ _ _) hor;refine⟨_,_,w',hr,m1,m2,?_⟩;have:=Rel.sliceA (Y:=Y.with h.next (B,d+o,zz)) (b:=h.next) (o:=0) (len:=len+n) (m:=len+n) (es:=te.size) (k:=k) (Ren.fF ..) hk (by simpa using hz);exact this
       .cases ha
      .obtain⟨Y',c',w',g1,g2,g3,g4⟩:=oP (P:=P) (t:=t) (tx:=tx) (ty':=ty') hs0 hEe ht (base:=some ⟨B,d+o,none⟩) hk hse ha (olds:=olds) (fun w' hw'=>by rw[hEe.size];exact o1 w' hw') o2 o4 (iB hg) hA hR h1 hlen;exact⟨Y',c',w',g1,g2,hx0.trans g3,g4⟩
     |sliceZ a=>have hl0:old.length=0 * te.size:=iB hg;have hold:old=[]:=aO.1 (by rw[hl0];simp);subst hold;obtain⟨Y',c',w',g1,g2,g3,g4⟩:=oP (P:=P) (t:=t) (tx:=tx) (ty':=ty') hs0 hEe ht (base:=some a) (len:=0) (k:=0) hle hse ha (olds:=#[]) (fun w' hw'=>by simp[Builtin.firstCells,loadCells,loadCellsFrom]) fH.nil (fun x hx=>by simp at hx) (by simp) hA hR h1 hlen;exact⟨Y',c',w',g1,g2,hx0.trans g3,g4⟩
    .cases ha
 .cases ha
theorem yX (hG:GOk P G)(hs:Sim Y h w){x y:Option V}{cy:Value}(hf:pL G (G.ty t) (G.ty tx) h x y=some (v,h'))(hx:∀ a,x=some a->Rel Y a cx)(hy:∀ a,y=some a->Rel Y a cy):
  oO P (Builtin.append_ #[t,tx] ty' #[cx,cy]) Y h w v h':=by
 unfold pL at hf;split at hf
 .rename_i ty xt x y hty htx;split at hf
  .rename_i elem e1;split at hf
   .rename_i te hte;split at hf
    .rename_i zs hzs;split at hf;·rename_i n l hn;obtain⟨i,z,hEe⟩:=hG.elem hte;obtain⟨news,A,R,O1,L⟩:=JZ (P:=P) (w:=w) hG hs hte htx hzs hn (hy _ rfl) hEe.info hEe.bytes hEe.zero hEe.size;exact yW hs hEe (by rw[(hG.types _ _ hty).under,e1]) hf (hx _ rfl) A R O1 L
     .cases hf
    .cases hf
   .cases hf
  .cases hf
 .cases hf
theorem Eh (hG:GOk P G)(hs:Sim Y h w){x y:Option V}{cy:Value}(hf:Nt G (G.ty t) h x y=some (v,h'))(hx:∀ a,x=some a->Rel Y a cx)(hy:∀ a,y=some a->Rel Y a cy):
  oO P (Builtin.copy_ #[t,tx] ty' #[cx,cy]) Y h w v h':=by
 unfold Nt at hf;split at hf
 .rename_i ty x y hty;split at hf
  .rename_i elem e1;split at hf
   .rename_i te hte;split at hf
    .rename_i n l hn;have ht:=hG.types _ _ hty;have hte':=hG.types _ _ hte;obtain⟨f1,f2,f3⟩:=mY (P:=P) hs hn (hy _ rfl);have hx:=hx _ rfl;split at hf;·cases hf;cases hx;obtain⟨cs,c1,_⟩:=f3 0 (cW _);refine⟨Y,_,w,?_,hs,Ext.refl _ _ _,.int _ _⟩;have c1:=c1 w rfl;simp[Builtin.copy_,ht.run_underlying,e1,f1,hte'.run_sizeOf,c1,goInt]
     .rename_i b o len cap _;split at hf
      .rename_i l' hl';split at hf
       .rename_i h'' hp;cases hf;obtain⟨t1,t2⟩:=iL _ _ _ hl';obtain⟨cs,c1,c2,c3⟩:=f3 (min n len) (Nat.min_le_left _ _);have c1:=c1 w rfl;have t1:l'=l.take (min n len * te.size):=t1;rw[<- t1] at c2;have main:∀ (B d z k:Nat),Y b=some (B,d,z)->oO P (Builtin.copy_ #[t,tx] ty' #[.slice (some ⟨B,d+o,none⟩) len k,cy]) Y h w (.int .i64 (Int.ofNat (min n len))) h':=by
         intro B d z k hb;obtain⟨w',r1,r2,r3⟩:=jM (P:=P) hs hp hb c2 c3;refine⟨Y,_,w',?_,r2,r3,.int _ _⟩;simp[Builtin.copy_,ht.run_underlying,e1,f1,hte'.run_sizeOf,c1,goInt,r1]
        cases hx with
        |sliceK hb=>exact main _ _ _ _ hb
        |sliceA hb _ _=>exact main _ _ _ _ hb
        |sliceZ a=>have hl0:l'=[]:=aO.1 (by rw[t1];simp);rw[hl0] at hp c2;have hc0:=c2.of_nil;obtain⟨r2,r3⟩:=mc hs hp;refine⟨Y,_,w,?_,r2,r3,.int _ _⟩;simp at c1;simp[Builtin.copy_,ht.run_underlying,e1,f1,hte'.run_sizeOf,c1,goInt,hc0,storeCells]
       .cases hf
      .cases hf
     .cases hf
    .cases hf
   .cases hf
  .cases hf
 .cases hf
end
end Go.Ev
namespace Go.Ev
variable {w:World}{c:Obj}{h h':H}{t:TypeId}{m k:Option V}{v:V}{cm ck:Value}
theorem mA {α:Type}(f:α->α):∀ (i:Nat) (l:List α) (j:Nat),(iH f i l)[j]?=if j=i then l[j]?.map f else l[j]?
 |i,[],j=>by simp[iH]
 |0,x :: l,j=>by cases j<;>simp[iH]
 |i+1,x :: l,j=>by
  cases j with
  |zero=>simp[iH]
  |succ j=>simp[iH,mA f i l j]
theorem C9 {α:Type}(f:α->α):∀ (i:Nat) (l:List α),(iH f i l).length=l.length
 |i,[]=>by simp[iH]
 |0,x :: l=>by simp[iH]
 |i+1,x :: l=>by simp[iH,C9 f i l]
theorem HS {α:Type}:∀ (i:Nat) (l:List α),Ea i l=l.eraseIdx i
 |i,[]=>by simp[Ea]
 |0,x :: l=>by simp[Ea]
 |i+1,x :: l=>by simp[Ea,HS i l]
section
variable {P:Program}{G:Γ}(hG:GOk P G){Y:Ren}
theorem nJ.C6 {es:List (V×V×Nat)}{es':Array MapEntry}(h:nJ Y es es'.toList)(clock:Nat)(L:Nat×Nat×Nat):jD Y (.map es clock) L (.map es' clock):=
 ⟨es',rfl,by simpa using h.1,fun i e e' he he'=>h.2 i e e' he (by simpa using he')⟩
theorem nJ.modify {es:List (V×V×Nat)}{es':Array MapEntry}(h:nJ Y es es'.toList){i:Nat}{f:V×V×Nat->V×V×Nat}{f':MapEntry->MapEntry}
  (hf:∀ e e',es[i]?=some e->es'[i]?=some e'->Rel Y (f e).1 (f' e').key/\Rel Y (f e).2.1 (f' e').val/\(f' e').born=(f e).2.2):nJ Y (iH f i es) (es'.modify i f').toList:=by
 refine⟨by rw[C9,aT,Array.size_modify];simpa using h.1,fun j e e' he he'=>?_⟩;rw[mA] at he;rw[aM,cQ] at he';by_cases hj:j=i;·subst hj;rw[if_pos rfl] at he;rw[if_pos rfl] at he';simp only[cH] at he he';obtain⟨a,a1,rfl⟩:=he;obtain⟨b,b1,rfl⟩:=he';exact hf a b a1 b1
 .rw[if_neg hj] at he;rw[if_neg (fun q=>hj q.symm)] at he';exact h.2 j e e' he (by rw[aM];exact he')
theorem nJ.push {es:List (V×V×Nat)}{es':Array MapEntry}(h:nJ Y es es'.toList){k v:V}{ck cv:Value}(hk:Rel Y k ck)(hv:Rel Y v cv)(clock:Nat):
  nJ Y (es++[(k,v,clock)]) (es'.push { key:=ck,val:=cv,born:=clock }).toList:=by
 have hl:es'.size=es.length:=by simpa using h.1
 refine⟨by simp[hl],fun j e e' he he'=>?_⟩;rw[Array.toList_push] at he';by_cases hj:j<es.length;·rw[dj hj] at he;rw[dj (by rw[aT];omega)] at he';exact h.2 j e e' he he'
 .rw[zaw (by omega)] at he;rw[zaw (by rw[aT];omega),aT,hl] at he';cases hq:j - es.length with
  |zero=>rw[hq] at he he';simp at he he';subst he;subst he';exact⟨hk,hv,rfl⟩
  |succ q=>rw[hq] at he;simp at he
theorem nJ.erase {es:List (V×V×Nat)}{es':Array MapEntry}(h:nJ Y es es'.toList)(i:Nat):nJ Y (Ea i es) (es'.eraseIdxIfInBounds i).toList:=by
 rw[HS];have e:(es'.eraseIdxIfInBounds i).toList=es'.toList.eraseIdx i:=by
  simp[Array.eraseIdxIfInBounds];split;·simp
  .rename_i hi;rw[List.eraseIdx_of_length_le];simp;omega
 rw[e];have hl:es'.toList.length=es.length:=h.1;refine⟨by simp only[List.length_eraseIdx,hl],fun j a a' ha ha'=>?_⟩;rw[List.getElem?_eraseIdx] at ha ha';split at ha;·rename_i hj;rw[if_pos hj] at ha';exact h.2 j a a' ha ha'
 .rename_i hj;rw[if_neg hj] at ha';exact h.2 (j+1) a a' ha ha'
def Ei:Obj->Bool
 |.cells ..=>true
 |_=>false
theorem pQ {B:Nat}(h:w.heap[B]?=some c)(hc:Ei c=false):(getObj B).run P w=.ok c w:=by
 cases c<;>first
  |(simp[Ei] at hc;done)
  |simp[getObj,Sem.run,h]
theorem Ej {B:Nat}(h:w.heap[B]?=some c)(hc:Ei c=false)(c':Obj):∃ w',(setObj B c').run P w=.ok () w'/\Lo w w' B c':=by
 have hlt:B<w.heap.size:=(aD.1 h).1;refine⟨{ w with heap:=w.heap.setIfInBounds B c' },?_,⟨by simp[hlt],fun B' hB=>by simp only;rw[bK (fun q=>hB q.symm)],by simp,rfl,rfl,rfl⟩⟩;cases c<;>first
  |(simp[Ei] at hc;done)
  |simp[setObj,Sem.run,h]
theorem gw {w0:World}(hs:Sim Y h w){b:Nat}{L:Nat×Nat×Nat}(hb:Y b=some L){o o':O}(ho:h.tr.get b=some o)(hw0:w0.heap=w.heap)(ht:w0.tape=w.tape)(hos:w0.os=w.os)(hou:w0.output=w.output){c':Obj}(hc:w.heap[L.1]?=some c)(hr:Ei c=false)
  (hgo:o'.isG=false)(hor:jD Y o' L c'):∃ w',(setObj L.1 c').run P w0=.ok () w'/\Sim Y (h.set b (some o')) w'/\Ext Y h w Y (h.set b (some o')) w':=by
 obtain⟨w',e1,e2⟩:=Ej (P:=P) (w:=w0) (by rw[hw0];exact hc) hr c';have hrw:o.rw=true:=by
  obtain⟨L',c1,l1,l2,l3⟩:=hs.live b o ho;rw[hb] at l1;cases l1;rw[hc] at l2;cases l2;cases o<;>first
   |rfl
   |(obtain⟨cs,el,fr,q,_⟩:=l3;subst q;simp[Ei] at hr)
 refine⟨w',e1,hs.set ho hb e2.here hor (fun B hB=>by rw[e2.other B hB,hw0]) hgo hrw,Ext.set ho hb hrw (by rw[e2.size,hw0]) (fun B hB=>by rw[e2.other B hB,hw0]) (by rw[e2.tape,ht]) (by rw[e2.os,hos]) (by rw[e2.output,hou])⟩
theorem Da (k:Value)(w:World):∃ w0,(Instr.keyThatStays k k).run P w=.ok k w0/\w0.heap=w.heap/\w0.tape=w.tape/\w0.os=w.os/\w0.output=w.output:=by
 unfold Instr.keyThatStays;by_cases h:Instr.sameBits 10000 k k=true;·exact⟨w,by rw[if_pos h];rfl,rfl,rfl,rfl,rfl⟩
 .refine⟨w.drew,?_,rfl,rfl,rfl,rfl⟩;rw[if_neg h];simp[Question.forced]
theorem qA (hG:GOk P G)(hs:Sim Y h w){x:Option V}{cx:Value}(hf:jU G h (G.ty t) m k x=some (v,h'))(hm:∀ a,m=some a->Rel Y a cm)(hk:∀ a,k=some a->Rel Y a ck)(hx:∀ a,x=some a->Rel Y a cx):
  HP P (Instr.mapUpdate t cm ck cx) Y h w v h':=by
 unfold jU at hf;split at hf
 .rename_i ty r k u hty;have ht:=hG.types _ _ hty;have hm:=hm _ rfl;have hk:=hk _ rfl;have hx:=hx _ rfl;split at hf
  .rename_i kt et e1;split at hf
   .rename_i es clock ho hok;cases hm with
    |map hb=>
     rename_i B d z;obtain⟨es',m1,m2⟩:=mX hs hb ho;have hck:=kU hG hok hk false w;split at hf
     .rename_i i y hfk;split at hf
      .rename_i hpl;cases hf;obtain⟨r',r1,r2⟩:=gE hG hk hok m2 hfk w;cases r2 with
       |some h1 h2=>
        rename_i j e';rw[aI] at *;obtain⟨q1,q2,q3⟩:=m2.2 _ _ _ h1 h2;have hkk:ck=e'.key:=uX hpl hk q1;have hold:((es'[j]?).map (·.key)).getD ck=ck:=by rw[aM] at h2;rw[h2];simp[hkk]
        obtain⟨w0,k1,k2,k3,k4,k5⟩:=Da (P:=P) ck w;obtain⟨w',s1,s2,s3⟩:=gw (P:=P) (w0:=w0) hs hb ho k2 k3 k4 k5 m1 rfl rfl (nJ.C6 (m2.modify (f:=fun y=>(k,u,y.2.2)) (f':=fun e=>{ e with key:=ck,val:=cx }) (i:=j) (fun a b ha hb=>⟨hk,hx,(m2.2 j a b ha (by rw[aM];exact hb)).2.2⟩)) clock _);refine⟨Y,w',?_,s2,s3,rfl⟩;simp only[Instr.mapUpdate,Sem.run_bind,ht.run_underlying,e1,Result.andThen_ok,fI m1,hck,r1,hold,k1];exact s1
      .cases hf
     .rename_i hfk;cases hf;obtain⟨r',r1,r2⟩:=gE hG hk hok m2 hfk w;cases r2;obtain⟨w',s1,s2,s3⟩:=gw (P:=P) (w0:=w) hs hb ho rfl rfl rfl rfl m1 rfl rfl (nJ.C6 (m2.push hk hx clock) (clock+1) _);refine⟨Y,w',?_,s2,s3,rfl⟩;simp only[Instr.mapUpdate,Sem.run_bind,ht.run_underlying,e1,Result.andThen_ok,fI m1,hck,r1];exact s1
     .cases hf
   .cases hf
  .cases hf
 .cases hf
theorem Bk (hG:GOk P G)(hs:Sim Y h w)(hf:qx G h (G.ty t) m k=some (v,h'))(hm:∀ a,m=some a->Rel Y a cm)(hk:∀ a,k=some a->Rel Y a ck):
  oO P (Instr.mapEntry t cm ck) Y h w v h':=by
 unfold qx at hf;split at hf
 .rename_i ty r k hty;have ht:=hG.types _ _ hty;have hm:=hm _ rfl;have hk:=hk _ rfl;split at hf
  .rename_i kt et e1;split at hf
   .rename_i es clock ho hok;cases hm with
    |map hb=>
     rename_i B d z;obtain⟨es',m1,m2⟩:=mX hs hb ho;have hck:=kU hG hok hk false w;split at hf
     .rename_i i y hfk;split at hf
      .rename_i hpl;cases hf;obtain⟨r',r1,r2⟩:=gE hG hk hok m2 hfk w;cases r2 with
       |some h1 h2=>
        rename_i j e';rw[aI] at *;obtain⟨q1,q2,q3⟩:=m2.2 _ _ _ h1 h2;have hkk:ck=e'.key:=uX hpl hk q1;rw[aM] at h2;have hold:((es'[j]?).map (·.key)).getD ck=ck:=by rw[h2];simp[hkk]
        obtain⟨w0,k1,k2,k3,k4,k5⟩:=Da (P:=P) ck w;obtain⟨w',s1,s2,s3⟩:=gw (P:=P) (w0:=w0) hs hb ho k2 k3 k4 k5 m1 rfl rfl (nJ.C6 (m2.modify (f:=fun y=>(k,y.2.1,y.2.2)) (f':=fun e=>{ e with key:=ck }) (i:=j) (fun a b ha hb=>let q:=m2.2 j a b ha (by rw[aM];exact hb);⟨hk,q.2.1,q.2.2⟩)) clock _);refine⟨Y,_,w',?_,s2,s3,fH.J5 q2 (.int .i64 _)⟩;simp only[Instr.mapEntry,Sem.run_bind,ht.run_underlying,e1,Result.andThen_ok,fI m1,hck,r1,hold,k1];rw[show Sem.run P (setObj B (Obj.map (es'.modify j fun e=>{ key:=ck,val:=e.val,born:=e.born }) clock)) w0=Result.ok () w' from s1];simp[h2,q3,goInt]
      .cases hf
     .rename_i hfk;split at hf
      .rename_i te hte;split at hf;·rename_i zv hz;cases hf;obtain⟨c,c1,c2⟩:=(hG.types _ _ hte).mF hz;obtain⟨r',r1,r2⟩:=gE hG hk hok m2 hfk w;cases r2;obtain⟨w',s1,s2,s3⟩:=gw (P:=P) (w0:=w) hs hb ho rfl rfl rfl rfl m1 rfl rfl (nJ.C6 (m2.push hk (c2 Y) clock) (clock+1) _);refine⟨Y,_,w',?_,s2,s3,fH.J5 (c2 Y) (.int .i64 _)⟩;simp only[Instr.mapEntry,Sem.run_bind,ht.run_underlying,e1,Result.andThen_ok,fI m1,hck,r1,c1];rw[show Sem.run P (setObj B (Obj.map (es'.push { key:=ck,val:=c,born:=clock }) (clock+1))) w=Result.ok () w' from s1];simp[goInt]
       .cases hf
      .cases hf
     .cases hf
   .cases hf
  .cases hf
 .cases hf
theorem uZ {st:Nat}:∀ {es:List (V×V×Nat)} {es':List MapEntry} {i0 i:Nat},kr es st i0=some i->nJ Y es es'->∃ j,i=i0+j/\es'.findIdx? (fun e=>(e.born:Int) == Int.ofNat st)=some j
 |[],_,_,_,h,_=>by simp[kr] at h
 |e :: es,es',i0,i,h,he=>by
  obtain⟨e',rest,rfl,⟨h1,h2,h3⟩,hr⟩:=he.zaa;simp only[kr] at h;split at h;·rename_i hb;rw[T.beq_true] at hb;cases h;exact⟨0,rfl,by simp[List.findIdx?_cons,h3,hb]⟩
  .rename_i hb;have hb:e.2.2≠st:=fun q=>by rw[q] at hb;simp at hb
   obtain⟨j,j1,j2⟩:=uZ h hr;refine⟨j+1,by omega,?_⟩;have hne:((e'.born:Int) == Int.ofNat st)=false:=by rw[h3];simp only[aN,beq_eq_false_iff_ne,ne_eq];omega
   rw[List.findIdx?_cons,hne,j2];rfl
theorem qQ (hs:Sim Y h w){st x:Option V}{cs cx:Value}(hf:gd h m st x=some (v,h'))(hm:∀ a,m=some a->Rel Y a cm)(hst:∀ a,st=some a->Rel Y a cs)(hx:∀ a,x=some a->Rel Y a cx):
  HP P (Instr.entryStore t cm cs cx) Y h w v h':=by
 unfold gd at hf;split at hf
 .rename_i r kk born u;have hm:=hm _ rfl;have hst:=hst _ rfl;have hx:=hx _ rfl;split at hf
  .rename_i es clock ho;split at hf
   .rename_i i hi;cases hf;cases hst;cases hm with
    |map hb=>
     rename_i B d z;obtain⟨es',m1,m2⟩:=mX hs hb ho;obtain⟨j,rfl,j2⟩:=uZ hi m2;rw[aI] at *;obtain⟨w',s1,s2,s3⟩:=gw (P:=P) (w0:=w) hs hb ho rfl rfl rfl rfl m1 rfl rfl (nJ.C6 (m2.modify (f:=fun y=>(y.1,u,y.2.2)) (f':=fun e=>{ e with val:=cx }) (i:=j) (fun a b ha hb=>let q:=m2.2 j a b ha (by rw[aM];exact hb);⟨q.1,hx,q.2.2⟩)) clock _);refine⟨Y,w',?_,s2,s3,rfl⟩;have j3:es'.findIdx? (fun e=>(e.born:Int) == Int.ofNat born)=some j:=by have q:=List.findIdx?_toArray (fun e:MapEntry=>(e.born:Int) == Int.ofNat born) es'.toList;rw[aP] at q;rw[q,j2]
     simp only[Instr.entryStore,Sem.run_bind,Result.andThen_ok,fI m1,asInt,asIntOf,Sem.run_pure,j3];exact s1
   .cases hf
  .cases hf
 .cases hf
theorem yY (hG:GOk P G)(hs:Sim Y h w){tx ty':TypeId}(hf:pM G (G.ty t) h m k=some (v,h'))(hm:∀ a,m=some a->Rel Y a cm)(hk:∀ a,k=some a->Rel Y a ck):
  oO P (Builtin.delete_ #[t,tx] ty' #[cm,ck]) Y h w v h':=by
 unfold pM at hf;split at hf
 .rename_i ty m k hty;have ht:=hG.types _ _ hty;have hm:=hm _ rfl;have hk:=hk _ rfl;split at hf
  .rename_i kt et r e1 _;split at hf
   .rename_i es clock ho hok;cases hm with
    |map hb=>
     rename_i B d z;obtain⟨es',m1,m2⟩:=mX hs hb ho;have hck:=kU hG hok hk es'.isEmpty w;split at hf
     .rename_i i y hfk;cases hf;obtain⟨r',r1,r2⟩:=gE hG hk hok m2 hfk w;cases r2 with
      |some h1 h2=>rename_i j e';rw[aI] at *;obtain⟨w',s1,s2,s3⟩:=gw (P:=P) (w0:=w) hs hb ho rfl rfl rfl rfl m1 rfl rfl (nJ.C6 (m2.erase j) clock _);refine⟨Y,_,w',?_,s2,s3,.undef⟩;simp only[Builtin.delete_,dZ,bZ,aQ,Sem.run_bind,ht.run_underlying,e1,Result.andThen_ok,fI m1,hck,r1];rw[show Sem.run P (setObj B (Obj.map (es'.eraseIdxIfInBounds j) clock)) w=Result.ok () w' from s1];rfl
     .rename_i hfk;cases hf;obtain⟨r',r1,r2⟩:=gE hG hk hok m2 hfk w;cases r2;obtain⟨w',s1,s2,s3⟩:=gw (P:=P) (w0:=w) hs hb ho rfl rfl rfl rfl m1 rfl rfl (nJ.C6 m2 clock _);refine⟨Y,_,w',?_,?_,?_,.undef⟩;·simp only[Builtin.delete_,dZ,bZ,aQ,Sem.run_bind,ht.run_underlying,e1,Result.andThen_ok,fI m1,hck,r1];rw[show Sem.run P (setObj B (Obj.map es' clock)) w=Result.ok () w' from s1];rfl
      .refine s2.sub (aF _) fun b o hbo=>?_;simp only[H.gj];split;·rename_i q;rw[<- ho,<- q];exact hbo
       .exact hbo
      .exact s3.trans (Ext.drop rfl fun b o hbo=>by
        simp only[H.gj];split;·rename_i q;rw[<- ho,<- q];exact hbo
        .exact hbo)
     .cases hf
   .cases hf
  .cases hf
 .cases hf
end
end Go.Ev
namespace Go.Ev
variable {h:H}{w:World}{v:V}
section
variable {P:Program}{G:Γ}(hG:GOk P G){Y:Ren}
theorem pR (hs:Sim Y h w){ob:O}(hgo:ob.isG=false){c:Obj}(hor:jD Y ob (w.heap.size,0,0) c):
  ∃ w',(newObj c).run P w=.ok w.heap.size w'/\Sim (Y.with h.next (w.heap.size,0,0)) (h.add ob) w'/\Ext Y h w (Y.with h.next (w.heap.size,0,0)) (h.add ob) w':=by
 have hother:∀ B,B<w.heap.size->(w.heap.push c)[B]?=w.heap[B]?:=fun B hB=>by rw[cL,if_neg (by omega)]
 refine⟨{ w with heap:=w.heap.push c },by simp[newObj,Sem.run],?_,?_⟩;·exact hs.add (o':=ob) (L:=(w.heap.size,0,0)) (c':=c) hs.fresh (by simp) (by simp) (fun x=>H.add_get h _ x) (aF _) (by simp) (hor.mono (Ren.gV Y _ hs.fresh)) hother hgo
 .exact Ext.add (o':=ob) (L:=(w.heap.size,0,0)) (aF _) (by simp) (fun x=>H.add_get h _ x) (aF _) (by simp) hother rfl rfl rfl
theorem Bl (hG:GOk P G){h':H}(hs:Sim Y h w){t:TypeId}{x:Option V}{cx:Value}(hf:uQ (G.ty t) h x=some (v,h'))(hx:∀ a,x=some a->Rel Y a cx):oO P (Instr.range t cx) Y h w v h':=by
 unfold uQ at hf;split at hf
 .rename_i ty u hty;have ht:=hG.types _ _ hty;have hx:=hx _ rfl;have ptr:Rel (Y.with h.next (w.heap.size,0,0)) (.ptr h.next 0) (.pointer (some ⟨w.heap.size,0,none⟩)):=by
   have:=Rel.ptr (Y:=Y.with h.next (w.heap.size,0,0)) (b:=h.next) (o:=0) (Ren.fF ..);exact this
  split at hf;·rename_i s e1 _;cases hf;cases hx;obtain⟨w',e2,e3,e4⟩:=pR (P:=P) hs (ob:=.strIter s 0) rfl (c:=.stringIter ⟨s.toArray⟩ 0) ⟨rfl,rfl⟩;exact⟨_,_,w',by simp only[Instr.range,Sem.run_bind,ht.run_underlying,e1,Result.andThen_ok,Sem.run_pure,e2],e3,e4,ptr⟩
  .rename_i e1 _;cases hf;cases hx;obtain⟨w',e2,e3,e4⟩:=pR (P:=P) hs (ob:=.mapIter none 0 [] 0) rfl (c:=.mapIter none 0 #[] 0) ⟨rfl,none,rfl,.inl ⟨rfl,rfl⟩⟩;exact⟨_,_,w',by simp only[Instr.range,Sem.run_bind,ht.run_underlying,e1,Result.andThen_ok,Sem.run_pure,e2],e3,e4,ptr⟩
  .rename_i m e1 _;split at hf
   .rename_i es clock ho;cases hf;cases hx with
    |map hb=>rename_i B d z;obtain⟨es',m1,m2⟩:=mX hs hb ho;obtain⟨w',e2,e3,e4⟩:=pR (P:=P) hs (ob:=.mapIter (some m) clock [] clock) rfl (c:=.mapIter (some B) clock #[] clock) ⟨rfl,some B,rfl,.inr ⟨m,B,d,z,rfl,hb,rfl⟩⟩;exact⟨_,_,w',by simp only[Instr.range,Sem.run_bind,ht.run_underlying,e1,Result.andThen_ok,Sem.run_pure,fI m1,e2],e3,e4,ptr⟩
   .cases hf
  .cases hf
 .cases hf
theorem fH.Uc {u t:V}{a b c:Value}(h:Rel Y v a)(k:Rel Y u b)(l:Rel Y t c):Rel Y (.tuple [v,u,t]) (.tuple #[a,b,c]):=by
 refine .tuple rfl fun i x y h1 h2=>?_;match i with
 |0=>simp at h1 h2;subst h1;subst h2;exact h
 |1=>simp at h1 h2;subst h1;subst h2;exact k
 |2=>simp at h1 h2;subst h1;subst h2;exact l
 |i+3=>simp at h1
theorem fH.Tg {a:Value}(h:Rel Y v a):Rel Y (.tuple [v]) (.tuple #[a]):=by
 refine .tuple rfl fun i x y h1 h2=>?_;match i with
 |0=>simp at h1 h2;subst h1;subst h2;exact h
 |i+1=>simp at h1
theorem ve (seen:List Nat):∀ {es:List (V×V×Nat)} {es':List MapEntry},nJ Y es es'->nJ Y (leftOf seen es) (es'.filter fun e=>!seen.reverse.toArray.contains e.born)
 |[],es',h=>by rw[aO.1 h.1];exact⟨rfl,fun i a b q=>by simp[leftOf] at q⟩
 |e :: es,es',h=>by
  obtain⟨e',rest,rfl,h0,hr⟩:=h.zaa;have ih:=ve seen hr;have hc:seen.reverse.toArray.contains e'.born=seen.any (Nat.beq e.2.2):=by
   rw[h0.2.2];rw[bU];simp only[List.contains_toArray,List.contains_eq_mem,List.mem_reverse,decide_eq_true_eq,List.any_eq_true,T.beq_true];constructor;·intro q;exact⟨_,q,rfl⟩
   .rintro⟨y,q,rfl⟩;exact q
  simp only[leftOf];split;·rename_i q;rw[List.filter_cons,hc,q];exact ih
  .rename_i q;rw[List.filter_cons,hc,q];simp only[Bool.not_false,if_true];refine⟨by rw[aU,aU,ih.1],fun i a b ha hb=>?_⟩;cases i with
   |zero=>simp at ha hb;subst ha;subst hb;exact h0
   |succ i=>exact ih.2 i a b (by simpa using ha) (by simpa using hb)
theorem Ek {h':H}(hs:Sim Y h w){ty':TypeId}{it:Option V}{isS:Bool}{ci:Value}(hf:wL h it isS=some (v,h'))(hi:∀ a,it=some a->Rel Y a ci):oO P (Instr.next ci isS ty') Y h w v h':=by
 unfold wL at hf;split at hf
 .rename_i r;have hi:=hi _ rfl;cases hi with
  |ptr hb=>
   rename_i B d z;split at hf
   .rename_i s pos ho;obtain⟨L,c,l1,l2,l3⟩:=hs.live r _ ho;rw[hb] at l1;cases l1;obtain⟨hd,rfl⟩:=l3;simp only at hd l2;subst hd;have hg:=pQ (P:=P) l2 rfl;have hsz:(⟨s.toArray⟩:ByteArray).size=s.length:=by simp[ByteArray.size]
    split at hf
    .rename_i hlt;have hlt:=gk hlt;cases hd:Utf8.decode ⟨s.toArray⟩ pos with
     |mk c wd=>rw[hd] at hf;simp only[bW,ez] at hf;obtain⟨rfl,rfl⟩:=hf;obtain⟨w',s1,s2,s3⟩:=gw (P:=P) (w0:=w) (c':=.stringIter ⟨s.toArray⟩ (pos+wd)) (o':=.strIter s (Nat.add pos wd)) hs hb ho rfl rfl rfl rfl l2 rfl rfl ⟨rfl,rfl⟩;refine⟨Y,_,w',?_,s2,s3,fH.Uc (.bool true) (.int .i64 _) (.int .i32 _)⟩;simp only[Instr.next,bX,Sem.run_bind,hg,Result.andThen_ok,hsz];rw[if_pos hlt];simp only[hd,Sem.run_bind];rw[show Sem.run P (setObj B (Obj.stringIter ⟨s.toArray⟩ (pos+wd))) w=Result.ok () w' from s1];rfl
    .rename_i hlt;have hlt:¬ pos<s.length:=fun q=>by rw[show Nat.blt pos s.length=true by simpa [cZ] using q] at hlt;cases hlt
     cases hf;refine⟨Y,_,w,?_,hs,Ext.refl _ _ _,fH.Tg (.bool false)⟩;simp only[Instr.next,bX,Sem.run_bind,hg,Result.andThen_ok,hsz];rw[if_neg hlt];rfl
   .rename_i since seen last ho;obtain⟨L,c,l1,l2,l3⟩:=hs.live r _ ho;rw[hb] at l1;cases l1;obtain⟨hd,m',rfl,hm⟩:=l3;simp only at hd l2;subst hd;have hm':m'=none:=by
     rcases hm with⟨_,q⟩|⟨_,_,_,_,q,_⟩;·exact q
     .cases q
    subst hm';have hg:=pQ (P:=P) l2 rfl;cases hf;refine⟨Y,_,w,?_,hs,Ext.refl _ _ _,fH.Tg (.bool false)⟩;simp only[Instr.next,bX,Sem.run_bind,hg,Result.andThen_ok];rfl
   .rename_i m since seen last ho;obtain⟨L,c,l1,l2,l3⟩:=hs.live r _ ho;rw[hb] at l1;cases l1;obtain⟨hd,m',rfl,hm⟩:=l3;simp only at hd l2;subst hd;have hg:=pQ (P:=P) l2 rfl;rcases hm with⟨q,_⟩|⟨r2,B2,d2,z2,q1,q2,q3⟩
    .cases q
    .cases q1;subst q3;split at hf
     .rename_i es clock hom;obtain⟨es',m1,m2⟩:=mX hs q2 hom;split at hf;·cases hf
      .rename_i hbad;have hlen:es'.size=es.length:=by simpa using m2.1
       have hbad':(!(seen.reverse.toArray).isEmpty&&!es'.isEmpty&&es'.all (fun e=>decide (e.born>=last)))=false:=by
        rw[<- hbad];have a1:seen.reverse.toArray.isEmpty=seen.isEmpty:=by simp
        have a2:es'.isEmpty=es.isEmpty:=by rw[bU];simp only[Array.isEmpty_iff_size_eq_zero,hlen,List.isEmpty_iff_length_eq_zero]
        have a3:es'.all (fun e=>decide (e.born>=last))=es.all (fun y=>Nat.ble last y.2.2):=by
         have:∀ {l:List (V×V×Nat)} {l':List MapEntry},nJ Y l l'->l'.all (fun e=>decide (e.born>=last))=l.all (fun y=>Nat.ble last y.2.2):=by
          intro l;induction l with
          |nil=>intro l' q;rw[aO.1 q.1];rfl
          |cons e l ih=>intro l' q;obtain⟨e',rest,rfl,q0,qr⟩:=q.zaa;rw[dO,dO,ih qr,q0.2.2];congr 1;rw[bU,Nat.ble_eq];simp
         rw[<- this m2,Array.all_toList]
        rw[a1,a2,a3]
       have hL:=ve seen m2;have hfl:(es'.filter fun e=>!seen.reverse.toArray.contains e.born).toList=es'.toList.filter fun e=>!seen.reverse.toArray.contains e.born:=by simp
       split at hf
       .rename_i hl0;rw[hl0] at hL;cases hf;have hnil:=aO.1 hL.1;have hf0:(es'.filter fun e=>!seen.reverse.toArray.contains e.born) = #[]:=by
         rw[<- Array.toList_inj,hfl,hnil]
        refine⟨Y,_,w,?_,hs,Ext.refl _ _ _,fH.Tg (.bool false)⟩;simp only[Instr.next,bX,Sem.run_bind,hg,Result.andThen_ok,fI m1,hbad',aW,if_false,hf0];simp[Question.forced]
       .rename_i x hl1;rw[hl1] at hL;split at hf
        .rename_i hold;have hold:=gk hold;cases hf;obtain⟨e',rest,e1,⟨k1,k2,k3⟩,k4⟩:=hL.zaa;rw[aO.1 k4.1] at e1;have hf0:(es'.filter fun e=>!seen.reverse.toArray.contains e.born) = #[e']:=by
          rw[<- Array.toList_inj,hfl,e1]
         have hb':e'.born<since:=by rw[k3];exact hold
         obtain⟨w',s1,s2,s3⟩:=gw (P:=P) (w0:=w) (c':=.mapIter (some B2) since (seen.reverse.toArray.push e'.born) clock) (o':=.mapIter (some m) since (x.2.2 :: seen) clock) hs hb ho rfl rfl rfl rfl l2 rfl rfl ⟨rfl,some B2,by simp[k3],.inr ⟨m,B2,d2,z2,rfl,q2,rfl⟩⟩;refine⟨Y,_,w',?_,s2,s3,fH.Uc (.bool true) k1 k2⟩;simp only[Instr.next,bX,Sem.run_bind,hg,Result.andThen_ok,fI m1,hbad',aW,if_false,hf0];have hno:¬ since<=e'.born:=by omega
         simp[Question.forced,hb',hno];simp only[List.push_toArray] at s1;rw[show Sem.run P (setObj B (Obj.mapIter (some B2) since (seen.reverse++[e'.born]).toArray clock)) w=Result.ok () w' from s1];rfl
        .cases hf
       .cases hf
     .cases hf
   .cases hf
 .cases hf
end
end Go.Ev
namespace Go.Ev
variable {w:World}{v:V}
section
variable {P:Program}{G:Γ}(hG:GOk P G){Y:Ren}
theorem Bf (hG:GOk P G){h h':H}(hs:Sim Y h w){t ty':TypeId}{x:Option V}{cx:Value}(hf:uR G (G.ty t) h x=some (v,h'))(hx:∀ a,x=some a->Rel Y a cx):
  oO P (Builtin.clear_ #[t] ty' #[cx]) Y h w v h':=by
 unfold uR at hf;split at hf
 .rename_i ty u hty;have ht:=hG.types _ _ hty;have hx:=hx _ rfl;split at hf;·rename_i e1 _;cases hf;cases hx;exact⟨Y,_,w,by simp[Builtin.clear_,ht.run_underlying,e1];rfl,hs,Ext.refl _ _ _,.undef⟩
  .rename_i e1 _;cases hf;cases hx;exact⟨Y,_,w,by simp[Builtin.clear_,ht.run_underlying,e1];rfl,hs,Ext.refl _ _ _,.undef⟩
  .rename_i r e1 _;split at hf
   .rename_i es clock ho;cases hf;cases hx with
    |map hb=>rename_i B d z;obtain⟨es',m1,m2⟩:=mX hs hb ho;obtain⟨w',s1,s2,s3⟩:=gw (P:=P) (w0:=w) (c':=.map #[] clock) (o':=.map [] clock) hs hb ho rfl rfl rfl rfl m1 rfl rfl ⟨#[],rfl,rfl,fun i e e' q=>by simp at q⟩;refine⟨Y,_,w',?_,s2,s3,.undef⟩;have s1:(setObj B (.map #[] clock)).run P w=.ok () w':=s1;simp[Builtin.clear_,ht.run_underlying,e1,fI m1,s1];rfl
   .cases hf
  .rename_i elem b o n c e1 _;split at hf
   .rename_i te hte;split at hf
    .rename_i zv hz;split at hf
     .rename_i h'' hp;cases hf;obtain⟨z1,y,c1,c2,c3,c4⟩:=mI (hG.types _ _ hte) hz;have hR:fH Y (rep n zv) (Builtin.zeroCells y.cells n).toList:=by
       refine⟨by rw[aT,iJ,lC,c2,z1],fun j v x hv hx=>?_⟩;rw[oZ] at hv;split at hv;·have hx:=jk _ _ _ _ (by rw[aM] at hx;exact hx);rw[c2,<- z1] at hx;exact(c3 Y).2 _ v x hv (by rw[aM];exact hx)
       .cases hv
      have hone:∀ x∈(Builtin.zeroCells y.cells n).toList,one x=true:=by intro x hx;obtain⟨j,hj⟩:=bV hx;have:=jk _ _ _ _ (by rw[aM] at hj;exact hj);exact c4 x (by have:=dg this;simpa using this)
      have main:∀ (B d z k:Nat),Y b=some (B,d,z)->oO P (Builtin.clear_ #[t] ty' #[.slice (some ⟨B,d+o,none⟩) n k]) Y h w (.tuple []) h':=by
       intro B d z k hb;obtain⟨w',r1,r2,r3⟩:=jM (P:=P) hs hp hb hR hone;refine⟨Y,_,w',?_,r2,r3,.undef⟩;cases n with
       |zero=>
        have:(Builtin.zeroCells y.cells 0).toList=[]:=by simp[Builtin.zeroCells]
        rw[this] at r1;simp[storeCells] at r1;subst r1;simp[Builtin.clear_,ht.run_underlying,e1];rfl
       |succ n=>simp[Builtin.clear_,ht.run_underlying,e1,c1,r1];rfl
      cases hx with
      |sliceK hb=>exact main _ _ _ _ hb
      |sliceA hb _ _=>exact main _ _ _ _ hb
      |sliceZ a=>have hp':putCells h b o []=some h':=hp;obtain⟨r2,r3⟩:=mc hs hp';refine⟨Y,_,w,?_,r2,r3,.undef⟩;simp[Builtin.clear_,ht.run_underlying,e1];rfl
     .cases hf
    .cases hf
   .cases hf
  .cases hf
 .cases hf
theorem yR (hG:GOk P G){h h':H}(hs:Sim Y h w){t t' ty':TypeId}{x y:Option V}{cx cy:Value}(hf:A9 G (G.ty t) h x y=some (v,h'))(hx:∀ a,x=some a->Rel Y a cx)(hy:∀ a,y=some a->Rel Y a cy):
  oO P (Builtin.unsafeString_ #[t,t'] ty' #[cx,cy]) Y h w v h':=by
 unfold A9 at hf;split at hf;·cases hf;have hx:=hx _ rfl;have hy:=hy _ rfl;cases hx;cases hy;exact⟨Y,_,w,Lib.run_unsafeString_none w t t' ty' _,hs,Ext.refl _ _ _,.str _⟩
 .cases hf;have hx:=hx _ rfl;have hy:=hy _ rfl;cases hx;cases hy;exact⟨Y,_,w,Lib.run_unsafeString_none w t t' ty' _,hs,Ext.refl _ _ _,.str _⟩
 .rename_i ty b o k hty;have hx:=hx _ rfl;have hy:=hy _ rfl;have ht:=hG.types _ _ hty;split at hf
  .rename_i u l e n pat tr ed hl ho;split at hf
   .rename_i s tu hsb htu hc;split at hf
    .rename_i hsz;cases hf;rw[T.beq_true] at hsz;simp only[ae,T.beq_true] at hc;obtain⟨⟨rfl,rfl⟩,hk⟩:=hc;have hk:=az hk;have hu:=hG.types _ _ htu;cases hy;cases hx with
     |ptr hb=>
      rename_i B d z;obtain⟨L,c,l1,l2,l3⟩:=hs.live b _ ho;rw[hb] at l1;cases l1;obtain⟨cs,el,lo,hi,rfl,q1,q2,q3,q4,q5⟩:=l3;simp only at q1 q2 q4 q5 l2;obtain⟨rfl,rfl⟩:=q4 _ rfl;obtain⟨olds,o1,o2,o3,o4⟩:=ju (P:=P) hs hl hb;have hlen:=iB hl;obtain⟨t1,t2⟩:=lZ hsb;unfold eW at hl;rw[ho] at hl;obtain⟨p1,p2⟩:=eP hl;have hkn:k+1<=n:=by have:=p2 k _ (ah (by omega));have:=eT this;omega
      have hsl:s.length=k+1:=by omega
      have hB:B<w.heap.size:=(aD.1 l2).1;have hrun:=Lib.run_unsafeString_row (P:=P) w t t' ty' el (by rw[ht.under,ed]) (by rw[hu.cellsOf,hsz]) B cs.size (by simp[World.shape?,l2]) s (by intro e;rw[e] at hsl;simp at hsl) (by omega) (by omega) (fun j x hx=>by
       have hj:=(ai.1 hx).1;have r1:=p2 j _ (t2 j x hx);have hjc:j<cs.size:=by omega
       have r2:=q5.2 (0+j) _ cs[j] r1 (by simp[hjc]);have rr:∀ c,Rel Y (.int .u8 x.toNat) c->c=.int .u8 x.toNat:=fun c q=>by cases q;rfl
       have r3:=rr _ r2;simp[World.cell?,Addr.pO,l2,hjc,r3])
      rw[hsl] at hrun;refine⟨Y,_,_,hrun,hs.set ho hb (c':=.cells cs el (if lo == hi then (0,0+(k+1)) else (min lo 0,max hi (0+(k+1))))) ?_ ⟨cs,el,_,rfl,q1,q2,fun _ q=>(nomatch q),q5⟩ (fun B' hB'=>?_) rfl rfl,Ext.set ho hb rfl ?_ (fun B' hB'=>?_) ?_ ?_ ?_,.str _⟩;·simp only[World.freeze,if_neg (cU k),cQ];rw[if_pos trivial,l2];rfl
      .simp only[World.freeze,if_neg (cU k),cQ];rw[if_neg (fun q=>hB' q.symm)]
      .simp[World.freeze]
      .simp only[World.freeze,if_neg (cU k),cQ];rw[if_neg (fun q=>hB' q.symm)]
      .simp[World.freeze]
      .simp[World.freeze]
      .simp[World.freeze]
    .cases hf
   .cases hf
  .cases hf
 .cases hf
theorem Qn (hG:GOk P G){e:Operand->Option V}{f:Operand->Value}(hef:OpR Y e f){o:Oper}{g:H->Option (V×H)}(h:act G e o.op=.ef g){hh hh':H}(hs:Sim Y hh w)(hv:g hh=some (v,hh')):
  Tf P (execOp f o) Y hh w v hh':=by
 cases ho:o.op<;>rw[ho] at h<;>simp only[act,reduceCtorEq,Ac.ef.injEq] at h;case insert t m k x=>subst h;exact(qA hG hs hv (hef.opt m) (hef.opt k) (hef.opt x)).next (by simp only[execOp,ho])
 case store t a x=>subst h;exact(Bi hG hs hv (hef.opt a) (hef.opt x)).next (by simp only[execOp,ho])
 case makeMap t r=>cases r<;>simp at h
 case mapUpdate t m k x=>subst h;exact(qA hG hs hv (hef.opt m) (hef.opt k) (hef.opt x)).next (by simp only[execOp,ho])
 case mapEntry t m k=>subst h;exact(Bk hG hs hv (hef.opt m) (hef.opt k)).next (by simp only[execOp,ho])
 case entryStore t m st x=>subst h;exact(qQ (t:=t) hs hv (hef.opt m) (hef.opt st) (hef.opt x)).next (by simp only[execOp,ho])
 case range t x=>subst h;exact(Bl hG hs hv (hef.opt x)).next (by simp only[execOp,ho])
 case next it isS=>subst h;exact(Ek (ty':=o.type) hs hv (hef.opt it)).next (by simp only[execOp,ho])
 case convert s d x=>split at h<;>cases h
 case call c=>
  unfold fX at h;split at h;·cases h
  .cases h
  .rename_i b hb;unfold fh at h;split at h<;>try (cases h;done)
   .rename_i t t' x y ht hx;simp only[Ac.ef.injEq] at h;subst h;refine(yX (t:=t) (tx:=t') (ty':=o.type) hG hs hv (hef.opt x) (hef.opt y)).next ?_
    have h1:c.argTypes = #[t,t']:=by rw[<- aP (xs:=c.argTypes),ht]
    have h2:c.args = #[x,y]:=by rw[<- aP (xs:=c.args),hx]
    simp only[execOp,ho,resolve,hb,pure_bind,invoke,builtin,h1,h2,cR,aS,cB]
   .rename_i t t' x y ht hx;simp only[Ac.ef.injEq] at h;subst h;refine(Eh (t:=t) (tx:=t') (ty':=o.type) hG hs hv (hef.opt x) (hef.opt y)).next ?_
    have h1:c.argTypes = #[t,t']:=by rw[<- aP (xs:=c.argTypes),ht]
    have h2:c.args = #[x,y]:=by rw[<- aP (xs:=c.args),hx]
    simp only[execOp,ho,resolve,hb,pure_bind,invoke,builtin,h1,h2,cR,aS,cB]
   .rename_i t t' x y ht hx;simp only[Ac.ef.injEq] at h;subst h;refine(yY (t:=t) (tx:=t') (ty':=o.type) hG hs hv (hef.opt x) (hef.opt y)).next ?_
    have h1:c.argTypes = #[t,t']:=by rw[<- aP (xs:=c.argTypes),ht]
    have h2:c.args = #[x,y]:=by rw[<- aP (xs:=c.args),hx]
    simp only[execOp,ho,resolve,hb,pure_bind,invoke,builtin,h1,h2,cR,aS,cB]
   .rename_i t t' x y ht hx;simp only[Ac.ef.injEq] at h;subst h;refine(yR (t:=t) (t':=t') (ty':=o.type) hG hs hv (hef.opt x) (hef.opt y)).next ?_
    have h1:c.argTypes = #[t,t']:=by rw[<- aP (xs:=c.argTypes),ht]
    have h2:c.args = #[x,y]:=by rw[<- aP (xs:=c.args),hx]
    simp only[execOp,ho,resolve,hb,pure_bind,invoke,builtin,h1,h2,cR,aS,cB]
   .rename_i t x ht hx;simp only[Ac.ef.injEq] at h;subst h;refine(Bf (t:=t) (ty':=o.type) hG hs hv (hef.opt x)).next ?_
    have h1:c.argTypes = #[t]:=by rw[<- aP (xs:=c.argTypes),ht]
    have h2:c.args = #[x]:=by rw[<- aP (xs:=c.args),hx]
    simp only[execOp,ho,resolve,hb,pure_bind,invoke,builtin,h1,h2,cR,aS,cB]
end
end Go.Ev

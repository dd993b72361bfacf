/- Patterns of memory; they are sound: numbers, values, memory. -/
import Derived.Test.YtboaighhnghpdaaGreatDoorB
set_option linter.unusedVariables false
set_option linter.unusedSimpArgs false
set_option maxHeartbeats 1000000
namespace Go.Ae
open Go.Ev
noncomputable section
abbrev LE:=Nat×Int
def gls:List (Nat×List V):=[(2,[.int .u8 0,.int .u8 111,.int .u8 108,.int .u8 102])]
def Oz (b:Nat):List (Nat×List V)->Option (List V)
 |[]=>none
 |p :: l=>match Nat.beq p.1 b with
  |true=>some p.2
  |false=>Oz b l
structure Off where
 o:Nat
 e:LE
 st:Nat
inductive BE where
 |lit (b:Bool)
 |lt (x y:LE)
 |eq (x y:LE)
 |not (e:BE)
inductive BG where
 |kn (e:LE)
 |al (e:LE) (es:Nat)
inductive EK where
 |int (k:IntKind) (lo hi:Option LE)
 |bool
 |str
 |cst (v:V)
 |stb (n:Nat)
 |re (U s:Nat) (B:LE)
inductive A where
 |k (v:V)
 |i (k:IntKind) (e:LE)
 |b (e:BE)
 |s (j x:Nat)
 |p (U:Nat) (o:Off)
 |sl (U:Nat) (o:Off) (n:LE) (c:BG)
 |su (U w:Nat) (N n:LE)
 |re (U s:Nat) (n:LE)
 |sn (U:Nat) (x n c:LE)
 |m (U:Nat)
 |fn (f:FuncId) (a c:List A)
 |yd (U:Nat)
 |ifc (t:TypeId) (a:A)
 |ag (l:List A)
 |tp (l:List A)
 |rw(ks:List EK) (n:LE) (foc:Option (LE×List A))
structure ALp where
 state:LoopState
 pending:Option Code
 fn:FuncId
 sz:Nat
 tm:T A
 params:List Tmp
 assign:Code
 body:Code
 defers:Nat
inductive AO where
 |cl (ro:Bool) (t:Option TypeId) (l:List A)
 |mp (kk:List EK) (ka:Bool) (vk:List EK) (va:Bool)
 |df
 |lp (l:ALp)
 |ob (τ:Nat) (ps:List LE)
 |it (a:A) (p:LE)
 |rr (t te:TypeId) (ks:List EK) (B m n:LE) (foc:Option (LE×A))
 |mx (es:List (Int×A))
 |bc (t:TypeId) (w mx:Nat) (n T:LE) (foc:Option (LE×BE))
 |so (ro:Bool) (t:Option TypeId) (n k:LE) (lo hi:Option LE) (els:List (LE×LE))
 |sp (E:Nat) (ro:Bool) (t tT:Option TypeId) (v:Int) (n k:LE) (els:List (LE×LE))
 |me (kk:List EK) (ka:Bool) (vk:List EK) (va:Bool) (x:LE) (s:Nat) (z:V)
 |tl (t:Option TypeId) (ks:List EK) (n e:LE) (f c:Nat)
 |mq (kk:List EK) (key:List A) (v:A) (s ph:Nat) (x:LE)
structure ZN where
 up:T (List (Nat×Int))
 dn:T (List (Nat×Int))
 sm:List (LE×LE×LE)
structure AS where
 sz:Nat
 tm:T A
 mem:T (Nat×AO)
 nx:Nat
 ns:Nat
 nb:Nat
 no:Nat
 z:ZN
 df:List (Nat×Nat)
def ile:Int->Int->Bool
 |.ofNat a,.ofNat b=>Nat.ble a b
 |.ofNat _,.negSucc _=>false
 |.negSucc _,.ofNat _=>true
 |.negSucc a,.negSucc b=>Nat.ble b a
def zQ {α:Type}(f:α->Bool):List α->Bool
 |[]=>false
 |x :: l=>match f x with
  |true=>true
  |false=>zQ f l
def rows {α:Type}(t:T (List α))(x:Nat):List α:=match t.get x with
 |some l=>l
 |none=>[]
def LC (x:Nat)(c:Int):List (Nat×Int)->Bool
 |[]=>false
 |p :: l=>match Nat.beq p.1 x&&ile p.2 c with
  |true=>true
  |false=>LC x c l
def zR (c:Int)(seen:List (Nat×Int)):List (Nat×Int)->List (Nat×Int)->List (Nat×Int)
 |[],acc=>acc
 |p :: l,acc=>match LC p.1 (Int.add c p.2) acc || LC p.1 (Int.add c p.2) seen with
  |true=>zR c seen l acc
  |false=>zR c seen l ((p.1,Int.add c p.2) :: acc)
def LD (t:T (List (Nat×Int)))(seen:List (Nat×Int)):List (Nat×Int)->List (Nat×Int)->List (Nat×Int)
 |[],acc=>acc
 |q :: l,acc=>match Nat.beq q.1 0 with
  |true=>LD t seen l acc
  |false=>LD t seen l (zR q.2 seen (rows t q.1) acc)
def goL (t:T (List (Nat×Int)))(hit:Nat×Int->Bool):Nat->List (Nat×Int)->List (Nat×Int)->Bool
 |0,fr,_=>zQ hit fr
 |n+1,fr,seen=>match zQ hit fr with
  |true=>true
  |false=>match fr with
   |[]=>false
   |_=>goL t hit n (LD t (fr++seen) fr []) (fr++seen)
def deep:Nat:=8
def xg (z:ZN)(c:Int)(y:Nat):Bool:=goL z.dn (fun p=>Nat.beq p.1 0&&ile p.2 0) deep [(y,c)] []
def upB (z:ZN)(x:Nat)(c:Int)(y:Nat)(b:Int):Bool:=goL z.up (fun p=>match Nat.beq p.1 y&&ile p.2 b with
 |true=>true
 |false=>match Nat.beq p.1 0 with
  |true=>xg z (Int.sub p.2 b) y
  |false=>false) deep [(x,c)] []
def leO (z:ZN)(p q:LE):Bool:=
 match Nat.beq p.1 0 with
 |true=>match Nat.beq q.1 0 with
  |true=>ile p.2 q.2
  |false=>xg z (Int.sub p.2 q.2) q.1
 |false=>upB z p.1 p.2 q.1 q.2
def N6 (a b:Int):Bool:=@Int.rec (fun _=>Bool) (fun m=>@Int.rec (fun _=>Bool) (fun n=>Nat.ble m n) (fun _=>false) b) (fun m=>@Int.rec (fun _=>Bool) (fun _=>true) (fun n=>Nat.ble n m) b) a
def OA {α:Type}(f:α->Bool)(l:List α):Bool:=@List.rec α (fun _=>Bool) false (fun x _ ih=>@Bool.rec (fun _=>Bool) ih true (f x)) l
def LG (x:Nat)(c:Int)(l:List (Nat×Int)):Bool:=@List.rec (Nat×Int) (fun _=>Bool) false (fun p _ ih=>@Bool.rec (fun _=>Bool) ih (@Bool.rec (fun _=>Bool) ih true (N6 p.2 c)) (Nat.beq p.1 x)) l
def Dl (c:Int)(seen:List (Nat×Int))(l:List (Nat×Int)):List (Nat×Int)->List (Nat×Int):=
 @List.rec (Nat×Int) (fun _=>List (Nat×Int)->List (Nat×Int)) (fun acc=>acc) (fun p _ ih acc=>@Bool.rec (fun _=>List (Nat×Int)) (@Bool.rec (fun _=>List (Nat×Int)) (ih ((p.1,Int.add c p.2) :: acc)) (ih acc) (LG p.1 (Int.add c p.2) seen)) (ih acc) (LG p.1 (Int.add c p.2) acc)) l
def Iz (t:T (List (Nat×Int)))(x:Nat):List (Nat×Int):=@Option.rec (List (Nat×Int)) (fun _=>List (Nat×Int)) [] (fun l=>l) (t.get x)
def OB (t:T (List (Nat×Int)))(seen:List (Nat×Int))(l:List (Nat×Int)):List (Nat×Int)->List (Nat×Int):=
 @List.rec (Nat×Int) (fun _=>List (Nat×Int)->List (Nat×Int)) (fun acc=>acc) (fun q _ ih acc=>@Bool.rec (fun _=>List (Nat×Int)) (ih (Dl q.2 seen (Iz t q.1) acc)) (ih acc) (Nat.beq q.1 0)) l
def goR (t:T (List (Nat×Int)))(hit:Nat×Int->Bool)(n:Nat):List (Nat×Int)->List (Nat×Int)->Bool:=
 @Nat.rec (fun _=>List (Nat×Int)->List (Nat×Int)->Bool) (fun fr _=>OA hit fr) (fun _ ih fr seen=>@Bool.rec (fun _=>Bool) (@List.rec (Nat×Int) (fun _=>Bool) false (fun _ _ _=>ih (OB t (fr++seen) fr []) (fr++seen)) fr) true (OA hit fr)) n
def Rf (z:ZN)(c:Int)(y:Nat):Bool:=goR z.dn (fun p=>@Bool.rec (fun _=>Bool) false (N6 p.2 0) (Nat.beq p.1 0)) deep [(y,c)] []
def Rg (z:ZN)(y:Nat)(b:Int)(p:Nat×Int):Bool:=@Bool.rec (fun _=>Bool) false (Rf z (Int.sub p.2 b) y) (Nat.beq p.1 0)
def upR (z:ZN)(x:Nat)(c:Int)(y:Nat)(b:Int):Bool:=goR z.up (fun p=>@Bool.rec (fun _=>Bool) (Rg z y b p) (@Bool.rec (fun _=>Bool) (Rg z y b p) true (N6 p.2 b)) (Nat.beq p.1 y)) deep [(x,c)] []
def leQ (z:ZN)(p q:LE):Bool:=@Bool.rec (fun _=>Bool) (upR z p.1 p.2 q.1 q.2) (@Bool.rec (fun _=>Bool) (Rf z (Int.sub p.2 q.2) q.1) (N6 p.2 q.2) (Nat.beq q.1 0)) (Nat.beq p.1 0)
def plus (p:LE)(c:Int):LE:=(p.1,Int.add p.2 c)
def ZN.add (z:ZN)(p q:LE):ZN:=
 let c:=Int.sub q.2 p.2
 ⟨match Nat.beq p.1 0 with
   |true=>z.up
   |false=>z.up.put p.1 (some ((q.1,c) :: rows z.up p.1)),
  match Nat.beq q.1 0 with
   |true=>z.dn
   |false=>z.dn.put q.1 (some ((p.1,c) :: rows z.dn q.1)),z.sm⟩
def N7 (p q:LE):List (LE×LE×LE)->Option LE
 |[]=>none
 |e :: l=>match Nat.beq e.1.1 p.1&&Nat.beq e.2.1.1 q.1 with
  |true=>some (e.2.2.1,Int.add (Int.add e.2.2.2 (Int.sub p.2 e.1.2)) (Int.sub q.2 e.2.1.2))
  |false=>match Nat.beq e.1.1 q.1&&Nat.beq e.2.1.1 p.1 with
   |true=>some (e.2.2.1,Int.add (Int.add e.2.2.2 (Int.sub q.2 e.1.2)) (Int.sub p.2 e.2.1.2))
   |false=>N7 p q l
def nX:Int:=-9223372036854775808
def lA:Int:=9223372036854775807
def rE:IntKind->Int
 |.i8=>-128|.i16=>-32768|.i32=>-2147483648|.i64=>nX|_=>0
def pW:IntKind->Int
 |.i8=>127|.i16=>32767|.i32=>2147483647|.i64=>lA
 |.u8=>255|.u16=>65535|.u32=>4294967295|.u64=>18446744073709551615
def inR (z:ZN)(k:IntKind)(e:LE):Bool:=leQ z (0,rE k) e&&leQ z e (0,pW k)
noncomputable def OC {α:Type}(l:List α):Nat->Option α:=@List.rec α (fun _=>Nat->Option α) (fun _=>none) (fun x _ ih n=>@Nat.rec (fun _=>Option α) (some x) (fun m _=>ih m) n) l
theorem nf {α:Type}:∀ (l:List α) (n:Nat),OC l n=l[n]?
 |[],_=>rfl
 |_ :: _,0=>rfl
 |_ :: l,n+1=>nf l n
noncomputable def AS.fact (J:AS)(p q:LE):AS:=@AS.rec (fun _=>AS) (fun sz tm mem nx ns nb no z df=>⟨sz,tm,mem,nx,ns,nb,no,z.add p q,df⟩) J
noncomputable def AS.sum (J:AS)(p q r:LE):AS:=@AS.rec (fun _=>AS) (fun sz tm mem nx ns nb no z df=>⟨sz,tm,mem,nx,ns,nb,no,{ z with sm:=(p,q,r) :: z.sm },df⟩) J
def facts:List (LE×LE)->AS->AS
 |[],J=>J
 |p :: l,J=>facts l (J.fact p.1 p.2)
def assume (p q:LE)(J:AS)(K:AS->Bool):Bool:=
 match leQ J.z (plus q 1) p with
 |true=>true
 |false=>K (J.fact p q)
def eqQ (z:ZN)(p q:LE):Bool:=(Nat.beq p.1 q.1&&ieq p.2 q.2) || (leQ z p q&&leQ z q p)
def ifE:BE->AS->(AS->Bool)->(AS->Bool)->Bool
 |.lit true,J,Kt,_=>Kt J
 |.lit false,J,_,Kf=>Kf J
 |.lt x y,J,Kt,Kf=>assume (plus x 1) y J Kt&&assume y x J Kf
 |.eq x y,J,Kt,Kf=>assume x y J (fun J=>assume y x J Kt)&&(match leQ J.z x y with
  |true=>assume (plus x 1) y J Kf
  |false=>match leQ J.z y x with
   |true=>assume (plus y 1) x J Kf
   |false=>assume (plus x 1) y J Kf&&assume (plus y 1) x J Kf)
 |.not e,J,Kt,Kf=>ifE e J Kf Kt
noncomputable def AS.int (J:AS):AS:=@AS.rec (fun _=>AS) (fun sz tm mem nx ns nb no z df=>⟨sz,tm,mem,Nat.succ nx,ns,nb,no,z,df⟩) J
def pX (lo hi:List LE)(J:AS)(K:LE->AS->Bool):Bool:=
 let x:=J.nx
 K (x,0) (facts (hi.map fun e=>((x,0),e)) (facts (lo.map fun e=>(e,(x,0))) J.int))
def rF (k:IntKind)(lo hi:List LE)(J:AS)(K:A->AS->Bool):Bool:=
 pX ((0,rE k) :: lo) ((0,pW k) :: hi) J fun e=>K (.i k e)
def Io (J:AS)(K:A->AS->Bool):Bool:=pX [(0,0)] [(0,1)] J fun e=>K (.b (.lt (0,0) e))
def OD (J:AS)(K:A->AS->Bool):Bool:=pX [(0,0)] [] J fun e J=>K (.s J.ns e.1) { J with ns:=Nat.succ J.ns }
def OE (n:Nat)(J:AS)(K:A->AS->Bool):Bool:=pX [(0,0)] [(0,Int.ofNat n)] J fun e J=>K (.s J.ns e.1) { J with ns:=Nat.succ J.ns }
def OF (n:Nat)(J:AS)(K:A->AS->Bool):Bool:=pX [(0,Int.ofNat n)] [] J fun e J=>K (.s J.ns e.1) { J with ns:=Nat.succ J.ns }
def plain:A->Bool
 |.rw ..=>false
 |.ag _=>false
 |.tp _=>false
 |.k (.agg ..)=>false
 |.k (.tuple _)=>false
 |_=>true
def toI:A->Option (IntKind×LE)
 |.k (.int k n)=>some (k,(0,n))
 |.i k e=>some (k,e)
 |_=>none
def toB:A->Option BE
 |.k (.bool b)=>some (.lit b)
 |.b e=>some e
 |_=>none
def ofV (v:V):A:=
 match v with
 |.agg n pat tr=>match fC n pat tr 0 n with
  |some l=>match l.all fun v=>plain (.k v) with
   |true=>.ag (l.map A.k)
   |false=>.k v
  |none=>.k v
 |v=>.k v
def AS.eval (J:AS)(x:Operand):Option A:=
 match x with
 |.tmp t=>J.tm.get t
 |.const v=>match ofValue v with
  |some v=>some (ofV v)
  |none=>none
 |.global g=>match Nat.blt g 1000 with
  |true=>some (.k (.ptr g 0))
  |false=>none
 |.func f=>some (.fn f [] [])
noncomputable def AS.Uk (J:AS)(t:Tmp)(a:A):AS:=@AS.rec (fun _=>AS) (fun sz tm mem nx ns nb no z df=>⟨sz,tm.put t (some a),mem,nx,ns,nb,no,z,df⟩) J
def AS.put (J:AS)(d:Option Tmp)(a:A)(K:AS->Bool):Bool:=
 match d with
 |none=>K J
 |some t=>match Nat.blt t J.sz with
  |true=>K (J.Uk t a)
  |false=>false
def opt {α:Type}(x:Option α)(K:α->Bool):Bool:=
 match x with
 |some a=>K a
 |none=>false
def gl {α:Type}(b:Bool)(x:α):List α:=match b with
 |true=>[x]
 |false=>[]
def hiC (z:ZN)(x y:LE):List Int->List LE
 |[]=>[]
 |c :: l=>match leQ z y (0,c) with
  |true=>[plus x c]
  |false=>hiC z x y l
def hiS (z:ZN)(x y:LE):List LE:=hiC z x y [4,64,4096,100000,1000000]
def mkI (k:IntKind)(e:LE)(J:AS)(K:A->AS->Bool):Bool:=
 match inR J.z k e with
 |true=>K (match Nat.beq e.1 0 with
  |true=>.k (.int k e.2)
  |false=>.i k e) J
 |false=>rF k [] [] J K
def Rh (op:BinOp)(k:IntKind)(x y:LE)(J:AS)(K:A->AS->Bool):Bool:=
 match op with
 |.add=>match Nat.beq y.1 0 with
  |true=>mkI k (plus x y.2) J K
  |false=>match Nat.beq x.1 0 with
   |true=>mkI k (plus y x.2) J K
   |false=>match leQ J.z (0,0) x&&leQ J.z (0,0) y&&leQ J.z x (0,4611686018427387903)&&leQ J.z y (0,4611686018427387903),k with
    |true,.i64=>match N7 x y J.z.sm with
     |some r=>K (.i k r) J
     |none=>pX [(0,0),x,y] ((0,lA) :: (hiS J.z x y++hiS J.z y x)) J fun e J=>K (.i k e) (J.sum x y e)
    |_,_=>rF k [] [] J K
 |.sub=>match Nat.beq y.1 0 with
  |true=>mkI k (plus x (Int.neg y.2)) J K
  |false=>match Nat.beq x.1 y.1 with
   |true=>mkI k (0,Int.sub x.2 y.2) J K
   |false=>match leQ J.z (0,0) y&&leQ J.z y x&&leQ J.z x (0,pW k) with
    |true=>rF k [(0,0)] [x] J K
    |false=>rF k [] [] J K
 |.eql=>match leQ J.z (plus x 1) y || leQ J.z (plus y 1) x with
  |true=>K (.k (.bool false)) J
  |false=>K (.b (.eq x y)) J
 |.neq=>K (.b (.not (.eq x y))) J
 |.lss=>K (.b (.lt x y)) J
 |.leq=>K (.b (.not (.lt y x))) J
 |.gtr=>K (.b (.lt y x)) J
 |.geq=>K (.b (.not (.lt x y))) J
 |.mul=>rF k [] [] J K
 |.and=>rF k [] [] J K
 |.or=>rF k [] [] J K
 |.xor=>rF k [] [] J K
 |.andNot=>rF k [] [] J K
 |.rem=>match leQ J.z (0,1) y with
  |true=>match leQ J.z (0,0) x&&leQ J.z x (0,pW k) with
   |true=>rF k [(0,0)] [plus y (-1),x] J K
   |false=>match Nat.beq y.1 0,inR J.z k y&&inR J.z k (0,Int.neg y.2) with
    |true,true=>rF k [(0,Int.sub 1 y.2)] [(0,Int.sub y.2 1)] J K
    |_,_=>false
  |false=>false
 |.quo=>match leQ J.z (0,1) y with
  |true=>match leQ J.z (0,0) x&&leQ J.z x (0,pW k) with
   |true=>rF k [(0,0)] [x] J K
   |false=>rF k [] [] J K
  |false=>false
 |_=>false
def EP (op:BinOp)(k:IntKind)(x y:LE)(J:AS)(K:A->AS->Bool):Bool:=
 match leQ J.z (0,0) y with
 |true=>match op with
  |.shl=>rF k [] [] J K
  |.shr=>match inR J.z k x with
   |true=>match leQ J.z (0,0) x with
    |true=>rF k [(0,0)] [x] J K
    |false=>rF k [] [] J K
   |false=>false
  |_=>false
 |false=>false
def wide (a:A):Option Nat:=
 match a with
 |.rw ks n _=>match Nat.beq n.1 0,n.2 with
  |true,.ofNat m=>some (Nat.mul ks.length m)
  |_,_=>none
 |_=>some 1
def zS:List A->Nat->Option (List A)
 |l,0=>some l
 |[],_+1=>none
 |a :: l,n+1=>match wide a with
  |some w=>match Nat.ble w (Nat.succ n) with
   |true=>zS l (Nat.sub (Nat.succ n) w)
   |false=>none
  |none=>none
def zT:List A->Nat->Option (List A)
 |_,0=>some []
 |[],_+1=>none
 |a :: l,n+1=>match wide a with
  |some w=>match Nat.ble w (Nat.succ n) with
   |true=>match zT l (Nat.sub (Nat.succ n) w) with
    |some r=>some (a :: r)
    |none=>none
   |false=>none
  |none=>none
def kG (agg:Bool)(size:Nat)(l:List A)(o:Nat):Option A:=
 match zS l o with
 |none=>none
 |some r=>match agg with
  |false=>match r with
   |a :: _=>match plain a with
    |true=>some a
    |false=>none
   |[]=>none
  |true=>match zT r size with
   |some c=>some (.ag c)
   |none=>none
def rG:A->Option (List A)
 |.ag l=>some l
 |a=>match plain a with
  |true=>some [a]
  |false=>none
def told:A->Bool
 |.rw _ _ (some _)=>true
 |_=>false
def N8:List A->Option Nat
 |[]=>some 0
 |a :: l=>match (match told a with
  |true=>none
  |false=>wide a),N8 l with
  |some n,some m=>some (Nat.add n m)
  |_,_=>none
def N9 (l:List A)(o:Nat)(new:List A):Option (List A):=
 match zT l o,N8 new with
 |some p,some w=>match zS l (Nat.add o w) with
  |some r=>some (p++new++r)
  |none=>none
 |_,_=>none
def isS:A->Bool
 |.k (.str _)=>true
 |.s _ _=>true
 |_=>false
def ES (z:ZN):A->Bool
 |.k (.str l)=>Nat.ble l.length 500000000
 |.s _ x=>leQ z (x,0) (0,500000000)
 |_=>false
def TN (op:BinOp)(x y:A)(J:AS)(K:A->AS->Bool):Bool:=
 match op with
 |.add=>match ES J.z x&&ES J.z y with
  |true=>OD J K
  |false=>false
 |.eql=>Io J K
 |.neq=>Io J K
 |.lss=>Io J K
 |.leq=>Io J K
 |.gtr=>Io J K
 |.geq=>Io J K
 |_=>false
def Oa (d:TypeDesc)(a:A):Option Bool:=
 match d,a with
 |.pointer _,.k .nilp=>some true
 |.pointer _,.p _ _=>some false
 |.slice _,.k .nils=>some true
 |.slice _,.sl ..=>some false
 |.slice _,.k (.slice ..)=>some false
 |.map _ _,.k .nilm=>some true
 |.map _ _,.m _=>some false
 |.func ..,.k .nilf=>some true
 |.func ..,.fn ..=>some false
 |.interface _,.k .nili=>some true
 |.interface _,.ifc _ _=>some false
 |_,_=>none
def isIface:TypeDesc->Bool
 |.interface _=>true
 |_=>false
def uu (d:TypeDesc)(a:A):Bool:=match d,a with
 |.slice _,.su ..=>true
 |.slice _,.re ..=>true
 |.slice _,.sn ..=>true
 |_,_=>false
def LH:BE->Option Bool
 |.lit b=>some b
 |.eq x y=>match Nat.beq x.1 0&&Nat.beq y.1 0 with
  |true=>some (ieq x.2 y.2)
  |false=>none
 |_=>none
def Ri (r:Option (Option BE)):Option Bool:=match r with
 |some (some e)=>LH e
 |_=>none
def ET (f:Nat->Option Bool):Nat->Nat->Option Bool
 |_,0=>some true
 |i,k+1=>match f i with
  |some true=>ET f (Nat.succ i) k
  |r=>r
def LJ (a b:BE):Option BE:=match a with
 |.lit true=>some b
 |.lit false=>some (.not b)
 |a=>match b with
  |.lit true=>some a
  |.lit false=>some (.not a)
  |_=>none
def eqA (G:Γ):Nat->TypeId->A->A->Option (Option BE)
 |0,_,_,_=>none
 |d+1,t,x,y=>
  match G.ty t with
  |none=>none
  |some ty=>
   match ty.desc with
   |.bool=>match toB x,toB y with
    |some a,some b=>some (LJ a b)
    |_,_=>none
   |.int _=>match toI x,toI y with
    |some p,some q=>match decide (p.1=q.1) with
     |true=>some (some (.eq p.2 q.2))
     |false=>none
    |_,_=>none
   |.string=>match isS x&&isS y with
    |true=>some none
    |false=>none
   |.struct fs=>match x,y with
    |.ag l,.ag l'=>match G.eqs.contains t&&fs.toList.all fun f=>match decide (f.name = "_") with
      |true=>false
      |false=>match G.ty f.type with
       |none=>false
       |some ft=>match kG ft.agg ft.size l f.offset,kG ft.agg ft.size l' f.offset with
        |some a,some b=>(eqA G d f.type a b).isSome
        |_,_=>false with
     |true=>some none
     |false=>none
    |_,_=>none
   |.array len elem=>match x,y with
    |.ag l,.ag l'=>match G.eqs.contains t,G.ty elem with
     |true,some te=>match (List.range len).all fun i=>match kG te.agg te.size l (Nat.mul i te.size),kG te.agg te.size l' (Nat.mul i te.size) with
       |some a,some b=>(eqA G d elem a b).isSome
       |_,_=>false with
      |true=>match ET (fun i=>match kG te.agg te.size l (Nat.mul i te.size),kG te.agg te.size l' (Nat.mul i te.size) with
       |some a,some b=>Ri (eqA G d elem a b)
       |_,_=>none) 0 len with
       |some b=>some (some (.lit b))
       |none=>some none
      |false=>none
     |_,_=>none
    |_,_=>none
   |de=>match Oa de x,Oa de y with
    |some true,some true=>match isIface de with
     |true=>none
     |false=>some (some (.lit true))
    |some true,some false=>some (some (.lit false))
    |some false,some true=>some (some (.lit false))
    |none,some true=>match uu de x with
     |true=>some none
     |false=>none
    |some true,none=>match uu de y with
     |true=>some none
     |false=>none
    |_,_=>none
def zaq:BinOp->Bool
 |.shl=>true
 |.shr=>true
 |_=>false
def Rj (G:Γ)(op:BinOp)(t:TypeId)(c:Bool)(x y:A)(J:AS)(K:A->AS->Bool):Bool:=
 match x,y with
 |.k a,.k b=>opt (Lk G op t c (some a) (some b)) fun v=>K (.k v) J
 |x,y=>match toI x,toI y with
  |some p,some q=>match zaq op with
   |true=>EP op p.1 p.2 q.2 J K
   |false=>match decide (p.1=q.1) with
    |true=>Rh op p.1 p.2 q.2 J K
    |false=>false
  |_,_=>match isS x&&isS y with
   |true=>TN op x y J K
   |false=>match op with
    |.eql=>opt (eqA G 8 t x y) fun r=>match r with
     |some e=>K (.b e) J
     |none=>Io J K
    |.neq=>opt (eqA G 8 t x y) fun r=>match r with
     |some e=>K (.b (.not e)) J
     |none=>Io J K
    |_=>false
def aUn (op:UnOp)(x:A)(J:AS)(K:A->AS->Bool):Bool:=
 match x with
 |.k a=>opt (pUn op (some a)) fun v=>K (.k v) J
 |.b e=>match op with
  |.not=>K (.b (.not e)) J
  |_=>false
 |.i k _=>match op with
  |.neg=>rF k [] [] J K
  |.xor=>rF k [] [] J K
  |_=>false
 |_=>false
def LK (src dst:Option TY)(x:A)(J:AS)(K:A->AS->Bool):Bool:=
 match src,dst with
 |some _,some ty=>match toI x with
  |some p=>match ty.desc with
   |.int k=>mkI k p.2 J K
   |_=>false
  |none=>match isS x,ty.desc with
   |true,.string=>K x J
   |_,_=>false
 |_,_=>false
def Ko (a:A):Bool:=
 match a with
 |.p _ _=>true
 |.fn ..=>true
 |_=>false
def EU (G:Γ)(ty:Option TY)(x:A)(f:Nat):Option A:=
 match ty,x with
 |some ty,.ag l=>match ty.desc with
  |.struct fs=>match fs.toList[f]? with
   |some fd=>match G.ty fd.type with
    |some ft=>kG ft.agg ft.size l fd.offset
    |none=>none
   |none=>none
  |_=>none
 |_,_=>none
def EV (pl:Nat->Option (Nat×Nat))(e:Operand->Option A):List (Nat×Operand)->List A->Option (List A)
 |[],l=>some l
 |p :: rest,l=>
  match pl p.1,e p.2 with
  |some (off,size),some a=>match rG a with
   |some c=>match N8 c with
    |some w=>match Nat.beq w size with
     |true=>match N9 l off c with
      |some l'=>EV pl e rest l'
      |none=>none
     |false=>none
    |none=>none
   |none=>none
  |_,_=>none
def isAgg:Option V->Bool
 |some (.agg ..)=>true
 |_=>false
def OG (less:Bool)(k:IntKind)(x:LE):List A->AS->(A->AS->Bool)->Bool
 |[],J,K=>K (.i k x) J
 |a :: l,J,K=>match toI a with
  |some p=>ifE (match less with
   |true=>.lt p.2 x
   |false=>.lt x p.2) J (fun J=>OG less k p.2 l J K) fun J=>OG less k x l J K
  |none=>false
def IA (less:Bool)(l:List A)(J:AS)(K:A->AS->Bool):Bool:=
 match l with
 |a :: l=>match toI a with
  |some p=>OG less p.1 p.2 l J K
  |none=>false
 |[]=>false
def Off.add (o:Off)(i:LE)(size:Nat):Option Off:=
 match Nat.beq i.1 0,i.2 with
 |true,.ofNat n=>some { o with o:=Nat.add o.o (Nat.mul n size) }
 |_,_=>match Nat.beq o.st 0 with
  |true=>some ⟨o.o,i,size⟩
  |false=>match Nat.beq o.st size&&Nat.beq o.e.1 0,o.e.2 with
   |true,.ofNat m=>some ⟨o.o,plus i (Int.ofNat m),size⟩
   |_,_=>none
def uv (n:Nat):Off:=⟨n,(0,0),0⟩
def my (G:Γ)(ty:Option TY)(x:A)(f:Nat):Option A:=
 match ty,x with
 |some ty,.p U o=>match ty.desc with
  |.struct fs=>match fs.toList[f]? with
   |some fd=>match G.ty fd.type with
    |some ft=>match Nat.beq ft.size 0 with
     |false=>some (.p U { o with o:=Nat.add o.o fd.offset })
     |true=>none
    |none=>none
   |none=>none
  |_=>none
 |_,_=>none
def LM:Nat->Nat->LE->AS->(Nat->AS->Bool)->Bool
 |0,_,_,_,_=>true
 |m+1,i,e,J,K=>ifE (.eq e (0,Int.ofNat i)) J (K i) fun J=>LM m (Nat.succ i) e J K
def OH (J:AS)(U:Nat)(n:LE):Option Nat:=match Nat.beq n.1 0,n.2,J.mem.get U with
 |true,.ofNat m,some (_,.cl _ _ l)=>match Nat.ble m 32&&l.all plain with
  |true=>some m
  |false=>none
 |false,_,some (_,.cl _ _ l)=>match leQ J.z n (0,8)&&l.all plain with
  |true=>some 8
  |false=>none
 |_,_,_=>none
def pb (G:Γ)(ty:Option TY)(x ix:A)(J:AS)(K:A->AS->Bool):Bool:=
 match ty,toI ix with
 |some ty,some p=>match ty.desc,x with
  |.array len elem,.p U o=>match leQ J.z (0,0) p.2&&leQ J.z (plus p.2 1) (0,Int.ofNat len),G.ty elem with
   |true,some te=>match Nat.ble len 8 with
    |true=>LM len 0 p.2 J fun i J=>K (.p U { o with o:=Nat.add o.o (Nat.mul i te.size) }) J
    |false=>opt (o.add p.2 te.size) fun o=>K (.p U o) J
   |_,_=>false
  |.slice elem,.sl U o n _=>match leQ J.z (0,0) p.2&&leQ J.z (plus p.2 1) n,G.ty elem with
   |true,some te=>match OH J U n with
    |some m=>LM m 0 p.2 J fun i J=>K (.p U { o with o:=Nat.add o.o (Nat.mul i te.size) }) J
    |none=>opt (o.add p.2 te.size) fun o=>K (.p U o) J
   |_,_=>false
  |.slice elem,.su U w N n=>match leQ J.z (0,0) p.2&&leQ J.z (plus p.2 1) n,G.ty elem with
   |true,some te=>match Nat.beq te.size w with
    |true=>pX [(0,0)] [plus N (-1)] J fun j J=>K (.p U ⟨0,j,w⟩) J
    |false=>false
   |_,_=>false
  |.slice elem,.k (.slice b o len _)=>match leQ J.z (0,0) p.2&&leQ J.z (plus p.2 1) (0,Int.ofNat len),G.ty elem with
   |true,some te=>LM len 0 p.2 J fun i J=>K (.k (.ptr b (Nat.add o (Nat.mul i te.size)))) J
   |_,_=>false
  |_,_=>false
 |_,_=>false
def EW (G:Γ)(ty:Option TY)(x ix:A)(J:AS)(K:A->AS->Bool):Bool:=
 match ty,toI ix with
 |some ty,some p=>match ty.desc,x with
  |.array len elem,.ag l=>match leQ J.z (0,0) p.2&&leQ J.z (plus p.2 1) (0,Int.ofNat len)&&Nat.ble len 16,G.ty elem with
   |true,some te=>LM len 0 p.2 J fun i J=>opt (kG te.agg te.size l (Nat.mul i te.size)) fun a=>K a J
   |_,_=>false
  |.string,.s _ x=>match leQ J.z (0,0) p.2&&leQ J.z (plus p.2 1) (x,0) with
   |true=>rF .u8 [] [] J K
   |false=>false
  |.string,.k (.str s)=>match leQ J.z (0,0) p.2&&leQ J.z (plus p.2 1) (0,Int.ofNat s.length) with
   |true=>rF .u8 [] [] J K
   |false=>false
  |_,_=>false
 |_,_=>false
def rH:List A->Nat->Nat->Option (Nat×Nat)
 |[],_,_=>none
 |a :: l,j,r=>match a with
  |.rw ..=>match wide a with
   |some w=>match Nat.blt r w with
    |true=>some (j,r)
    |false=>rH l (Nat.succ j) (Nat.sub r w)
   |none=>some (j,r)
  |_=>match r with
   |0=>none
   |r+1=>rH l (Nat.succ j) r
def Ob {α:Type}:List α->Nat->α->List α
 |[],_,_=>[]
 |_ :: l,0,x=>x :: l
 |y :: l,n+1,x=>y :: Ob l n x
def rI:V->V->Bool
 |.bool a,.bool b=>a == b
 |.int k a,.int k' b=>decide (k=k')&&ieq a b
 |.str a,.str b=>a == b
 |.nilp,.nilp=>true
 |.nils,.nils=>true
 |.nilm,.nilm=>true
 |.nilf,.nilf=>true
 |.nili,.nili=>true
 |.ptr b o,.ptr b' o'=>Nat.beq b b'&&Nat.beq o o'
 |.slice b o n c,.slice b' o' n' c'=>match c,c' with
  |.known c,.known c'=>Nat.beq b b'&&Nat.beq o o'&&Nat.beq n n'&&Nat.beq c c'
  |_,_=>false
 |_,_=>false
def BH (z:ZN)(lo:Option LE)(e:LE):Option LE:=match lo with
 |some l=>match leQ z l e with
  |true=>some l
  |false=>none
 |none=>none
def BI (z:ZN)(hi:Option LE)(e:LE):Option LE:=match hi with
 |some l=>match leQ z e l with
  |true=>some l
  |false=>none
 |none=>none
def Dm (z:ZN)(k:EK)(a:A):Option EK:=
 match k with
 |.int k lo hi=>match toI a with
  |some p=>match decide (k=p.1)&&inR z k p.2 with
   |true=>some (.int k (BH z lo p.2) (BI z hi p.2))
   |false=>none
  |none=>none
 |.bool=>match toB a with
  |some _=>some .bool
  |none=>none
 |.str=>match isS a with
  |true=>some .str
  |false=>none
 |.cst v=>match (match a with
   |.k w=>rI v w
   |_=>false) with
  |true=>some (.cst v)
  |false=>match v with
   |.int k n=>match toI a with
    |some p=>match decide (k=p.1)&&inR z k p.2&&inR z k (0,n) with
     |true=>some (.int k (match leQ z (0,n) p.2 with
      |true=>some (0,n)
      |false=>match leQ z p.2 (0,n) with
       |true=>some p.2
       |false=>none) (match leQ z p.2 (0,n) with
      |true=>some (0,n)
      |false=>match leQ z (0,n) p.2 with
       |true=>some p.2
       |false=>none))
     |false=>none
    |none=>none
   |.bool _=>match toB a with
    |some _=>some .bool
    |none=>none
   |.str _=>match isS a with
    |true=>some .str
    |false=>none
   |_=>none
 |.re ..=>none
 |.stb n=>match a with
  |.s _ x=>match leQ z (x,0) (0,Int.ofNat n) with
   |true=>some (.stb n)
   |false=>none
  |_=>none
def tV (z:ZN):List EK->List A->Option (List EK)
 |[],[]=>some []
 |k :: ks,a :: as=>match Dm z k a,tV z ks as with
  |some k,some r=>some (k :: r)
  |_,_=>none
 |_,_=>none
def BJ {α:Type}:Option α->List α
 |some x=>[x]
 |none=>[]
def uw (k:EK)(J:AS)(K:A->AS->Bool):Bool:=
 match k with
 |.int k lo hi=>rF k (BJ lo) (BJ hi) J K
 |.bool=>Io J K
 |.str=>OD J K
 |.cst v=>match plain (.k v) with
  |true=>K (.k v) J
  |false=>false
 |.re U s B=>pX [(0,0)] [B] J fun e=>K (.re U s e)
 |.stb n=>OE n J K
def rJ:List EK->AS->(List A->AS->Bool)->Bool
 |[],J,K=>K [] J
 |k :: ks,J,K=>uw k J fun a J=>rJ ks J fun as J=>K (a :: as) J
def EX (ks:List EK)(foc:Option (LE×List A))(i:LE)(J:AS)(K:List EK->List A->AS->Bool):Bool:=
 match foc with
 |none=>rJ ks J fun as J=>K ks as J
 |some (fe,as)=>match eqQ J.z fe i&&as.all plain&&Nat.beq as.length ks.length with
  |true=>K ks as J
  |false=>opt (tV J.z ks as) fun ks'=>rJ ks' J fun as J=>K ks' as J
def jc (o:Off)(w r:Nat):LE:=
 match Nat.beq o.st 0 with
 |true=>(0,Int.ofNat (Nat.div r w))
 |false=>plus o.e (Int.ofNat (Nat.div r w))
def IB (l:List A)(o:Off)(J:AS)(K:Nat->List EK->LE->LE->List A->Nat->AS->Bool):Bool:=
 match rH l 0 o.o with
 |some (j,r)=>match nth l j with
  |some (.rw ks n foc)=>match Nat.blt 0 ks.length&&(Nat.beq o.st 0 || (Nat.beq o.st ks.length&&leQ J.z (0,0) o.e)) with
   |true=>match leQ J.z (plus (jc o ks.length r) 1) n with
    |true=>EX ks foc (jc o ks.length r) J fun ks' as J=>K j ks' n (jc o ks.length r) as (Nat.mod r ks.length) J
    |false=>false
   |false=>false
  |_=>false
 |none=>false
noncomputable def AS.jZ (J:AS)(U s:Nat)(ao:AO):AS:=@AS.rec (fun _=>AS) (fun sz tm mem nx ns nb no z df=>⟨sz,tm,mem.put U (some (s,ao)),nx,ns,nb,no,z,df⟩) J
noncomputable def AS.gG (J:AS)(U:Nat)(ao:AO):AS:=@AS.rec (fun _=>AS) (fun sz tm mem nx ns nb no z df=>⟨sz,tm,mem.put U (some (no,ao)),nx,ns,nb,Nat.succ no,z,df⟩) J
noncomputable def AS.add (J:AS)(ao:AO):AS:=@AS.rec (fun _=>AS) (fun sz tm mem nx ns nb no z df=>⟨sz,tm,mem.put nb (some (no,ao)),nx,ns,Nat.succ nb,Nat.succ no,z,df⟩) J
noncomputable def AS.del (J:AS)(U:Nat):AS:=@AS.rec (fun _=>AS) (fun sz tm mem nx ns nb no z df=>⟨sz,tm,mem.put U none,nx,ns,nb,no,z,df⟩) J
def nY (z:ZN):List A->List A
 |[]=>[]
 |a :: l=>(match a with
  |.rw ks n (some (fe,as))=>match tV z ks as with
   |some ks'=>.rw ks' n none
   |none=>.rw ks n (some (fe,as))
  |a=>a) :: nY z l
def LN (z:ZN)(o:Off)(e:LE):Bool:=(Nat.beq o.st 0 || Nat.beq o.st 1)&&eqQ z (jc o 1 o.o) e
def Oc (z:ZN)(o:Off)(n:LE):Bool:=(Nat.beq o.st 0 || Nat.beq o.st 1)&&leQ z (0,0) (jc o 1 o.o)&&leQ z (plus (jc o 1 o.o) 1) n
def IC (U s:Nat)(t:TypeId)(w mx:Nat)(n T e:LE)(J:AS)(K:A->AS->Bool):Bool:=match Nat.blt e.1 J.nx with
 |true=>pX [(0,0)] [(0,1)] J fun x J=>K (.b (.lt (0,0) x)) (J.jZ U s (.bc t w mx n T (some (e,.lt (0,0) x))))
 |false=>false
def Kq (U s:Nat)(t:TypeId)(w mx:Nat)(n T:LE)(foc:Option (LE×BE))(e:LE)(J:AS)(K:A->AS->Bool):Bool:=match foc with
 |some (e',b)=>match eqQ J.z e' e with
  |true=>K (.b b) J
  |false=>IC U s t w mx n T e J K
 |none=>IC U s t w mx n T e J K
def EY (z:ZN)(b:BE):Bool:=match b with
 |.lit b=>!b
 |.lt x y=>leQ z y x
 |_=>false
def EZ (U:Nat)(t:TypeId)(w mx:Nat)(n T:LE)(foc:Option (LE×BE))(e:LE)(J:AS)(K:A->AS->Bool):Bool:=match foc with
 |some (e',b)=>match eqQ J.z e' e&&EY J.z b with
  |true=>K (.tp []) ((J.gG U (.bc t w mx n (plus T (Int.ofNat w)) (some (e',.lit true)))).fact (plus T (Int.ofNat w)) (0,Int.ofNat (Nat.mul w mx)))
  |false=>false
 |none=>false
def Od (z:ZN)(k e:LE):List (LE×LE)->List LE
 |[]=>[]
 |p :: l=>gl (leQ z k p.1&&leQ z p.1 e) p.2++Od z k e l
def Oe (z:ZN)(k e:LE):List (LE×LE)->List LE
 |[]=>[]
 |p :: l=>gl (leQ z k e&&leQ z e p.1) p.2++Oe z k e l
def atE (z:ZN)(e:LE):List (LE×LE)->Option LE
 |[]=>none
 |p :: l=>match eqQ z p.1 e with
  |true=>some p.2
  |false=>atE z e l
def zae (U s:Nat)(ro:Bool)(t:Option TypeId)(n k:LE)(lo hi:Option LE)(els:List (LE×LE))(e:LE)(J:AS)(K:A->AS->Bool):Bool:=match Nat.blt e.1 J.nx with
 |true=>match atE J.z e els with
  |some v=>K (.i .i64 v) J
  |none=>pX ((0,nX) :: ((match leQ J.z k e with
    |true=>BJ lo
    |false=>[])++Od J.z k e els)) ((0,lA) :: ((match leQ J.z k e with
    |true=>BJ hi
    |false=>[])++Oe J.z k e els)) J fun x J=>K (.i .i64 x) (J.jZ U s (.so ro t n k lo hi ((e,x) :: els)))
 |false=>false
def E1 (U s E:Nat)(ro:Bool)(t tT:Option TypeId)(v:Int)(n k:LE)(els:List (LE×LE))(e:LE)(J:AS)(K:A->AS->Bool):Bool:=match Nat.blt e.1 J.nx with
 |true=>match atE J.z e els with
  |some v=>K (.i .i64 v) J
  |none=>pX ((0,nX) :: Od J.z k e els) ((0,lA) :: Oe J.z k e els) J fun x J=>K (.i .i64 x) (J.jZ U s (.sp E ro t tT v n k ((e,x) :: els)))
 |false=>false
def E2 (ks:List EK)(n e:LE)(f c:Nat)(o:Off)(J:AS)(K:A->AS->Bool):Bool:=match Nat.beq o.st ks.length&&Nat.blt o.o ks.length&&leQ J.z (0,0) o.e&&leQ J.z (plus o.e 1) n with
 |true=>match ks[o.o]? with
  |some k=>match Nat.beq o.o f with
   |true=>ifE (.eq o.e e) J (fun J=>OF (Nat.succ c) J K) fun J=>uw k J K
   |false=>uw k J K
  |none=>false
 |false=>false
def LO (ty:Option TY)(x:A)(J:AS)(K:A->AS->Bool):Bool:=
 match ty,x with
 |some ty,.p U o=>match J.mem.get U with
  |some (s,.cl ro t l)=>match (match Nat.beq o.st 0 with
    |true=>kG ty.agg ty.size l o.o
    |false=>none) with
   |some a=>K a J
   |none=>IB l o J fun j ks n i as f J=>opt (kG ty.agg ty.size as f) fun a=>K a (J.jZ U s (.cl ro t (Ob l j (.rw ks n (some (i,as))))))
  |some (_,.rr _ _ _ _ _ _ (some (e,a)))=>match LN J.z o e&&!ty.agg with
   |true=>K a J
   |false=>false
  |some (s,.bc t w mx n T foc)=>match Oc J.z o n&&!ty.agg with
   |true=>Kq U s t w mx n T foc (jc o 1 o.o) J K
   |false=>false
  |some (s,.sp E ro t tT v n k els)=>match Oc J.z o (plus n 1)&&!ty.agg with
   |true=>E1 U s E ro t tT v n k els (jc o 1 o.o) J K
   |false=>false
  |some (s,.so ro t n k lo hi els)=>match Oc J.z o n&&!ty.agg with
   |true=>zae U s ro t n k lo hi els (jc o 1 o.o) J K
   |false=>false
  |some (_,.tl _ ks n e f c)=>match ty.agg with
   |false=>E2 ks n e f c o J K
   |true=>false
  |_=>false
 |_,_=>false
def E3 (ty:Option TY)(x y:A)(J:AS)(K:A->AS->Bool):Bool:=
 match ty,x,(rG y).map (nY J.z) with
 |some ty,.p U o,some c=>match J.mem.get U,N8 c with
  |some (_,.cl false t l),some w=>match Nat.beq w ty.size&&Nat.blt 0 w with
   |true=>match (match Nat.beq o.st 0 with
     |true=>N9 l o.o c
     |false=>none) with
    |some l'=>K (.tp []) (J.gG U (.cl false t l'))
    |none=>IB l o J fun j ks n i as f J=>opt (N9 as f c) fun as'=>match as'.all plain with
     |true=>K (.tp []) (J.gG U (.cl false t (Ob l j (.rw ks n (some (i,as'))))))
     |false=>false
   |false=>false
  |some (_,.rr t te ks B m n foc),_=>match c with
   |[a]=>match Nat.beq ty.size 1&&plain a with
    |true=>match foc with
     |some (e,_)=>match LN J.z o e with
      |true=>K (.tp []) (J.gG U (.rr t te ks B m n (some (e,a))))
      |false=>false
     |none=>match LN J.z o m&&leQ J.z (plus m 1) n with
      |true=>K (.tp []) (J.gG U (.rr t te ks B (plus m 1) n (some (m,a))))
      |false=>false
    |false=>false
   |_=>false
  |some (_,.bc t w mx n T foc),_=>match c with
   |[.k (.bool true)]=>match Nat.beq ty.size 1&&Oc J.z o n with
    |true=>EZ U t w mx n T foc (jc o 1 o.o) J K
    |false=>false
   |_=>false
  |_,_=>false
 |_,_,_=>false
def rK (q p:LE)(J:AS)(K:LE->AS->Bool):Bool:=
 match Nat.beq p.1 0 with
 |true=>K (plus q (Int.neg p.2)) J
 |false=>match Nat.beq q.1 p.1 with
  |true=>K (0,Int.sub q.2 p.2) J
  |false=>pX [(0,0)] (match leQ J.z (0,0) p with
   |true=>[q]
   |false=>[]) J fun d J=>K d (J.sum p d q)
def Rk (p q:LE)(J:AS)(K:LE->AS->Bool):Bool:=
 match Nat.beq q.1 0 with
 |true=>K (plus p q.2) J
 |false=>match Nat.beq p.1 0 with
  |true=>K (plus q p.2) J
  |false=>match N7 p q J.z.sm with
   |some r=>K r J
   |none=>pX [p,q] (hiS J.z p q++hiS J.z q p) J fun e J=>K e (J.sum p q e)
def OI (z:ZN)(x:Option A)(d hi:LE):Option LE:=
 match x with
 |none=>some d
 |some a=>match toI a with
  |some p=>match leQ z (0,0) p.2&&leQ z p.2 hi with
   |true=>some p.2
   |false=>none
  |none=>none
def rL (z:ZN)(lo hi mx:Option A)(len cap:LE)(K:LE->LE->LE->Bool):Bool:=
 match OI z mx cap cap with
 |some m=>match OI z hi len m with
  |some h=>match OI z lo (0,0) h with
   |some l=>match leQ z (0,0) l&&leQ z l h&&leQ z h m with
    |true=>K l h m
    |false=>false
   |none=>false
  |none=>false
 |none=>false
def isZ (e:LE):Bool:=Nat.beq e.1 0&&ieq e.2 0
def ID (o:Off)(l m:LE)(size:Nat)(J:AS)(K:Off->AS->Bool):Bool:=
 match isZ l with
 |true=>K o J
 |false=>ifE (.eq m l) J (K o) fun J=>opt (o.add l size) fun o=>K o J
def QH (z:ZN)(o:Off)(n:LE)(c:BG)(w:Nat)(N:LE):Bool:=Nat.blt 0 w&&Nat.beq o.st 0&&Nat.beq (Nat.mod o.o w) 0&&leQ z (plus n (Int.ofNat (Nat.div o.o w))) N&&(match c with
 |.kn c=>leQ z n c
 |.al c es=>leQ z n c&&Nat.beq es w)
def Rl (J:AS)(U w:Nat):Option LE:=match J.mem.get U with
 |some (_,.cl _ _ l)=>match l with
  |[.rw ks N _]=>match Nat.beq ks.length w with
   |true=>some N
   |false=>none
  |_=>none
 |_=>none
def Um (lo:Option A):Bool:=match lo with
 |some a=>match toI a with
  |some p=>!Nat.beq p.2.1 0
  |none=>false
 |none=>false
def Rm (te:TY)(U w:Nat)(N n:LE)(lo hi mx:Option A)(J:AS)(K:A->AS->Bool):Bool:=match Nat.beq te.size w with
 |true=>pX [n] [] J fun c J=>rL J.z lo hi mx n c fun l h _=>match leQ J.z h n with
  |true=>rK h l J fun d J=>K (.su U w N d) J
  |false=>false
 |false=>false
def Un (z:ZN)(n:LE)(hi:Option A):Bool:=match hi with
 |none=>true
 |some a=>match toI a with
  |some p=>leQ z p.2 n
  |none=>false
def Rn (te:TY)(x:A)(lo hi:Option A)(J:AS):A:=match x with
 |.sl U o n c=>match Um lo&&Un J.z n hi,Rl J U te.size with
  |true,some N=>match QH J.z o n c te.size N with
   |true=>.su U te.size N n
   |false=>x
  |_,_=>x
 |x=>x
def TO (G:Γ)(ty:TY):Option TY:=match ty.desc with
 |.slice e=>G.ty e
 |_=>none
def IE (G:Γ)(ty:TY)(x:A)(lo hi:Option A)(J:AS):A:=match TO G ty with
 |some te=>Rn te x lo hi J
 |none=>x
def E4 (G:Γ)(ty:Option TY)(x:A)(lo hi mx:Option A)(J:AS)(K:A->AS->Bool):Bool:=
 match ty with
 |none=>false
 |some ty=>match mx.isSome&&hi.isNone with
  |true=>false
  |false=>match ty.desc,IE G ty x lo hi J with
   |.slice elem,.su U w N n=>opt (G.ty elem) fun te=>Rm te U w N n lo hi mx J K
   |.array n elem,.k (.ptr b o)=>opt (G.ty elem) fun te=>match lo,hi,mx with
    |some (.k (.int _ (.ofNat i))),none,none=>match Nat.blt i n with
     |true=>K (.k (.slice b (Nat.add o (Nat.mul i te.size)) (Nat.sub n i) (.known (Nat.sub n i)))) J
     |false=>false
    |_,_,_=>false
   |.array n elem,.p U o=>opt (G.ty elem) fun te=>rL J.z lo hi mx (0,Int.ofNat n) (0,Int.ofNat n) fun l h m=>ID o l m te.size J fun o J=>rK h l J fun d J=>rK m l J fun c J=>K (.sl U o d (.kn c)) J
   |.slice elem,.sl U o len (.kn c)=>opt (G.ty elem) fun te=>rL J.z lo hi mx len c fun l h m=>ID o l m te.size J fun o J=>rK h l J fun d J=>rK m l J fun c J=>K (.sl U o d (.kn c)) J
   |.slice elem,.sl U o len (.al c es)=>match mx with
    |none=>opt (G.ty elem) fun te=>match Nat.beq te.size es with
     |true=>rL J.z lo hi none len c fun l h m=>opt (o.add l te.size) fun o=>rK h l J fun d J=>rK m l J fun c J=>K (.sl U o d (.al c es)) J
     |false=>false
    |some _=>opt (G.ty elem) fun te=>rL J.z lo hi mx len c fun l h m=>ifE (.eq m l) J (fun J=>K (.sl U o (0,0) (.al (0,0) es)) J) fun J=>opt (o.add l te.size) fun o=>rK h l J fun d J=>rK m l J fun c J=>K (.sl U o d (.kn c)) J
   |.slice elem,.k .nils=>opt (G.ty elem) fun _=>rL J.z lo hi mx (0,0) (0,0) fun _ _ _=>K (.k .nils) J
   |.string,.s _ x=>match mx with
    |none=>rL J.z lo hi none (x,0) (x,0) fun _ _ _=>OD J K
    |some _=>false
   |.string,.k (.str l)=>match mx with
    |none=>rL J.z lo hi none (0,Int.ofNat l.length) (0,Int.ofNat l.length) fun p q _=>match Nat.beq p.1 0&&Nat.beq q.1 0,p.2,q.2 with
     |true,.ofNat i,.ofNat j=>opt (takeN (Nat.sub j i) (mM i l)) fun r=>K (.k (.str r)) J
     |_,_,_=>OD J K
    |some _=>false
   |_,_=>false
def Kr (z:ZN)(v:V):Option EK:=
 match v with
 |.int k n=>match inR z k (0,n) with
  |true=>some (.int k (some (0,n)) (some (0,n)))
  |false=>none
 |.bool _=>some .bool
 |.str _=>some .str
 |_=>none
def pY (z:ZN)(a:A):Option EK:=
 match a with
 |.k v=>some (.cst v)
 |a=>match toI a with
  |some p=>match inR z p.1 p.2 with
   |true=>some (.int p.1 (some p.2) (some p.2))
   |false=>none
  |none=>match toB a with
   |some _=>some .bool
   |none=>match isS a with
    |true=>some .str
    |false=>none
def IF (z:ZN)(a b:Option LE):Option LE:=
 match a,b with
 |some a,some b=>match leQ z a b with
  |true=>some a
  |false=>match leQ z b a with
   |true=>some b
   |false=>none
 |_,_=>none
def IG (z:ZN)(a b:Option LE):Option LE:=
 match a,b with
 |some a,some b=>match leQ z a b with
  |true=>some b
  |false=>match leQ z b a with
   |true=>some a
   |false=>none
 |_,_=>none
def OJ (z:ZN)(a b:EK):Option EK:=
 match a,b with
 |.int k lo hi,.int k' lo' hi'=>match decide (k=k') with
  |true=>some (.int k (IF z lo lo') (IG z hi hi'))
  |false=>none
 |.bool,.bool=>some .bool
 |.str,.str=>some .str
 |_,_=>none
def Dn (z:ZN)(a:EK):Option EK:=
 match a with
 |.cst v=>Kr z v
 |a=>some a
def LP (z:ZN)(a b:EK):Option EK:=
 match (match a,b with
  |.cst v,.cst w=>rI v w
  |_,_=>false) with
 |true=>some a
 |false=>match Dn z a,Dn z b with
  |some a,some b=>OJ z a b
  |_,_=>none
def mQ (z:ZN):List EK->List EK->Option (List EK)
 |[],[]=>some []
 |a :: l,b :: r=>match LP z a b,mQ z l r with
  |some k,some q=>some (k :: q)
  |_,_=>none
 |_,_=>none
def chunks (z:ZN)(w:Nat):Nat->List EK->List A->Option (List EK×Nat)
 |0,_,_=>none
 |_+1,ks,[]=>some (ks,0)
 |d+1,ks,a :: l=>match takeN w (a :: l) with
  |some c=>match tV z ks c with
   |some ks'=>match chunks z w d ks' (mM w (a :: l)) with
    |some (r,m)=>some (r,Nat.succ m)
    |none=>none
   |none=>none
  |none=>none
def rowOf (z:ZN)(w:Nat)(l:List A):Option (List EK×LE):=
 match l with
 |[.rw ks n none]=>match Nat.beq ks.length w with
  |true=>some (ks,n)
  |false=>none
 |[.rw ks n (some (_,c))]=>match Nat.beq ks.length w with
  |true=>match tV z ks c with
   |some ks'=>some (ks',n)
   |none=>none
  |false=>none
 |l=>match l.all plain&&Nat.blt 0 w with
  |true=>match takeN w l with
   |some c=>match eX (pY z) c with
    |some ks=>match chunks z w (Nat.succ l.length) ks l with
     |some (ks',m)=>some (ks',(0,Int.ofNat m))
     |none=>none
    |none=>none
   |none=>none
  |false=>none
def Ks (z:ZN)(w:Nat)(h:List EK)(c:List A):Option (List EK):=match Nat.beq h.length w with
 |true=>some h
 |false=>match takeN w c with
  |some c0=>eX (pY z) c0
  |none=>none
def LQ (z:ZN)(w o m:Nat)(h:List EK)(l:List A):Option (List EK):=match l.all plain&&Nat.blt 0 w,takeN (Nat.mul m w) (mM o l) with
 |true,some c=>match Ks z w h c with
  |some ks=>match chunks z w (Nat.succ c.length) ks c with
   |some (ks,_)=>some ks
   |none=>none
  |none=>none
 |_,_=>none
def TP (z:ZN)(w:Nat)(o:Off)(n:LE)(h:List EK)(l:List A):Option (List EK×LE):=match Nat.beq n.1 0&&Nat.beq o.st 0,n.2 with
 |true,.ofNat m=>match LQ z w o.o m h l with
  |some ks=>some (ks,n)
  |none=>none
 |_,_=>none
def OK (y:A)(w:Nat)(h:List EK)(J:AS):Option (List EK×LE):=
 match y with
 |.sl U o n _=>match J.mem.get U with
  |some (_,.cl _ _ l)=>match rowOf J.z w l with
   |some (ks,N)=>match Nat.blt 0 w&&Nat.beq (Nat.mod o.o w) 0&&(Nat.beq o.st 0 || (Nat.beq o.st w&&leQ J.z (0,0) o.e))&&leQ J.z (0,0) n with
    |true=>match (match Nat.beq n.1 0 with
      |true=>leQ J.z (plus (jc o w o.o) n.2) N
      |false=>isZ (jc o w o.o)&&leQ J.z n N) with
     |true=>some (ks,n)
     |false=>none
    |false=>none
   |none=>TP J.z w o n h l
  |_=>none
 |.re U s n=>match J.mem.get U with
  |some (s',.rr _ _ ks _ m N none)=>match Nat.beq s s'&&eqQ J.z m N&&Nat.beq ks.length w&&Nat.blt 0 w with
   |true=>some (ks,n)
   |false=>none
  |_=>none
 |.su U w' N' n=>match J.mem.get U with
  |some (_,.cl _ _ l)=>match rowOf J.z w l with
   |some (ks,N)=>match Nat.blt 0 w&&Nat.beq w w'&&eqQ J.z N N' with
    |true=>some (ks,n)
    |false=>none
   |none=>none
  |_=>none
 |_=>none
def xz (z:List V):Option (List EK):=eX (fun v=>match plain (.k v) with
 |true=>some (EK.cst v)
 |false=>none) z
def OL (x:A)(w:Nat)(J:AS):List EK:=match x with
 |.sl U _ _ _=>match J.mem.get U with
  |some (_,.cl _ _ l)=>match rowOf J.z w l with
   |some r=>r.1
   |none=>[]
  |_=>[]
 |_=>[]
def Ro (zs:Bool)(te:TY)(y:A)(h:List EK)(J:AS):Option (List EK×LE):=match zs with
 |false=>OK y te.size h J
 |true=>match toI y,lW te with
  |some (.i64,n),some z=>match xz z with
   |some ks=>match leQ J.z (0,0) n&&leQ J.z n (0,100000)&&Nat.beq z.length te.size with
    |true=>some (ks,n)
    |false=>none
   |none=>none
  |_,_=>none
def Rp (z:ZN)(w:Nat)(l:List A)(ks:List EK):Option (List EK×LE):=match l with
 |[]=>some (ks,(0,0))
 |l=>rowOf z w l
def E5 (t:Option TypeId)(e:TypeId):Option TypeId:=
 match t with
 |some t=>match Nat.beq t e with
  |true=>some e
  |false=>none
 |none=>none
def newRow (t:Option TypeId)(ks:List EK)(n:LE)(w:Nat)(J:AS)(K:A->AS->Bool):Bool:=
 match leQ J.z n (0,100000)&&Nat.ble w 100000 with
 |true=>K (.sl J.nb (uv 0) n (.al n w)) (J.add (.cl false t [.rw ks n none]))
 |false=>false
def LR (elem:TypeId)(te:TY)(x y:A)(J:AS)(K:A->AS->Bool):Bool:=match y with
 |.sl U2 o2 n2 _=>match J.mem.get U2,Nat.beq o2.o 0&&Nat.beq o2.st 0&&Nat.beq te.size 1 with
  |some (s2,.rr t ti ks B m n foc),true=>match leQ J.z n2 n&&leQ J.z n2 (0,100000)&&leQ J.z (0,1) n2&&Nat.beq t elem&&(match x with
    |.k .nils=>true
    |.sl E _ m (.kn c)=>isZ m&&isZ c&&(match J.mem.get E with
     |some (_,.cl ..)=>true
     |_=>false)
    |_=>false) with
   |true=>match foc,eqQ J.z m n with
    |none,true=>K (.sl J.nb (uv 0) n2 (.al n2 1)) (J.add (.cl false (some t) [.rw [.re U2 s2 B] n2 none]))
    |_,_=>K (.sl J.nb (uv 0) n2 (.al n2 1)) (J.add (.rr t ti ks B (0,0) n2 none))
   |false=>false
  |some (_,.cl _ _ [a]),true=>match x with
   |.sl U o n c=>match J.mem.get U,Nat.beq o.o 0&&Nat.beq o.st 0&&isZ (plus n2 (-1))&&plain a with
    |some (_,.rr t ti ks B m N none),true=>match eqQ J.z n m&&Nat.beq t elem with
     |true=>ifE (.lt (match c with
       |.kn c=>c
       |.al c _=>c) (plus n 1)) J (fun J=>match leQ J.z (plus n 1) (0,100000)&&(match c with
       |.kn _=>true
       |.al _ es=>Nat.beq es 1) with
       |true=>K (.sl J.nb (uv 0) (plus n 1) (.al (plus n 1) 1)) ((J.del U).add (.rr t ti ks B (plus n 1) (plus n 1) (some (n,a))))
       |false=>false) fun J=>match leQ J.z (plus n 1) N&&(match c with
       |.kn _=>true
       |.al _ es=>Nat.beq es 1) with
       |true=>K (.sl U o (plus n 1) c) (J.gG U (.rr t ti ks B (plus m 1) N (some (n,a))))
       |false=>false
     |false=>false
    |_,_=>false
   |_=>false
  |_,_=>false
 |_=>false
def E6 (ks:List EK):Nat->AS->(List A->AS->Bool)->Bool
 |0,J,K=>K [] J
 |n+1,J,K=>rJ ks J fun as J=>E6 ks n J fun l J=>K (as++l) J
def LS (U:Nat)(J:AS)(K:List A->AS->Bool):Bool:=match J.mem.get U with
 |some (s,.cl ro t l)=>match l.all plain with
  |true=>K l J
  |false=>match l with
   |[.rw ks N none]=>match leQ J.z N (0,8)&&leQ J.z (0,0) N&&Nat.beq ks.length 1 with
    |true=>LM 9 0 N J fun i J=>E6 ks i J fun l J=>match l.all plain with
     |true=>K l (J.jZ U s (.cl ro t l))
     |false=>false
    |false=>false
   |_=>false
 |_=>false
def E7 (z:ZN)(n:LE)(m:Nat):Option Nat:=match Nat.beq n.1 0,n.2 with
 |true,.ofNat k=>some k
 |_,_=>match eqQ z n (0,Int.ofNat m) with
  |true=>some m
  |false=>none
def QI (y:A)(w:Nat)(J:AS):Option (List A×Nat):=match y with
 |.sl U o n _=>match J.mem.get U with
  |some (_,.cl _ _ l)=>match Nat.beq n.1 0&&Nat.beq o.st 0&&l.all plain,n.2 with
   |true,.ofNat m=>match takeN (Nat.mul m w) (mM o.o l) with
    |some c=>some (c,m)
    |none=>none
   |_,_=>none
  |_=>none
 |_=>none
def QJ (elem:TypeId)(te:TY)(x y:A)(J:AS)(K:A->AS->Bool):Bool:=opt (QI y te.size J) fun p=>match Nat.blt 0 p.2&&Nat.blt 0 te.size&&Nat.ble te.size 100000 with
 |false=>false
 |true=>match x with
  |.k .nils=>match Nat.ble p.2 100000 with
   |true=>K (.sl J.nb (uv 0) (0,Int.ofNat p.2) (.al (0,Int.ofNat p.2) te.size)) (J.add (.cl false (some elem) p.1))
   |false=>false
  |.sl U o n c=>match Nat.beq o.o 0&&Nat.beq o.st 0 with
   |true=>LS U J fun l J=>opt (E7 J.z n (Nat.div l.length te.size)) fun k=>opt (takeN (Nat.mul k te.size) l) fun old=>match c with
    |.kn c=>match leQ J.z (plus c 1) (0,Int.ofNat (Nat.add k p.2))&&Nat.ble (Nat.add k p.2) 100000 with
     |true=>K (.sl J.nb (uv 0) (0,Int.ofNat (Nat.add k p.2)) (.al (0,Int.ofNat (Nat.add k p.2)) te.size)) (J.add (.cl false (some elem) (old++p.1)))
     |false=>false
    |.al c es=>match J.mem.get U with
     |some (_,.cl false t _)=>match leQ J.z (plus c 1) (0,Int.ofNat (Nat.add k p.2))&&Nat.ble (Nat.add k p.2) 100000&&Nat.beq te.size es with
      |true=>K (.sl J.nb (uv 0) (0,Int.ofNat (Nat.add k p.2)) (.al (0,Int.ofNat (Nat.add k p.2)) te.size)) ((J.del U).add (.cl false (E5 t elem) (old++p.1)))
      |false=>false
     |_=>false
   |false=>false
  |_=>false
def LU (k:EK):Bool:=match k with
 |.int k _ _=>decide (k=.i64)
 |_=>false
def Rq (elem:TypeId)(te:TY)(x y:A)(J:AS)(K:A->AS->Bool):Option Bool:=match x,y with
 |.sl U o n (.kn c),.sl E u m _=>match J.mem.get U,J.mem.get E with
  |some (_,.cl _ _ [.k (.int .i64 v)]),some (_,.cl ro tT [.rw [k] N none])=>match Nat.beq o.o 0&&Nat.beq o.st 0&&isZ (plus n (-1))&&isZ (plus c (-1))&&Nat.beq u.o 0&&Nat.beq u.st 0&&eqQ J.z m N&&LU k&&Nat.beq te.size 1&&leQ J.z (0,1) m&&leQ J.z (plus m 1) (0,100000)&&inR J.z .i64 (0,v)&&!Nat.beq U E with
   |true=>some (K (.sl J.nb (uv 0) (plus m 1) (.al (plus m 1) 1)) ((J.del E).add (.sp E ro (some elem) tT v m m [((0,0),(0,v))])))
   |false=>none
  |_,_=>none
 |_,_=>none
def OM:A->Bool
 |.k (.int _ _)=>true
 |_=>false
def Uo (te:TY)(x y:A)(J:AS):Bool:=Nat.beq te.size 1&&match QI y 1 J with
 |some (l,_)=>l.all OM&&match x with
  |.k .nils=>true
  |.sl U _ _ _=>match J.mem.get U with
   |some (_,.cl false _ l)=>l.all OM&&Nat.ble l.length 16
   |_=>false
  |_=>false
 |none=>false
def Rr (elem:TypeId)(te:TY)(x y:A)(J:AS)(K:A->AS->Bool):Option Bool:=match Uo te x y J with
 |true=>some (QJ elem te x y J K)
 |false=>Rq elem te x y J K
def II:A->Option Nat
 |.sl U _ _ _=>some U
 |.su U _ _ _=>some U
 |_=>none
def TQ (J:AS)(x:A):Bool:=match II x with
 |some U=>match J.mem.get U with
  |some (_,.rr ..)=>true
  |_=>false
 |none=>false
def zU (G:Γ)(ty tx:Option TY)(x y:A)(J:AS)(K:A->AS->Bool):Bool:=
 match ty,tx with
 |some ty,some tx=>match ty.desc,isInt tx.desc with
  |.slice elem,some zs=>opt (G.ty elem) fun te=>match zs,y with
   |false,.k .nils=>match x with
    |.k .nils=>K (.k .nils) J
    |.sl U o n c=>match J.mem.get U,Nat.beq o.o 0&&Nat.beq o.st 0 with
     |some (_,.cl false t l),true=>opt (rowOf J.z te.size l) fun r=>match leQ J.z n r.2&&(match c with
       |.kn c=>leQ J.z n c
       |.al c es=>leQ J.z n c&&Nat.beq te.size es) with
      |true=>K x (J.gG U (.cl false t [.rw r.1 r.2 none]))
      |false=>false
     |_,_=>false
    |_=>false
   |zs,y=>match (match zs with
    |false=>Rr elem te x y J K
    |true=>none) with
    |some b=>b
    |none=>match Ro zs te y (OL x te.size J) J with
    |none=>match zs with
     |false=>match TQ J x || TQ J y with
      |true=>LR elem te x y J K
      |false=>QJ elem te x y J K
     |true=>false
    |some p=>match x with
     |.k .nils=>ifE (.eq p.2 (0,0)) J (K (.k .nils)) fun J=>newRow (some elem) p.1 p.2 te.size J K
     |.sl U o n c=>match J.mem.get U,Nat.beq o.o 0&&Nat.beq o.st 0 with
      |some (_,.cl false t l),true=>opt (Rp J.z te.size l p.1) fun r=>opt (mQ J.z r.1 p.1) fun ks=>match leQ J.z n r.2&&leQ J.z (0,0) n with
       |true=>Rk n p.2 J fun m J=>match c with
        |.kn c=>ifE (.lt c m) J (fun J=>newRow (some elem) ks m te.size J K) fun J=>match leQ J.z m r.2 with
         |true=>K (.sl U o m (.kn c)) (J.gG U (.cl false t [.rw ks r.2 none]))
         |false=>false
        |.al c es=>match Nat.beq te.size es with
         |true=>ifE (.lt c m) J (fun J=>newRow (E5 t elem) ks m te.size (J.del U) K) fun J=>match leQ J.z m r.2 with
          |true=>K (.sl U o m (.al c es)) (J.gG U (.cl false t [.rw ks r.2 none]))
          |false=>false
         |false=>false
       |false=>false
      |_,_=>false
     |_=>false
  |_,_=>false
 |_,_=>false
def E8 (G:Γ)(ty:Option TY)(x:A)(J:AS)(K:A->AS->Bool):Bool:=match ty with
 |some ty=>match ty.desc,x with
  |.slice _,.k .nils=>K (.tp []) J
  |.slice elem,x=>opt (II x) fun U=>match J.mem.get U,G.ty elem with
   |some (_,.cl false t l),some te=>match rowOf J.z te.size l,OK x te.size [] J,lW te with
    |some r,some p,some z=>match xz z with
     |some kz=>opt (mQ J.z r.1 kz) fun ks=>match Nat.beq z.length te.size&&Nat.beq te.size 1&&leQ J.z (0,1) p.2 with
      |true=>K (.tp []) (J.gG U (.cl false t [.rw ks r.2 none]))
      |false=>false
     |none=>false
    |_,_,_=>false
   |_,_=>false
  |_,_=>false
 |none=>false
def QK:List EK->List V->Bool
 |[],[]=>true
 |.cst v :: ks,c :: cs=>match rI v c&&plain (.k v) with
  |true=>QK ks cs
  |false=>false
 |_,_=>false
def IJ (ks:List EK):Nat->List V->Bool
 |0,[]=>true
 |m+1,cs=>match takeN ks.length cs with
  |some c=>match QK ks c with
   |true=>IJ ks m (mM ks.length cs)
   |false=>false
  |none=>false
 |_,_=>false
def xA:List A->List V->Bool
 |[],[]=>true
 |a :: l,cs=>match a with
  |.rw ks n none=>match Nat.beq n.1 0,n.2 with
   |true,.ofNat m=>match takeN (Nat.mul ks.length m) cs with
    |some c=>match IJ ks m c with
     |true=>xA l (mM (Nat.mul ks.length m) cs)
     |false=>false
    |none=>false
   |_,_=>false
  |.k v=>match cs with
   |c :: cs=>match rI v c&&plain (.k v) with
    |true=>xA l cs
    |false=>false
   |[]=>false
  |_=>false
 |_,_=>false
def LV (G:Γ):Nat->TypeId->Option (List A)
 |0,_=>none
 |d+1,t=>match G.ty t with
  |none=>none
  |some ty=>match ty.desc with
   |.struct fs=>(fs.toList.foldr (fun f r=>match LV G d f.type,r with
     |some a,some r=>some (a++r)
     |_,_=>none) (some []))
   |.array len elem=>match LV G d elem with
    |some z=>match Nat.ble len 8 with
     |true=>some (rep len z)
     |false=>match eX (fun a=>match a with
       |.k v=>some (EK.cst v)
       |_=>none) z with
      |some ks=>some [.rw ks (0,Int.ofNat len) none]
      |none=>none
    |none=>none
   |_=>match ty.zero with
    |some v=>some [.k v]
    |none=>none
def zeroV (ty:TY):Option (List V):=
 match ty.zero with
 |some (.agg n pat tr)=>fC n pat tr 0 n
 |some (.tuple _)=>none
 |some v=>some [v]
 |none=>none
def E9 (G:Γ)(t:TypeId):Option (List A):=
 match G.ty t with
 |none=>none
 |some ty=>match LV G 8 t,zeroV ty with
  |some l,some cs=>match xA l cs with
   |true=>some l
   |false=>none
  |_,_=>none
def Fa (G:Γ)(t:TypeId)(e:Operand->Option A)(parts:List (Nat×Operand)):Option A:=
 match G.ty t with
 |some ty=>match isAgg ty.zero&&buildable G ty.desc with
  |true=>match E9 G t with
   |some z=>match EV (place G ty) e parts z with
    |some l=>some (.ag l)
    |none=>none
   |none=>none
  |false=>none
 |none=>none
def lD (G:Γ)(t:TypeId)(J:AS)(K:A->AS->Bool):Bool:=opt (E9 G t) fun l=>K (.p J.nb (uv 0)) (J.add (.cl false (some t) l))
def BK (t:TypeId)(x:A)(J:AS)(K:A->AS->Bool):Bool:=opt ((rG x).map (nY J.z)) fun l=>K (.p J.nb (uv 0)) (J.add (.cl false (some t) l))
def fW (G:Γ)(ty:Option TY)(x y:A)(J:AS)(K:A->AS->Bool):Bool:=
 match ty,toI x,toI y with
 |some ty,some l,some c=>match ty.desc with
  |.slice elem=>match G.ty elem with
   |some te=>opt (lW te) fun z=>opt (xz z) fun ks=>match leQ J.z (0,0) l.2&&leQ J.z l.2 c.2&&leQ J.z c.2 (0,100000)&&Nat.ble te.size 100000&&Nat.blt 0 te.size&&Nat.beq z.length te.size with
    |true=>K (.sl J.nb (uv 0) l.2 (.kn c.2)) (J.add (.cl false (some elem) [.rw ks c.2 none]))
    |false=>false
   |none=>false
  |_=>false
 |_,_,_=>false
def fD (G:Γ)(ty:Option TY)(len:Nat)(e:Operand->Option A)(parts:List (Nat×Operand))(J:AS)(K:A->AS->Bool):Bool:=
 match ty with
 |some ty=>match ty.desc with
  |.slice elem=>match G.ty elem with
   |some te=>opt (lW te) fun z=>match z.all (fun v=>plain (.k v))&&Nat.ble (Nat.mul len te.size) 100000&&Nat.beq z.length te.size&&Nat.blt 0 te.size with
    |true=>opt (EV (fun i=>some (Nat.mul i te.size,te.size)) e parts (rep len (z.map A.k))) fun l=>match Nat.ble len 32 with
     |true=>K (.sl J.nb (uv 0) (0,Int.ofNat len) (.kn (0,Int.ofNat len))) (J.add (.cl false (some elem) l))
     |false=>opt (rowOf J.z te.size l) fun r=>K (.sl J.nb (uv 0) (0,Int.ofNat len) (.kn (0,Int.ofNat len))) (J.add (.cl false (some elem) [.rw r.1 r.2 none]))
    |false=>false
   |none=>false
  |_=>false
 |none=>false
end
variable {e p q:LE}{a b c:Int}{y x:Nat}
structure NV where
 ints:List Int
 strs:List (List UInt8)
 blks:List Nat
 objs:List (List (Nat×O))
structure NV.le (Z Z':NV):Prop where
 i:∀ {x:Nat} {z:Int},Z.ints[x]?=some z->Z'.ints[x]?=some z
 s:∀ {x:Nat} {z:List UInt8},Z.strs[x]?=some z->Z'.strs[x]?=some z
 b:∀ {x:Nat} {z:Nat},Z.blks[x]?=some z->Z'.blks[x]?=some z
 o:∀ {x:Nat} {z:List (Nat×O)},Z.objs[x]?=some z->Z'.objs[x]?=some z
theorem NV.le.refl (Z:NV):Z.le Z:=⟨id,id,id,id⟩
theorem NV.le.trans {a b c:NV}(h:a.le b)(k:b.le c):a.le c:=⟨fun q=>k.i (h.i q),fun q=>k.s (h.s q),fun q=>k.b (h.b q),fun q=>k.o (h.o q)⟩
def Num (Z:NV)(e:LE)(z:Int):Prop:=∃ y,Z.ints[e.1]?=some y/\z=y+e.2
theorem Num.mono {Z Z':NV}(h:Z.le Z'){z:Int}(n:Num Z e z):Num Z' e z:=let ⟨y,a,b⟩:=n;⟨y,h.i a,b⟩
theorem Num.fn {Z:NV}{e:LE}{a b:Int}(h:Num Z e a)(k:Num Z e b):a=b:=by obtain⟨y,h1,h2⟩:=h;obtain⟨z,k1,k2⟩:=k;rw[h1] at k1;cases k1;omega
theorem Num.plus {Z:NV}{e:LE}{a:Int}(h:Num Z e a)(c:Int):Num Z (plus e c) (a+c):=by obtain⟨y,h1,h2⟩:=h;exact⟨y,h1,by show a+c=y+(e.2+c);omega⟩
inductive BV (Z:NV):BE->Bool->Prop
 |lit (b:Bool):BV Z (.lit b) b
 |lt {x y:LE} {a b:Int} (h:Num Z x a) (k:Num Z y b):BV Z (.lt x y) (decide (a<b))
 |eq {x y:LE} {a b:Int} (h:Num Z x a) (k:Num Z y b):BV Z (.eq x y) (decide (a=b))
 |not {e:BE} {b:Bool} (h:BV Z e b):BV Z (.not e) (!b)
theorem BV.mono {Z Z':NV}(h:Z.le Z'){e:BE}{b:Bool}(n:BV Z e b):BV Z' e b:=by
 induction n with
 |lit b=>exact .lit b
 |lt a b=>exact .lt (a.mono h) (b.mono h)
 |eq a b=>exact .eq (a.mono h) (b.mono h)
 |not _ ih=>exact .not ih
def pC (Z:NV)(o:Off)(n:Nat):Prop:=∃ m:Nat,(o.st≠0->Num Z o.e m)/\n=o.o+m * o.st
theorem pC.mono {Z Z':NV}(h:Z.le Z'){o:Off}{n:Nat}(k:pC Z o n):pC Z' o n:=let ⟨m,a,b⟩:=k;⟨m,fun q=>(a q).mono h,b⟩
inductive xj (Z:NV):BG->Cap->Prop
 |kn {e:LE} {n:Nat} (h:Num Z e n):xj Z (.kn e) (.known n)
 |al {e:LE} {n s:Nat} (h:Num Z e n):xj Z (.al e s) (.atl n s)
theorem xj.mono {Z Z':NV}(h:Z.le Z'){a:BG}{c:Cap}(k:xj Z a c):xj Z' a c:=by
 cases k with
 |kn q=>exact .kn (q.mono h)
 |al q=>exact .al (q.mono h)
def T3 (w len:Nat)(c:Cap):Prop:=match c with
 |.known c=>len<=c
 |.atl c es=>len<=c/\es=w
def Low (Z:NV)(lo:Option LE)(z:Int):Prop:=∀ e,lo=some e->∃ a,Num Z e a/\a<=z
def ug (Z:NV)(hi:Option LE)(z:Int):Prop:=∀ e,hi=some e->∃ a,Num Z e a/\z<=a
def HdV (Z:NV)(s:Nat)(v:V):Prop:=∃ b e n pat tr L i,Z.objs[s]?=some ((b,O.cells e n pat tr) :: L)/\cell n pat tr i=some v
theorem HdV.mono {Z Z':NV}(h:Z.le Z'){s:Nat}{v:V}(k:HdV Z s v):HdV Z' s v:=let ⟨b,e,n,pat,tr,L,i,x,y⟩:=k;⟨b,e,n,pat,tr,L,i,h.o x,y⟩
inductive KV (Z:NV):EK->V->Prop
 |int {k:IntKind} {lo hi:Option LE} {z:Int} (r:rE k<=z/\z<=pW k) (l:Low Z lo z) (h:ug Z hi z):KV Z (.int k lo hi) (.int k z)
 |bool (b:Bool):KV Z .bool (.bool b)
 |str (s:List UInt8):KV Z .str (.str s)
 |cst (v:V):KV Z (.cst v) v
 |re {U s:Nat} {B:LE} {b o n bb:Nat} {c:Cap} (h:HdV Z s (.slice b o n c)) (k:Num Z B bb) (q:n<=bb):KV Z (.re U s B) (.slice b o n c)
 |re0 {U s:Nat} {B:LE} {bb:Nat} (h:HdV Z s .nils) (k:Num Z B bb):KV Z (.re U s B) .nils
 |stb {n:Nat} {s:List UInt8} (h:s.length<=n):KV Z (.stb n) (.str s)
theorem Low.mono {Z Z':NV}(h:Z.le Z'){e:Option LE}{z:Int}(k:Low Z e z):Low Z' e z:=fun e q=>let ⟨a,x,y⟩:=k e q;⟨a,x.mono h,y⟩
theorem ug.mono {Z Z':NV}(h:Z.le Z'){e:Option LE}{z:Int}(k:ug Z e z):ug Z' e z:=fun e q=>let ⟨a,x,y⟩:=k e q;⟨a,x.mono h,y⟩
theorem KV.mono {Z Z':NV}(h:Z.le Z'){k:EK}{v:V}(q:KV Z k v):KV Z' k v:=by
 cases q with
 |int r l u=>exact .int r (l.mono h) (u.mono h)
 |bool b=>exact .bool b
 |str s=>exact .str s
 |cst v=>exact .cst v
 |re a c d=>exact .re (a.mono h) (c.mono h) d
 |re0 a c=>exact .re0 (a.mono h) (c.mono h)
 |stb a=>exact .stb a
inductive WV (Z:NV):A->Nat->Prop
 |one {a:A} (h:∀ ks n f,a≠.rw ks n f):WV Z a 1
 |rw {ks:List EK} {e:LE} {f:Option (LE×List A)} {n:Nat} (h:Num Z e n) (g:∀ fe as,f=some (fe,as)->as.length=ks.length/\∃ m:Nat,Num Z fe m/\m<n):WV Z (.rw ks e f) (ks.length * n)
theorem WV.mono {Z Z':NV}(h:Z.le Z'){a:A}{n:Nat}(k:WV Z a n):WV Z' a n:=by
 cases k with
 |one q=>exact .one q
 |rw q g=>exact .rw (q.mono h) fun fe as e=>let ⟨a,m,b,c⟩:=g fe as e;⟨a,m,b.mono h,c⟩
inductive gp (Z:NV):List A->Nat->Prop
 |nil:gp Z [] 0
 |cons {a:A} {l:List A} {w n:Nat} (h:WV Z a w) (k:gp Z l n):gp Z (a :: l) (w+n)
theorem gp.mono {Z Z':NV}(h:Z.le Z'){l:List A}{n:Nat}(k:gp Z l n):gp Z' l n:=by
 induction k with
 |nil=>exact .nil
 |cons a _ ih=>exact .cons (a.mono h) ih
mutual
inductive AV (Z:NV):A->V->Prop
 |k (v:V):AV Z (.k v) v
 |i {k:IntKind} {e:LE} {z:Int} (h:Num Z e z):AV Z (.i k e) (.int k z)
 |b {e:BE} {b:Bool} (h:BV Z e b):AV Z (.b e) (.bool b)
 |s {j x:Nat} {s:List UInt8} (h:Z.strs[j]?=some s) (k:Z.ints[x]?=some (s.length:Int)):AV Z (.s j x) (.str s)
 |p {U b:Nat} {o:Off} {n:Nat} (h:Z.blks[U]?=some b) (k:pC Z o n):AV Z (.p U o) (.ptr b n)
 |sl {U b:Nat} {o:Off} {n len:Nat} {e:LE} {c:BG} {cap:Cap} (h:Z.blks[U]?=some b) (k:pC Z o n) (l:Num Z e len) (q:xj Z c cap):AV Z (.sl U o e c) (.slice b n len cap)
 |su {U w b off len cnt m:Nat} {N n:LE} {cap:Cap} (h:Z.blks[U]?=some b) (hN:Num Z N cnt) (hn:Num Z n len) (ho:off=m * w) (hl:m+len<=cnt) (hc:T3 w len cap):AV Z (.su U w N n) (.slice b off len cap)
 |su0 {U w:Nat} {N n:LE} (hn:Num Z n 0):AV Z (.su U w N n) .nils
 |re {U s:Nat} {n:LE} {b o len:Nat} {c:Cap} (h:HdV Z s (.slice b o len c)) (k:Num Z n len):AV Z (.re U s n) (.slice b o len c)
 |re0 {U s:Nat} {n:LE} (h:HdV Z s .nils) (k:Num Z n 0):AV Z (.re U s n) .nils
 |sn {U:Nat} {x n c:LE} {b len cp:Nat} (hx:Num Z x b) (hn:Num Z n len) (hc:Num Z c cp):AV Z (.sn U x n c) (.slice b 0 len (.known cp))
 |sn0 {U:Nat} {x n c:LE} (hn:Num Z n 0) (hc:Num Z c (-1)):AV Z (.sn U x n c) .nils
 |m {U b:Nat} (h:Z.blks[U]?=some b):AV Z (.m U) (.map b)
 |fn {f:FuncId} {a c:List A} {a' c':List V} (h:AVs Z a a') (k:AVs Z c c'):AV Z (.fn f a c) (.func (.func f) a' c')
 |yd {U b:Nat} (h:Z.blks[U]?=some b):AV Z (.yd U) (.func (.yield b) [] [])
 |ifc {t:TypeId} {a:A} {v:V} (h:AV Z a v):AV Z (.ifc t a) (.iface t v)
 |ag {l:List A} {n:Nat} {pat:List V} {tr:T V} (h:gp Z l n) (t:∀ i,i<n->(cell n pat tr i).isSome=true) (k:∀ i c,cell n pat tr i=some c->CA Z l i c):AV Z (.ag l) (.agg n pat tr)
 |tp {l:List A} {l':List V} (h:AVs Z l l'):AV Z (.tp l) (.tuple l')
inductive AVs (Z:NV):List A->List V->Prop
 |nil:AVs Z [] []
 |cons {a:A} {v:V} {l:List A} {l':List V} (h:AV Z a v) (k:AVs Z l l'):AVs Z (a :: l) (v :: l')
inductive CA (Z:NV):List A->Nat->V->Prop
 |here {a:A} {l:List A} {c:V} (p:plain a=true) (h:AV Z a c):CA Z (a :: l) 0 c
 |skip {a:A} {l:List A} {w i:Nat} {c:V} (h:WV Z a w) (k:CA Z l i c):CA Z (a :: l) (w+i) c
 |row {ks:List EK} {e:LE} {f:Option (LE×List A)} {l:List A} {n i:Nat} {c:V} {k:EK} (h:Num Z e n) (j:i<ks.length * n) (g:∀ fe as,f=some (fe,as)->∃ m:Nat,Num Z fe m/\i / ks.length≠m) (q:ks[i % ks.length]?=some k) (r:KV Z k c):CA Z (.rw ks e f :: l) i c
 |foc {ks:List EK} {e fe:LE} {as l:List A} {n m f:Nat} {c:V} {a:A} (h:Num Z e n) (g:Num Z fe m) (j:m<n) (i:f<ks.length) (q:as[f]?=some a) (p:plain a=true) (r:AV Z a c):CA Z (.rw ks e (some (fe,as)) :: l) (m * ks.length+f) c
end
mutual
theorem AV.mono {Z Z':NV}(h:Z.le Z'):∀ {a:A} {v:V},AV Z a v->AV Z' a v
 |_,_,.k v=>.k v
 |_,_,.i q=>.i (q.mono h)
 |_,_,.b q=>.b (q.mono h)
 |_,_,.s q r=>.s (h.s q) (h.i r)
 |_,_,.p q r=>.p (h.b q) (r.mono h)
 |_,_,.sl q r s t=>.sl (h.b q) (r.mono h) (s.mono h) (t.mono h)
 |_,_,.su q r s a b c=>.su (h.b q) (r.mono h) (s.mono h) a b c
 |_,_,.su0 q=>.su0 (q.mono h)
 |_,_,.re a c=>.re (a.mono h) (c.mono h)
 |_,_,.re0 a c=>.re0 (a.mono h) (c.mono h)
 |_,_,.sn a b c=>.sn (a.mono h) (b.mono h) (c.mono h)
 |_,_,.sn0 a b=>.sn0 (a.mono h) (b.mono h)
 |_,_,.m q=>.m (h.b q)
 |_,_,.fn q r=>.fn (AVs.mono h q) (AVs.mono h r)
 |_,_,.yd q=>.yd (h.b q)
 |_,_,.ifc q=>.ifc (AV.mono h q)
 |_,_,.ag q t r=>.ag (q.mono h) t fun i c x=>CA.mono h (r i c x)
 |_,_,.tp q=>.tp (AVs.mono h q)
theorem AVs.mono {Z Z':NV}(h:Z.le Z'):∀ {a:List A} {v:List V},AVs Z a v->AVs Z' a v
 |_,_,.nil=>.nil
 |_,_,.cons q r=>.cons (AV.mono h q) (AVs.mono h r)
theorem CA.mono {Z Z':NV}(h:Z.le Z'):∀ {l:List A} {i:Nat} {v:V},CA Z l i v->CA Z' l i v
 |_,_,_,.here p q=>.here p (AV.mono h q)
 |_,_,_,.skip q r=>.skip (q.mono h) (CA.mono h r)
 |_,_,_,.row a b c d e=>.row (a.mono h) b (fun fe as q=>let ⟨m,x,y⟩:=c fe as q;⟨m,x.mono h,y⟩) d (e.mono h)
 |_,_,_,.foc a b c d e f g=>.foc (a.mono h) (b.mono h) c d e f (AV.mono h g)
end
structure ZR (Z:NV)(z:ZN):Prop where
 up:∀ {x:Nat} {p:Nat×Int},p∈rows z.up x->∃ a b,Z.ints[x]?=some a/\Z.ints[p.1]?=some b/\a<=b+p.2
 dn:∀ {y:Nat} {p:Nat×Int},p∈rows z.dn y->∃ a b,Z.ints[p.1]?=some a/\Z.ints[y]?=some b/\a<=b+p.2
 sm:∀ {e:LE×LE×LE},e∈z.sm->∃ a b,Num Z e.1 a/\Num Z e.2.1 b/\Num Z e.2.2 (a+b)
structure VR (Z:NV)(J:AS):Prop where
 ni:Z.ints.length=J.nx
 ns:Z.strs.length=J.ns
 nb:Z.blks.length=J.nb
 no:Z.objs.length=J.no
 z0:Z.ints[0]?=some 0
 zr:ZR Z J.z
theorem ZR.mono {Z Z':NV}(h:Z.le Z'){z:ZN}(k:ZR Z z):ZR Z' z:=⟨fun q=>let ⟨a,b,x,y,w⟩:=k.up q;⟨a,b,h.i x,h.i y,w⟩,fun q=>let ⟨a,b,x,y,w⟩:=k.dn q;⟨a,b,h.i x,h.i y,w⟩,fun q=>let ⟨a,b,x,y,w⟩:=k.sm q;⟨a,b,x.mono h,y.mono h,w.mono h⟩⟩
theorem M4 (h:ile a b=true):a<=b:=by
 cases a<;>cases b<;>simp only[ile] at h;·have:=az h;simp only[aN];omega
 .cases h
 .rename_i m n;have:=Int.negSucc_lt_zero m;simp only[aN];omega
 .have:=az h;rename_i m n;simp only[Int.negSucc_eq];omega
theorem oA {α:Type}{f:α->Bool}:∀ {l:List α},zQ f l=true->∃ x,x∈l/\f x=true
 |[],h=>by cases h
 |x :: l,h=>by
  simp only[zQ] at h;split at h;·exact⟨x,by simp,by assumption⟩
  .obtain⟨y,a,b⟩:=oA h;exact⟨y,by simp[a],b⟩
theorem wu (a b:Int):N6 a b=ile a b:=by cases a<;>cases b<;>rfl
theorem AJ {α:Type}{f g:α->Bool}(h:∀ x,f x=g x):∀ l:List α,OA f l=zQ g l
 |[]=>rfl
 |x :: l=>by have ih:=AJ h l;unfold zQ;show @Bool.rec (fun _=>Bool) (OA f l) true (f x)=_;rw[h x,ih];cases g x<;>rfl
theorem AK (x:Nat)(c:Int):∀ l:List (Nat×Int),LG x c l=LC x c l
 |[]=>rfl
 |p :: l=>by have ih:=AK x c l;unfold LC;show @Bool.rec (fun _=>Bool) (LG x c l) (@Bool.rec (fun _=>Bool) (LG x c l) true (N6 p.2 c)) (Nat.beq p.1 x)=_;rw[ih,wu];cases Nat.beq p.1 x<;>cases ile p.2 c<;>rfl
theorem CC (c:Int)(seen:List (Nat×Int)):∀ (l acc:List (Nat×Int)),Dl c seen l acc=zR c seen l acc
 |[],_=>rfl
 |p :: l,acc=>by have ih:=CC c seen l;unfold zR;show @Bool.rec (fun _=>List (Nat×Int)) (@Bool.rec (fun _=>List (Nat×Int)) (Dl c seen l ((p.1,Int.add c p.2) :: acc)) (Dl c seen l acc) (LG p.1 (Int.add c p.2) seen)) (Dl c seen l acc) (LG p.1 (Int.add c p.2) acc)=_;rw[ih,ih,AK,AK];cases LC p.1 (Int.add c p.2) acc<;>cases LC p.1 (Int.add c p.2) seen<;>rfl
theorem Jw (t:T (List (Nat×Int)))(x:Nat):Iz t x=rows t x:=by unfold Iz rows;cases t.get x<;>rfl
theorem GJ (t:T (List (Nat×Int)))(seen:List (Nat×Int)):∀ (l acc:List (Nat×Int)),OB t seen l acc=LD t seen l acc
 |[],_=>rfl
 |q :: l,acc=>by have ih:=GJ t seen l;unfold LD;show @Bool.rec (fun _=>List (Nat×Int)) (OB t seen l (Dl q.2 seen (Iz t q.1) acc)) (OB t seen l acc) (Nat.beq q.1 0)=_;rw[ih,ih,CC,Jw];cases Nat.beq q.1 0<;>rfl
theorem GK {t:T (List (Nat×Int))}{f g:Nat×Int->Bool}(h:∀ p,f p=g p):∀ (n:Nat) (fr seen:List (Nat×Int)),goR t f n fr seen=goL t g n fr seen
 |0,fr,_=>AJ h fr
 |n+1,fr,seen=>by unfold goL;show @Bool.rec (fun _=>Bool) (@List.rec (Nat×Int) (fun _=>Bool) false (fun _ _ _=>goR t f n (OB t (fr++seen) fr []) (fr++seen)) fr) true (OA f fr)=_;rw[AJ h,GK h n,GJ];cases zQ g fr<;>cases fr<;>rfl
theorem GL (z:ZN)(c:Int)(y:Nat):Rf z c y=xg z c y:=GK (fun p=>by rw[wu];cases Nat.beq p.1 0<;>cases ile p.2 0<;>rfl) _ _ _
theorem Pt (z:ZN)(x:Nat)(c:Int)(y:Nat)(b:Int):upR z x c y b=upB z x c y b:=GK (fun p=>by unfold Rg;rw[wu,GL];cases Nat.beq p.1 y<;>cases ile p.2 b<;>cases Nat.beq p.1 0<;>rfl) _ _ _
theorem GM (z:ZN)(p q:LE):leQ z p q=leO z p q:=by unfold leQ leO;rw[Pt,GL,wu];cases Nat.beq p.1 0<;>cases Nat.beq q.1 0<;>rfl
theorem wv {c:Int}{seen:List (Nat×Int)}{I:Nat×Int->Prop}:∀ {l acc:List (Nat×Int)},(∀ p,p∈l->I (p.1,c+p.2))->(∀ p,p∈acc->I p)->∀ p,p∈zR c seen l acc->I p
 |[],_,_,h2,p,hp=>h2 p hp
 |q :: l,acc,h1,h2,p,hp=>by
  unfold zR at hp;split at hp;·exact wv (fun p hp=>h1 p (aB _ hp)) h2 p hp
  .refine wv (fun p hp=>h1 p (aB _ hp)) (fun r hr=>?_) p hp;cases hr with
   |head=>exact h1 q (by simp)
   |tail _ hr=>exact h2 r hr
theorem AL {t:T (List (Nat×Int))}{seen:List (Nat×Int)}{I:Nat×Int->Prop}(hs:∀ q,I q->q.1≠0->∀ p,p∈rows t q.1->I (p.1,q.2+p.2)):∀ {l acc:List (Nat×Int)},(∀ p,p∈l->I p)->(∀ p,p∈acc->I p)->∀ p,p∈LD t seen l acc->I p
 |[],_,_,h2,p,hp=>h2 p hp
 |q :: l,acc,h1,h2,p,hp=>by
  unfold LD at hp;split at hp;·exact AL hs (fun p hp=>h1 p (aB _ hp)) h2 p hp
  .rename_i e;refine AL hs (fun p hp=>h1 p (aB _ hp)) (wv (hs q (h1 q (by simp)) ?_) h2) p hp;intro e0;rw[e0] at e;cases e
theorem GN {t:T (List (Nat×Int))}{hit:Nat×Int->Bool}{I:Nat×Int->Prop}(hs:∀ q,I q->q.1≠0->∀ p,p∈rows t q.1->I (p.1,q.2+p.2)):∀ {n:Nat} {fr seen:List (Nat×Int)},goL t hit n fr seen=true->(∀ p,p∈fr->I p)->∃ p,I p/\hit p=true
 |0,_,_,h,h1=>by obtain⟨p,a,b⟩:=oA h;exact⟨p,h1 p a,b⟩
 |n+1,fr,seen,h,h1=>by
  unfold goL at h;split at h;·rename_i e;obtain⟨p,a,b⟩:=oA e;exact⟨p,h1 p a,b⟩
  .split at h;·cases h
   .exact GN hs h (AL hs h1 (fun p hp=>by cases hp))
section
variable {Z:NV}{z:ZN}(hz:ZR Z z)(h0:Z.ints[0]?=some 0)
theorem CD (hz:ZR Z z)(h0:Z.ints[0]?=some 0)(h:xg z c y=true):∃ b,Z.ints[y]?=some b/\c<=b:=by
 obtain⟨p,hp,hq⟩:=GN (I:=fun p=>p=(y,c)\/∃ a v,Z.ints[y]?=some a/\Z.ints[p.1]?=some v/\c - a<=p.2 - v) (by
  intro q hq _ p hp;obtain⟨a,b,x1,x2,x3⟩:=hz.dn hp;rcases hq with rfl|⟨a',v,w1,w2,w3⟩
  .exact .inr ⟨b,a,x2,x1,by simp only;omega⟩
  .rw[x2] at w2;cases w2;exact .inr ⟨a',a,w1,x1,by simp only;omega⟩) h (fun p hp=>.inl (by simpa using hp))
 simp only[ae,T.beq_true] at hq;have h3:=M4 hq.2;rcases hp with rfl|⟨a,v,w1,w2,w3⟩
 .exact⟨0,by rw[show y=0 from hq.1];exact h0,h3⟩
 .rw[hq.1,h0] at w2;cases w2;exact⟨a,w1,by omega⟩
theorem M5 (hz:ZR Z z)(h:upB z x c y b=true):∃ p:Nat×Int,(p=(x,c)\/∃ a v,Z.ints[x]?=some a/\Z.ints[p.1]?=some v/\a+c<=v+p.2)/\((p.1=y/\p.2<=b)\/(p.1=0/\xg z (p.2 - b) y=true)):=by
 obtain⟨p,hp,hq⟩:=GN (I:=fun p=>p=(x,c)\/∃ a v,Z.ints[x]?=some a/\Z.ints[p.1]?=some v/\a+c<=v+p.2) (by
  intro q hq _ p hp;obtain⟨a,b,x1,x2,x3⟩:=hz.up hp;rcases hq with rfl|⟨a',v,w1,w2,w3⟩
  .exact .inr ⟨a,b,x1,x2,by simp only;omega⟩
  .rw[x1] at w2;cases w2;exact .inr ⟨a',b,w1,x2,by simp only;omega⟩) h (fun p hp=>.inl (by simpa using hp))
 refine⟨p,hp,?_⟩;split at hq;·rename_i e;simp only[ae,T.beq_true] at e;exact .inl ⟨e.1,M4 e.2⟩
 .split at hq;·rename_i e;rw[T.beq_true] at e;exact .inr ⟨e,hq⟩
  .cases hq
theorem R8 (hz:ZR Z z)(h0:Z.ints[0]?=some 0){e:Int}(h:upB z x c y b=true)(ha:Z.ints[x]?=some a)(he:Z.ints[y]?=some e):a+c<=e+b:=by
 obtain⟨p,hp,hq⟩:=M5 hz h;have:∃ v,Z.ints[p.1]?=some v/\a+c<=v+p.2:=by
  rcases hp with rfl|⟨a',v,w1,w2,w3⟩;·exact⟨a,ha,bY _⟩
  .rw[ha] at w1;cases w1;exact⟨v,w2,w3⟩
 obtain⟨v,w1,w2⟩:=this;rcases hq with⟨e1,e2⟩|⟨e1,e2⟩;·rw[e1,he] at w1;cases w1;omega
 .rw[e1,h0] at w1;cases w1;obtain⟨d,y1,y2⟩:=CD hz h0 e2;rw[he] at y1;cases y1;omega
theorem eV (hz:ZR Z z)(h0:Z.ints[0]?=some 0)(h:leQ z p q=true)(ha:Num Z p a)(hb:Num Z q b):a<=b:=by
 obtain⟨y1,a1,a2⟩:=ha;obtain⟨y2,b1,b2⟩:=hb;rw[GM] at h;unfold leO at h;split at h
 .rename_i e;rw[T.beq_true] at e;rw[e,h0] at a1;cases a1;split at h;·rename_i e2;rw[T.beq_true] at e2;rw[e2,h0] at b1;cases b1;have:=M4 h;omega
  .obtain⟨d,c1,c2⟩:=CD hz h0 h;rw[b1] at c1;cases c1;have e3:Int.sub p.2 q.2=p.2 - q.2:=rfl;omega
 .have:=R8 hz h0 h a1 b1;omega
theorem eO (h0:Z.ints[0]?=some 0)(c:Int):Num Z (0,c) c:=⟨0,h0,by simp⟩
theorem uh (hz:ZR Z z)(h0:Z.ints[0]?=some 0){k:IntKind}(h:inR z k e=true)(ha:Num Z e a):rE k<=a/\a<=pW k:=by simp only[inR,ae] at h;exact⟨eV hz h0 h.1 (eO h0 _) ha,eV hz h0 h.2 ha (eO h0 _)⟩
theorem jB (hz:ZR Z z)(h0:Z.ints[0]?=some 0)(h:eqQ z p q=true)(ha:Num Z p a)(hb:Num Z q b):a=b:=by
 simp only[eqQ,bf,ae,T.beq_true,iT] at h;rcases h with⟨h1,h2⟩|⟨h1,h2⟩
 .have:p=q:=bQ h1 h2;subst this;exact ha.fn hb
 .have:=eV hz h0 h1 ha hb;have:=eV hz h0 h2 hb ha;omega
end
section
variable {Z:NV}{z:ZN}(hz:ZR Z z)(h0:Z.ints[0]?=some 0)
theorem Pu (hz:ZR Z z)(h0:Z.ints[0]?=some 0)(h:upB z x c y b=true)(ha:Z.ints[x]?=some a):∃ e,Z.ints[y]?=some e:=by
 obtain⟨p,hp,hq⟩:=M5 hz h;rcases hq with⟨e1,_⟩|⟨_,e2⟩
 .rcases hp with rfl|⟨a',v,_,w2,_⟩;·exact⟨a,by rw[<- e1];exact ha⟩
  .exact⟨v,by rw[<- e1];exact w2⟩
 .obtain⟨d,y1,_⟩:=CD hz h0 e2;exact⟨d,y1⟩
theorem Pv (hz:ZR Z z)(h0:Z.ints[0]?=some 0)(h:upB z x c y b=true)(ha:Z.ints[y]?=some a):∃ e,Z.ints[x]?=some e:=by
 obtain⟨p,hp,hq⟩:=M5 hz h;rcases hp with rfl|⟨a',v,w1,_,_⟩
 .rcases hq with⟨e1,_⟩|⟨e1,_⟩;·exact⟨a,by rw[show x=y from e1];exact ha⟩
  .exact⟨0,by rw[show x=0 from e1];exact h0⟩
 .exact⟨a',w1⟩
theorem mU (hz:ZR Z z)(h0:Z.ints[0]?=some 0)(h:leQ z p q=true)(ha:Num Z p a):∃ b,Num Z q b/\a<=b:=by
 have:∃ y,Z.ints[q.1]?=some y:=by
  obtain⟨y1,a1,a2⟩:=ha;rw[GM] at h;unfold leO at h;split at h
  .split at h;·rename_i e2;rw[T.beq_true] at e2;exact⟨0,by rw[e2];exact h0⟩
   .obtain⟨d,c1,_⟩:=CD hz h0 h;exact⟨d,c1⟩
  .exact Pu hz h0 h a1
 obtain⟨y,hy⟩:=this;have hb:Num Z q (y+q.2):=⟨y,hy,rfl⟩;exact⟨_,hb,eV hz h0 h ha hb⟩
theorem yp (hz:ZR Z z)(h0:Z.ints[0]?=some 0)(h:leQ z p q=true)(hb:Num Z q b):∃ a,Num Z p a/\a<=b:=by
 have:∃ y,Z.ints[p.1]?=some y:=by
  obtain⟨y1,a1,a2⟩:=hb;rw[GM] at h;unfold leO at h;split at h;·rename_i e;rw[T.beq_true] at e;exact⟨0,by rw[e];exact h0⟩
  .exact Pv hz h0 h a1
 obtain⟨y,hy⟩:=this;have ha:Num Z p (y+p.2):=⟨y,hy,rfl⟩;exact⟨_,ha,eV hz h0 h ha hb⟩
end
theorem mE {α:Type}{t:T (List α)}{n m:Nat}{l:List α}:rows (t.put n (some l)) m=if m=n then l else rows t m:=by
 unfold rows;rw[T.eL];by_cases e:m=n;·simp[e]
 .simp[e]
theorem ZR.add {Z:NV}{z:ZN}(hz:ZR Z z){p q:LE}{a b:Int}(ha:Num Z p a)(hb:Num Z q b)(h:a<=b):ZR Z (z.add p q):=by
 obtain⟨y1,a1,a2⟩:=ha;obtain⟨y2,b1,b2⟩:=hb;have e3:Int.sub q.2 p.2=q.2 - p.2:=rfl;refine⟨?_,?_,fun {e} he=>hz.sm (by simpa only[ZN.add] using he)⟩
 .intro x r hr;simp only[ZN.add] at hr;split at hr;·exact hz.up hr
  .rw[mE] at hr;split at hr
   .rename_i e;subst e;rcases aq.1 hr with rfl|hr
    .exact⟨y1,y2,a1,b1,by show y1<=y2+Int.sub q.2 p.2;omega⟩
    .exact hz.up hr
   .exact hz.up hr
 .intro x r hr;simp only[ZN.add] at hr;split at hr;·exact hz.dn hr
  .rw[mE] at hr;split at hr
   .rename_i e;subst e;rcases aq.1 hr with rfl|hr
    .exact⟨y1,y2,a1,b1,by show y1<=y2+Int.sub q.2 p.2;omega⟩
    .exact hz.dn hr
   .exact hz.dn hr
structure M6 (J J':AS):Prop where
 sz:J'.sz=J.sz
 tm:J'.tm=J.tm
 mem:J'.mem=J.mem
 nb:J'.nb=J.nb
 no:J'.no=J.no
 df:J'.df=J.df
theorem M6.refl (J:AS):M6 J J:=⟨rfl,rfl,rfl,rfl,rfl,rfl⟩
theorem M6.trans {a b c:AS}(h:M6 a b)(k:M6 b c):M6 a c:=⟨k.sz.trans h.sz,k.tm.trans h.tm,k.mem.trans h.mem,k.nb.trans h.nb,k.no.trans h.no,k.df.trans h.df⟩
structure Up (Z:NV)(J:AS)(Z':NV)(J':AS):Prop where
 le:Z.le Z'
 vr:VR Z' J'
 same:M6 J J'
 blks:Z'.blks=Z.blks
 objs:Z'.objs=Z.objs
theorem Up.refl {Z:NV}{J:AS}(h:VR Z J):Up Z J Z J:=⟨.refl _,h,.refl _,rfl,rfl⟩
theorem Up.trans {a b c:NV}{x y z:AS}(h:Up a x b y)(k:Up b y c z):Up a x c z:=⟨h.le.trans k.le,k.vr,h.same.trans k.same,k.blks.trans h.blks,k.objs.trans h.objs⟩
theorem VR.fact {Z:NV}{J:AS}(h:VR Z J){p q:LE}{a b:Int}(ha:Num Z p a)(hb:Num Z q b)(hab:a<=b):VR Z (J.fact p q):=⟨h.ni,h.ns,h.nb,h.no,h.z0,h.zr.add ha hb hab⟩
theorem Up.fact {Z:NV}{J:AS}(h:VR Z J){p q:LE}{a b:Int}(ha:Num Z p a)(hb:Num Z q b)(hab:a<=b):Up Z J Z (J.fact p q):=⟨.refl _,h.fact ha hb hab,⟨rfl,rfl,rfl,rfl,rfl,rfl⟩,rfl,rfl⟩
theorem Up.sum {Z:NV}{J:AS}(h:VR Z J){p q r:LE}{a b:Int}(ha:Num Z p a)(hb:Num Z q b)(hr:Num Z r (a+b)):Up Z J Z (J.sum p q r):=⟨.refl _,⟨h.ni,h.ns,h.nb,h.no,h.z0,⟨h.zr.up,h.zr.dn,fun {e} he=>by
 rcases aq.1 he with rfl|he;·exact⟨a,b,ha,hb,hr⟩
 .exact h.zr.sm he⟩⟩,⟨rfl,rfl,rfl,rfl,rfl,rfl⟩,rfl,rfl⟩
theorem GO {Z:NV}{p q r:LE}:∀ {l:List (LE×LE×LE)},N7 p q l=some r->(∀ e,e∈l->∃ a b,Num Z e.1 a/\Num Z e.2.1 b/\Num Z e.2.2 (a+b))->∀ {a b:Int},Num Z p a->Num Z q b->Num Z r (a+b)
 |[],h,_,_,_,_,_=>by cases h
 |e :: l,h,hl,a,b,⟨x,x1,x2⟩,⟨y,y1,y2⟩=>by
  obtain⟨c,d,⟨u,u1,u2⟩,⟨v,v1,v2⟩,⟨w,w1,w2⟩⟩:=hl e (by simp);simp only[N7] at h;split at h;·rename_i g;simp only[ae,T.beq_true] at g;cases h;rw[g.1,x1] at u1;cases u1;rw[g.2,y1] at v1;cases v1;exact⟨w,w1,by show a+b=w+(e.2.2.2+(p.2 - e.1.2)+(q.2 - e.2.1.2));omega⟩
  .split at h;·rename_i g;simp only[ae,T.beq_true] at g;cases h;rw[g.1,y1] at u1;cases u1;rw[g.2,x1] at v1;cases v1;exact⟨w,w1,by show a+b=w+(e.2.2.2+(q.2 - e.1.2)+(p.2 - e.2.1.2));omega⟩
   .exact GO h (fun e he=>hl e (aB _ he)) ⟨x,x1,x2⟩ ⟨y,y1,y2⟩
theorem Pw {Z:NV}{z:ZN}(hz:ZR Z z)(h0:Z.ints[0]?=some 0){x y:LE}{a b:Int}(ha:Num Z x a)(hb:Num Z y b):∀ {l:List Int} {e:LE},e∈hiC z x y l->∃ c,Num Z e c/\a+b<=c
 |[],e,h=>by simp[hiC] at h
 |c :: l,e,h=>by
  unfold hiC at h;split at h;·rename_i q;have:=eV hz h0 q hb (eO h0 c);rw[aj.1 h];exact⟨_,ha.plus c,by omega⟩
  .exact Pw hz h0 ha hb h
theorem Jx {Z:NV}{z:ZN}(hz:ZR Z z)(h0:Z.ints[0]?=some 0){x y:LE}(ha:Num Z x a)(hb:Num Z y b)(h:e∈hiS z x y):∃ c,Num Z e c/\a+b<=c:=Pw hz h0 ha hb h
theorem T4 {α:Type}{b:Bool}{x e:α}(h:e∈gl b x):b=true/\e=x:=by
 cases b with
 |true=>simp only[gl,aq,aA,or_false] at h;exact⟨rfl,h⟩
 |false=>simp[gl] at h
def Holds (Z:NV)(p:LE×LE):Prop:=∃ a b,Num Z p.1 a/\Num Z p.2 b/\a<=b
theorem Up.facts {Z:NV}:∀ {l:List (LE×LE)} {J:AS},VR Z J->(∀ p,p∈l->Holds Z p)->Up Z J Z (Ae.facts l J)
 |[],J,h,_=>.refl h
 |p :: l,J,h,hl=>by obtain⟨a,b,x,y,w⟩:=hl p (by simp);have h1:=Up.fact h x y w;exact h1.trans (Up.facts h1.vr fun q hq=>hl q (by simp[hq]))
theorem iQ {J:AS}{K:AS->Bool}(h:assume p q J K=true){Z:NV}(hv:VR Z J)(ha:Num Z p a)(hb:Num Z q b)(hab:a<=b):Up Z J Z (J.fact p q)/\K (J.fact p q)=true:=by
 unfold assume at h;split at h;·rename_i e;have:=eV hv.zr hv.z0 e (hb.plus 1) ha;omega
 .exact⟨Up.fact hv ha hb hab,h⟩
theorem iu:∀ {e:BE} {J:AS} {Kt Kf:AS->Bool},ifE e J Kt Kf=true->∀ {Z:NV} {b:Bool},VR Z J->BV Z e b->∃ J',Up Z J Z J'/\(match b with|true=>Kt J'|false=>Kf J')=true
 |.lit true,J,Kt,Kf,h,Z,b,hv,hb=>by cases hb;exact⟨J,.refl hv,h⟩
 |.lit false,J,Kt,Kf,h,Z,b,hv,hb=>by cases hb;exact⟨J,.refl hv,h⟩
 |.not e,J,Kt,Kf,h,Z,b,hv,hb=>by
  cases hb with
  |not hb=>rename_i b;obtain⟨J',x,y⟩:=iu (e:=e) (by simpa only[ifE] using h) hv hb;refine⟨J',x,?_⟩;cases b<;>exact y
 |.lt x y,J,Kt,Kf,h,Z,b,hv,hb=>by
  simp only[ifE,ae] at h;cases hb with
  |lt ha hb=>
   rename_i u w;by_cases q:u<w;·obtain⟨h1,h2⟩:=iQ h.1 hv (ha.plus 1) hb (by omega);exact⟨_,h1,by simpa [q] using h2⟩
   .obtain⟨h1,h2⟩:=iQ h.2 hv hb ha (by omega);exact⟨_,h1,by simpa [q] using h2⟩
 |.eq x y,J,Kt,Kf,h,Z,b,hv,hb=>by
  simp only[ifE,ae] at h;cases hb with
  |eq ha hb=>
   rename_i u w;by_cases q:u=w;·subst q;obtain⟨h1,h2⟩:=iQ h.1 hv ha hb (by omega);obtain⟨h3,h4⟩:=iQ h2 h1.vr hb ha (by omega);exact⟨_,h1.trans h3,by simpa using h4⟩
   .have h2:=h.2;split at h2;·rename_i e;have:=eV hv.zr hv.z0 e ha hb;obtain⟨h1,h2⟩:=iQ h2 hv (ha.plus 1) hb (by omega);exact⟨_,h1,by simpa [q] using h2⟩
    .split at h2;·rename_i e;have:=eV hv.zr hv.z0 e hb ha;obtain⟨h1,h2⟩:=iQ h2 hv (hb.plus 1) ha (by omega);exact⟨_,h1,by simpa [q] using h2⟩
     .simp only[ae] at h2;by_cases q2:u<w;·obtain⟨h1,h3⟩:=iQ h2.1 hv (ha.plus 1) hb (by omega);exact⟨_,h1,by simpa [q] using h3⟩
      .obtain⟨h1,h3⟩:=iQ h2.2 hv (hb.plus 1) ha (by omega);exact⟨_,h1,by simpa [q] using h3⟩
theorem Px {Z:NV}{z:List Int}:Z.le { Z with ints:=Z.ints++z }:=⟨fun h=>by rw[aG];have:=(ai.1 h).1;rw[if_pos this];exact h,id,id,id⟩
theorem fM {lo hi:List LE}{J:AS}{K:LE->AS->Bool}(h:pX lo hi J K=true){Z:NV}(hv:VR Z J)(z:Int)(hl:∀ e,e∈lo->∃ a,Num Z e a/\a<=z)(hh:∀ e,e∈hi->∃ a,Num Z e a/\z<=a):
  ∃ Z' J' e,Up Z J Z' J'/\Num Z' e z/\e.2=0/\Z'.ints[e.1]?=some z/\K e J'=true:=by
 have hle:Z.le { Z with ints:=Z.ints++[z] }:=Px;have hx:({ Z with ints:=Z.ints++[z] }:NV).ints[J.nx]?=some z:=by show(Z.ints++[z])[J.nx]?=some z;rw[<- hv.ni];simp
 have hn:Num { Z with ints:=Z.ints++[z] } (J.nx,0) z:=⟨z,hx,by simp⟩;have v0:VR { Z with ints:=Z.ints++[z] } { J with nx:=Nat.succ J.nx }:=⟨by show(Z.ints++[z]).length=_;simp[hv.ni],hv.ns,hv.nb,hv.no,hle.i hv.z0,hv.zr.mono hle⟩;have u1:=Up.facts (l:=lo.map fun e=>(e,(J.nx,0))) v0 fun p hp=>by obtain⟨e,he,rfl⟩:=aJ.1 hp;obtain⟨a,x,y⟩:=hl e he;exact⟨a,z,x.mono hle,hn,y⟩
 have u2:=Up.facts (l:=hi.map fun e=>((J.nx,0),e)) u1.vr fun p hp=>by obtain⟨e,he,rfl⟩:=aJ.1 hp;obtain⟨a,x,y⟩:=hh e he;exact⟨z,a,hn,x.mono hle,y⟩
 have u:=u1.trans u2;exact⟨_,_,(J.nx,0),⟨hle.trans u.le,u.vr,⟨u.same.sz,u.same.tm,u.same.mem,u.same.nb,u.same.no,u.same.df⟩,u.blks,u.objs⟩,hn,rfl,hx,h⟩
end Go.Ae
namespace Go.Ae
open Go.Ev
variable {k:IntKind}{z:Int}
def Res (Z:NV)(J:AS)(v:V)(K:A->AS->Bool):Prop:=∃ Z' J' a,Up Z J Z' J'/\AV Z' a v/\K a J'=true
theorem Res.now {Z:NV}{J:AS}{v:V}{K:A->AS->Bool}(hv:VR Z J){a:A}(h:AV Z a v)(k:K a J=true):Res Z J v K:=⟨Z,J,a,.refl hv,h,k⟩
theorem Res.up {Z Z':NV}{J J':AS}{v:V}{K:A->AS->Bool}(u:Up Z J Z' J')(h:Res Z' J' v K):Res Z J v K:=let ⟨a,b,c,x,y,z⟩:=h;⟨a,b,c,u.trans x,y,z⟩
theorem I3 {n:Int}(h:rE k<=n/\n<=pW k):wr k n=n:=by rw[oV];cases k<;>simp only[rE,pW,nX,lA] at h<;>simp[IntKind.wrap,IntKind.bits,IntKind.signed]<;>omega
theorem Ew (k:IntKind)(n:Int):rE k<=wr k n/\wr k n<=pW k:=by rw[oV];cases k<;>simp[rE,pW,nX,lA,IntKind.wrap,IntKind.bits,IntKind.signed]<;>omega
theorem vL (k:IntKind):rE k<=0:=by cases k<;>simp[rE,nX]
section
variable {J:AS}{K:A->AS->Bool}{Z:NV}
theorem nj {lo hi:List LE}(h:rF k lo hi J K=true)(hv:VR Z J)(r:rE k<=z/\z<=pW k)(hl:∀ e,e∈lo->∃ a,Num Z e a/\a<=z)(hh:∀ e,e∈hi->∃ a,Num Z e a/\z<=a):Res Z J (.int k z) K:=by
 obtain⟨Z',J',e,u,n,_,_,hk⟩:=fM (z:=z) h hv (fun e he=>by
  rcases aq.1 he with rfl|he;·exact⟨_,eO hv.z0 _,r.1⟩
  .exact hl e he) (fun e he=>by
  rcases aq.1 he with rfl|he;·exact⟨_,eO hv.z0 _,r.2⟩
  .exact hh e he)
 exact⟨Z',J',_,u,.i n,hk⟩
theorem fZ (h:rF k [] [] J K=true)(hv:VR Z J)(r:rE k<=z/\z<=pW k):Res Z J (.int k z) K:=nj h hv r (fun _ h=>nomatch h) (fun _ h=>nomatch h)
theorem kL (h:Io J K=true)(hv:VR Z J)(b:Bool):Res Z J (.bool b) K:=by
 obtain⟨Z',J',e,u,n,_,_,hk⟩:=fM (z:=if b then 1 else 0) h hv (fun e he=>by
  simp only[aq,aA,or_false] at he;subst he;exact⟨_,eO hv.z0 _,by split<;>omega⟩) (fun e he=>by
  simp only[aq,aA,or_false] at he;subst he;exact⟨_,eO hv.z0 _,by split<;>omega⟩)
 have e1:=BV.lt (eO u.vr.z0 0) n;refine⟨Z',J',_,u,.b ?_,hk⟩;cases b<;>exact e1
theorem vM (h:OD J K=true)(hv:VR Z J)(s:List UInt8):Res Z J (.str s) K:=by obtain⟨Z',J',e,u,_,e2,n,hk⟩:=fM (z:=(s.length:Int)) h hv (fun e he=>by simp only[aq,aA,or_false] at he;subst he;exact⟨_,eO hv.z0 _,by omega⟩) (fun e he=>nomatch he);have hle:Z'.le { Z' with strs:=Z'.strs++[s] }:=⟨id,fun h=>by rw[aG,if_pos (ai.1 h).1];exact h,id,id⟩;refine⟨{ Z' with strs:=Z'.strs++[s] },{ J' with ns:=Nat.succ J'.ns },_,⟨u.le.trans hle,⟨u.vr.ni,by show(Z'.strs++[s]).length=_;simp[u.vr.ns],u.vr.nb,u.vr.no,u.vr.z0,u.vr.zr.mono hle⟩,⟨u.same.sz,u.same.tm,u.same.mem,u.same.nb,u.same.no,u.same.df⟩,u.blks,u.objs⟩,.s (j:=J'.ns) ?_ n,hk⟩;show(Z'.strs++[s])[J'.ns]?=some s;rw[<- u.vr.ns];simp
theorem I4 {m:Nat}(h:OE m J K=true)(hv:VR Z J)(s:List UInt8)(hs:s.length<=m):Res Z J (.str s) K:=by
 obtain⟨Z',J',e,u,_,e2,n,hk⟩:=fM (z:=(s.length:Int)) h hv (fun e he=>by
  simp only[aq,aA,or_false] at he;subst he;exact⟨_,eO hv.z0 _,by omega⟩) (fun e he=>by
  simp only[aq,aA,or_false] at he;subst he;exact⟨_,eO hv.z0 _,by simp only[aN];omega⟩)
 have hle:Z'.le { Z' with strs:=Z'.strs++[s] }:=⟨id,fun h=>by rw[aG,if_pos (ai.1 h).1];exact h,id,id⟩;refine⟨{ Z' with strs:=Z'.strs++[s] },{ J' with ns:=Nat.succ J'.ns },_,⟨u.le.trans hle,⟨u.vr.ni,by show(Z'.strs++[s]).length=_;simp[u.vr.ns],u.vr.nb,u.vr.no,u.vr.z0,u.vr.zr.mono hle⟩,⟨u.same.sz,u.same.tm,u.same.mem,u.same.nb,u.same.no,u.same.df⟩,u.blks,u.objs⟩,.s (j:=J'.ns) ?_ n,hk⟩;show(Z'.strs++[s])[J'.ns]?=some s;rw[<- u.vr.ns];simp
theorem I5 {m:Nat}(h:OF m J K=true)(hv:VR Z J)(s:List UInt8)(hs:m<=s.length):Res Z J (.str s) K:=by obtain⟨Z',J',e,u,_,e2,n,hk⟩:=fM (z:=(s.length:Int)) h hv (fun e he=>by simp only[aq,aA,or_false] at he;subst he;exact⟨_,eO hv.z0 _,by simp only[aN];omega⟩) (fun e he=>nomatch he);have hle:Z'.le { Z' with strs:=Z'.strs++[s] }:=⟨id,fun h=>by rw[aG,if_pos (ai.1 h).1];exact h,id,id⟩;refine⟨{ Z' with strs:=Z'.strs++[s] },{ J' with ns:=Nat.succ J'.ns },_,⟨u.le.trans hle,⟨u.vr.ni,by show(Z'.strs++[s]).length=_;simp[u.vr.ns],u.vr.nb,u.vr.no,u.vr.z0,u.vr.zr.mono hle⟩,⟨u.same.sz,u.same.tm,u.same.mem,u.same.nb,u.same.no,u.same.df⟩,u.blks,u.objs⟩,.s (j:=J'.ns) ?_ n,hk⟩;show(Z'.strs++[s])[J'.ns]?=some s;rw[<- u.vr.ns];simp
theorem xM {e:LE}(h:mkI k e J K=true)(hv:VR Z J)(hn:Num Z e z):Res Z J (.int k (wr k z)) K:=by
 unfold mkI at h;split at h
 .rename_i q;have r:=uh hv.zr hv.z0 q hn;rw[I3 r];split at h
  .rename_i q2;rw[T.beq_true] at q2;have:e.2=z:=by
    have:=eO hv.z0 e.2;have e3:(0,e.2)=e:=by rw[<- q2]
    rw[e3] at this;exact this.fn hn
   rw[this] at h;exact .now hv (.k _) h
  .exact .now hv (.i hn) h
 .exact fZ h hv (Ew k z)
theorem Ms {op:BinOp}{x y:LE}(h:Rh op k x y J K=true)(hv:VR Z J){a b:Int}(ha:Num Z x a)(hb:Num Z y b):∃ v,uN op k a b=some v/\Res Z J v K:=by
 have cy:Nat.beq y.1 0=true->b=y.2:=fun q=>by rw[T.beq_true] at q;exact hb.fn (by have:=eO hv.z0 y.2;rw[show(0,y.2)=y by rw[<- q]] at this;exact this)
 have cx:Nat.beq x.1 0=true->a=x.2:=fun q=>by rw[T.beq_true] at q;exact ha.fn (by have:=eO hv.z0 x.2;rw[show(0,x.2)=x by rw[<- q]] at this;exact this)
 have le:=fun {p q:LE} {u w:Int} (h:leQ J.z p q=true) (hu:Num Z p u) (hw:Num Z q w)=>eV hv.zr hv.z0 h hu hw;have nc:=fun(c:Int)=>eO hv.z0 c;cases op<;>simp only[Rh] at h;case add=>
  refine⟨_,rfl,?_⟩;split at h;·rename_i q;rw[cy q];exact xM h hv (ha.plus _)
  split at h;·rename_i q;rw[cx q];exact xM h hv (by have:=hb.plus x.2;rw[Int.add_comm] at this;exact this)
  split at h
  .rename_i q;simp only[ae] at q;have q1:=le q.1.1.1 (nc _) ha;have q2:=le q.1.1.2 (nc _) hb;have q3:=le q.1.2 ha (nc _);have q4:=le q.2 hb (nc _);have e:Int.add a b=a+b:=rfl;have r:rE .i64<=a+b/\a+b<=pW .i64:=by simp only[rE,pW,nX,lA];omega
   rw[e,I3 r];split at h;·rename_i r0 hs;exact .now hv (.i (GO hs (fun e he=>hv.zr.sm he) ha hb)) h
   .obtain⟨Z',J',e,u,n,_,_,hk⟩:=fM (z:=a+b) h hv (fun e he=>by
     simp only[aq,aA,or_false] at he;rcases he with rfl|rfl|rfl
     .exact⟨_,nc _,by omega⟩
     .exact⟨_,ha,by omega⟩
     .exact⟨_,hb,by omega⟩) (fun e he=>by
     rcases aq.1 he with rfl|he;·exact⟨_,nc _,r.2⟩
     rcases aK.1 he with g|g;·exact Jx hv.zr hv.z0 ha hb g
     .obtain⟨c,c1,c2⟩:=Jx hv.zr hv.z0 hb ha g;exact⟨c,c1,by omega⟩)
    exact⟨Z',_,_,u.trans (Up.sum u.vr (ha.mono u.le) (hb.mono u.le) n),.i n,hk⟩
  .exact fZ h hv (Ew _ _)
 case sub=>
  refine⟨_,rfl,?_⟩;split at h;·rename_i q;rw[cy q];exact xM h hv (ha.plus _)
  split at h
  .rename_i q;rw[T.beq_true] at q;have e:Int.sub a b=Int.sub x.2 y.2:=by
    obtain⟨u,u1,u2⟩:=ha;obtain⟨w,w1,w2⟩:=hb;rw[q,w1] at u1;cases u1;show a - b=x.2 - y.2;omega
   rw[e];exact xM h hv (nc _)
  split at h
  .rename_i q;simp only[ae] at q;have q1:=le q.1.1 (nc _) hb;have q2:=le q.1.2 hb ha;have q3:=le q.2 ha (nc _);have e:Int.sub a b=a - b:=rfl;have:=vL k;have r:rE k<=a - b/\a - b<=pW k:=by omega
   rw[e,I3 r];exact nj h hv r (fun e he=>by
    simp only[aq,aA,or_false] at he;subst he;exact⟨_,nc _,by omega⟩) (fun e he=>by
    simp only[aq,aA,or_false] at he;subst he;exact⟨_,ha,by omega⟩)
  .exact fZ h hv (Ew _ _)
 case eql=>
  split at h
  .rename_i q;refine⟨_,rfl,.now hv (by
    have e:ieq a b=false:=by
     rw[kC];simp only[bf] at q;refine decide_eq_false fun e=>?_;rcases q with q|q
     .have:=le q (ha.plus 1) hb;omega
     .have:=le q (hb.plus 1) ha;omega
    rw[e];exact .k _) h⟩
  .exact⟨_,rfl,.now hv (.b (by rw[kC];exact .eq ha hb)) h⟩
 case neq=>exact⟨_,rfl,.now hv (.b (by rw[kC];exact .not (.eq ha hb))) h⟩
 case lss=>exact⟨_,rfl,.now hv (.b (by rw[lj];exact .lt ha hb)) h⟩
 case leq=>exact⟨_,rfl,.now hv (.b (by rw[lj];exact .not (.lt hb ha))) h⟩
 case gtr=>exact⟨_,rfl,.now hv (.b (by rw[lj];exact .lt hb ha)) h⟩
 case geq=>exact⟨_,rfl,.now hv (.b (by rw[lj];exact .not (.lt ha hb))) h⟩
 case mul=>exact⟨_,rfl,fZ h hv (Ew _ _)⟩
 case and=>exact⟨_,rfl,fZ h hv (Ew _ _)⟩
 case or=>exact⟨_,rfl,fZ h hv (Ew _ _)⟩
 case xor=>exact⟨_,rfl,fZ h hv (Ew _ _)⟩
 case andNot=>exact⟨_,rfl,fZ h hv (Ew _ _)⟩
 case rem=>
  split at h;case h_2=>cases h
  rename_i q0;have q0:=le q0 (nc _) hb;have hne:ieq b 0=false:=P9.2 (by omega);refine⟨.int k (Int.tmod a b),by unfold uN;simp only[hne],?_⟩;split at h
  .rename_i q;simp only[ae] at q;have q1:=le q.1 (nc _) ha;have q2:=le q.2 ha (nc _);have t1:0<=Int.tmod a b:=Int.tmod_nonneg _ q1;have t2:Int.tmod a b<b:=Int.tmod_lt_of_pos _ (by omega);have t3:Int.tmod a b<=a:=by
    have e1:=Int.tmod_add_mul_tdiv a b;have e2:=Int.mul_nonneg (show 0<=b by omega) (Int.tdiv_nonneg q1 (show 0<=b by omega));omega
   have:=vL k;exact nj h hv (by omega) (fun e he=>by
    simp only[aq,aA,or_false] at he;subst he;exact⟨_,nc _,t1⟩) (fun e he=>by
    simp only[aq,aA,or_false] at he;rcases he with rfl|rfl
    .exact⟨_,hb.plus _,by omega⟩
    .exact⟨_,ha,t3⟩)
  .split at h
   .rename_i q1 q2;have e1:=cy q1;simp only[ae] at q2;have r1:=uh hv.zr hv.z0 q2.1 hb;have r2:=uh hv.zr hv.z0 q2.2 (nc _);have e2:Int.neg y.2 = - y.2:=rfl;have t2:Int.tmod a b<b:=Int.tmod_lt_of_pos _ (by omega);have t3 : - b<Int.tmod a b:=by
     have:=Int.lt_tmod_of_pos a (b:=b) (by omega);omega
    refine nj h hv (by omega) (fun e he=>by
     simp only[aq,aA,or_false] at he;subst he;exact⟨_,nc _,by show(1:Int) - y.2<=_;omega⟩) (fun e he=>by
     simp only[aq,aA,or_false] at he;subst he;exact⟨_,nc _,by show _<=y.2 - (1:Int);omega⟩)
   .cases h
 case quo=>
  split at h;case h_2=>cases h
  rename_i q0;have q0:=le q0 (nc _) hb;have hne:ieq b 0=false:=P9.2 (by omega);refine⟨.int k (wr k (Int.tdiv a b)),by unfold uN;simp only[hne],?_⟩;split at h
  .rename_i q;simp only[ae] at q;have q1:=le q.1 (nc _) ha;have q2:=le q.2 ha (nc _);have t1:0<=Int.tdiv a b:=Int.tdiv_nonneg q1 (by omega);have t2:Int.tdiv a b<=a:=Int.tdiv_le_self _ q1;have:=vL k;have r:rE k<=Int.tdiv a b/\Int.tdiv a b<=pW k:=by omega
   rw[I3 r];exact nj h hv r (fun e he=>by
    simp only[aq,aA,or_false] at he;subst he;exact⟨_,nc _,t1⟩) (fun e he=>by
    simp only[aq,aA,or_false] at he;subst he;exact⟨_,ha,t2⟩)
  .exact fZ h hv (Ew _ _)
 all_goals cases h
theorem FD {op:BinOp}{x y:LE}(h:EP op k x y J K=true)(hv:VR Z J){a b:Int}(ha:Num Z x a)(hb:Num Z y b):∃ v,mH op k a b=some v/\Res Z J v K:=by
 unfold EP at h;split at h;case h_2=>cases h
 rename_i q;have q:=eV hv.zr hv.z0 q (eO hv.z0 _) hb;cases b with
 |negSucc n=>have:=Int.negSucc_lt_zero n;omega
 |ofNat n=>
  cases op<;>simp only at h;case shl=>exact⟨_,rfl,fZ h hv (Ew _ _)⟩
  case shr=>
   refine⟨_,rfl,?_⟩;split at h;case h_2=>cases h
   rename_i q2;have r:=uh hv.zr hv.z0 q2 ha;have hp:(0:Int)<Int.ofNat (Nat.pow 2 (min n k.bits)):=by have:=Nat.pow_pos (n:=min n k.bits) (show 0<2 by omega);simp only[aN];exact Int.ofNat_lt.2 this
   have f1:0<=a->0<=Int.fdiv a (Int.ofNat (Nat.pow 2 (min n k.bits)))/\Int.fdiv a (Int.ofNat (Nat.pow 2 (min n k.bits)))<=a:=fun h0=>by rw[Int.fdiv_eq_ediv_of_nonneg _ (by omega)];exact⟨Int.ediv_nonneg h0 (by omega),Int.ediv_le_self _ h0⟩
   have f2:a<0->a<=Int.fdiv a (Int.ofNat (Nat.pow 2 (min n k.bits)))/\Int.fdiv a (Int.ofNat (Nat.pow 2 (min n k.bits)))<0:=fun h0=>by rw[Int.fdiv_eq_ediv_of_nonneg _ (by omega)];refine⟨?_,Int.ediv_neg_of_neg_of_pos h0 hp⟩;rw[Int.le_ediv_iff_mul_le hp];have:=Int.mul_le_mul_of_nonpos_left (show a<=0 by omega) (show(1:Int)<=Int.ofNat (Nat.pow 2 (min n k.bits)) by omega);omega
   have f:rE k<=Int.fdiv a (Int.ofNat (Nat.pow 2 (min n k.bits)))/\Int.fdiv a (Int.ofNat (Nat.pow 2 (min n k.bits)))<=pW k:=by
    by_cases h0:0<=a;·have:=f1 h0;have:=vL k;omega
    .have:=f2 (by omega);have:0<=pW k:=by cases k<;>simp[pW,lA]
     omega
   split at h
   .rename_i q3;have g3:=eV hv.zr hv.z0 q3 (eO hv.z0 _) ha;exact nj h hv f (fun e he=>by
     simp only[aq,aA,or_false] at he;subst he;exact⟨_,eO hv.z0 _,(f1 g3).1⟩) (fun e he=>by
     simp only[aq,aA,or_false] at he;subst he;exact⟨_,ha,(f1 g3).2⟩)
   .exact fZ h hv f
  all_goals cases h
end
end Go.Ae
namespace Go.Ae
open Go.Ev
variable {Z:NV}{w n i:Nat}{a:A}{l r:List A}{c:V}{pat:List V}{tr:T V}
theorem WV.fn {Z:NV}{a:A}{m n:Nat}(h:WV Z a m)(k:WV Z a n):m=n:=by
 cases h with
 |one q=>cases k with
  |one _=>rfl
  |rw _=>exact absurd rfl (q _ _ _)
 |rw q _=>cases k with
  |one p=>exact absurd rfl (p _ _ _)
  |rw p _=>have:=q.fn p;have e:=Int.ofNat.inj this;rw[e]
theorem WV.rwn {ks:List EK}{e:LE}{f:Option (LE×List A)}(h:WV Z (.rw ks e f) w)(k:Num Z e n):w=ks.length * n:=by
 cases h with
 |one q=>exact absurd rfl (q _ _ _)
 |rw q _=>have:=q.fn k;have e:=Int.ofNat.inj this;rw[e]
theorem gp.fn {Z:NV}{l:List A}{m n:Nat}(h:gp Z l m)(k:gp Z l n):m=n:=by
 induction h generalizing n with
 |nil=>cases k;rfl
 |cons a _ ih=>cases k with
  |cons b c=>rw[a.fn b,ih c]
theorem EO (h0:Z.ints[0]?=some 0){w':Nat}(h:wide a=some w)(k:WV Z a w'):w'=w:=by
 unfold wide at h;split at h
 .rename_i ks n f;split at h
  .rename_i q1 q2;cases h;rw[T.beq_true] at q1;cases k with
   |one q=>exact absurd rfl (q _ _ _)
   |rw q _=>have:Num Z n _:=⟨0,by rw[q1];exact h0,rfl⟩;have:=q.fn this;rw[q2] at this;have this:=Int.ofNat.inj (this.trans (Int.zero_add _));subst this;rfl
  .cases h
 .rename_i q;cases h;cases k with
  |one _=>rfl
  |rw _ _=>exact absurd rfl (q _ _ _)
theorem LB (h0:Z.ints[0]?=some 0)(h:wide a=some w)(ht:told a=false):WV Z a w:=by
 unfold wide at h;split at h
 .rename_i ks n f;split at h
  .rename_i q1 q2;cases h;rw[T.beq_true] at q1;refine .rw ⟨0,by rw[q1];exact h0,?_⟩ fun fe as e=>by subst e;cases ht
   rw[q2];simp
  .cases h
 .cases h;exact .one (by assumption)
theorem eZ (h:plain a=true):WV Z a 1:=.one fun ks n f e=>by subst e;cases h
theorem CA.tail (hw:WV Z a w)(h:CA Z (a :: l) (w+i) c):CA Z l i c:=by
 generalize e:w+i=j at h;cases h with
 |here p q=>have:=hw.fn (eZ p);omega
 |skip h k=>rename_i w' i';have:=hw.fn h;have:i'=i:=by omega
            subst this;exact k
 |row h j g q r=>have:=hw.rwn h;omega
 |foc h g j i' q p r=>
  rename_i ks en fe as n m f a';have:=hw.rwn h;have:m * ks.length+f<ks.length * n:=by have h1:(m+1) * ks.length<=n * ks.length:=bD _ j;rw[bH,dS] at h1;rw[aY ks.length n];omega
  omega
theorem CA.head (p:plain a=true)(h:CA Z (a :: l) 0 c):AV Z a c:=by
 generalize e:0=j at h;cases h with
 |here _ q=>exact q
 |skip h k=>have:=h.fn (eZ p);omega
 |row h=>cases p
 |foc h=>cases p
section
variable {Z:NV}(h0:Z.ints[0]?=some 0)
theorem vw (h0:Z.ints[0]?=some 0):∀ {l:List A} {o n:Nat} {r:List A},zS l o=some r->gp Z l n->∃ m,gp Z r m/\n=o+m/\∀ i c,CA Z l (o+i) c->CA Z r i c
 |l,0,n,r,h,hl=>by
  have:r=l:=by cases l<;>simpa [zS] using h.symm
  subst this;exact⟨n,hl,by omega,fun i c k=>by rw[aI] at k;exact k⟩
 |[],o+1,n,r,h,hl=>by simp[zS] at h
 |a :: l,o+1,n,r,h,hl=>by
  simp only[zS] at h;split at h
  .rename_i w hw;split at h
   .rename_i q;have q:=az q;cases hl with
    |cons a1 a2=>have e:=EO h0 hw a1;obtain⟨m,b1,b2,b3⟩:=vw h0 h a2;have e2:Nat.sub (Nat.succ o) w=o+1 - w:=rfl;refine⟨m,b1,by omega,fun i c k=>b3 i c ?_⟩;exact CA.tail (w:=w) (by rw[<- e];exact a1) (by rw[show w+(Nat.sub (Nat.succ o) w+i)=o+1+i by omega];exact k)
   .cases h
  .cases h
theorem vz (h0:Z.ints[0]?=some 0):∀ {l:List A} {s n:Nat} {r:List A},zT l s=some r->gp Z l n->gp Z r s/\s<=n/\∀ i c,i<s->CA Z l i c->CA Z r i c
 |l,0,n,r,h,hl=>by
  have:r=[]:=by cases l<;>simpa [zT] using h.symm
  subst this;exact⟨.nil,by omega,fun i c k=>by omega⟩
 |[],s+1,n,r,h,hl=>by simp[zT] at h
 |a :: l,s+1,n,r,h,hl=>by
  simp only[zT] at h;split at h
  .rename_i w hw;split at h
   .rename_i q;have q:=az q;split at h
    .rename_i r' hr;cases h;cases hl with
     |cons a1 a2=>
      have e:=EO h0 hw a1;rw[e] at a1;obtain⟨b1,b2,b3⟩:=vz h0 hr a2;have e2:Nat.sub (Nat.succ s) w=s+1 - w:=rfl;refine⟨?_,by omega,fun i c k hc=>?_⟩;·have:=gp.cons a1 b1;rw[show w+Nat.sub (Nat.succ s) w=s+1 by omega] at this;exact this
      .by_cases q2:w<=i;·obtain⟨j,rfl⟩:=bI q2;exact .skip a1 (b3 j c (by omega) (CA.tail a1 hc))
       .cases hc with
        |here p q=>exact .here p q
        |skip h k=>have:=a1.fn h;omega
        |row h j g q r=>exact .row h j g q r
        |foc h g j i' q p r=>exact .foc h g j i' q p r
    .cases h
   .cases h
  .cases h
theorem CA.kF {l r:List A}{i:Nat}{c:V}(h:CA Z l i c):CA Z (l++r) i c:=by
 match h with
 |.here p q=>exact .here p q
 |.skip q k=>exact .skip q (CA.kF k)
 |.row a b g d e=>exact .row a b g d e
 |.foc a b x d e f g=>exact .foc a b x d e f g
theorem CA.mw (hl:gp Z l n)(h:CA Z r i c):CA Z (l++r) (n+i) c:=by
 induction hl with
 |nil=>rw[aI];exact h
 |cons a _ ih=>rw[bA];exact .skip a ih
theorem gp.append {m:Nat}(hl:gp Z l n)(h:gp Z r m):gp Z (l++r) (n+m):=by
 induction hl with
 |nil=>rw[aI];exact h
 |cons a _ ih=>rw[bA];exact .cons a ih
theorem BD (h0:Z.ints[0]?=some 0):∀ {l:List A} {n:Nat},N8 l=some n->gp Z l n
 |[],_,h=>by cases h;exact .nil
 |a :: l,n,h=>by
  simp only[N8] at h;split at h
  .rename_i w m hw hm;cases h;split at hw;·cases hw
   .rename_i ht;exact .cons (LB h0 hw ht) (BD h0 hm)
  .cases h
theorem BF (h0:Z.ints[0]?=some 0){new:List A}{o:Nat}(h:N9 l o new=some r)(hl:gp Z l n):∃ w,gp Z new w/\o+w<=n/\gp Z r n/\(∀ i c,i<w->CA Z new i c->CA Z r (o+i) c)/\∀ i c,¬ (o<=i/\i<o+w)->CA Z l i c->CA Z r i c:=by
 unfold N9 at h;split at h
 .rename_i p w hp hw;split at h
  .rename_i d hd;cases h;obtain⟨a1,a2,a3⟩:=vz h0 hp hl;obtain⟨m,b1,b2,b3⟩:=vw h0 hd hl;have b2:n=o+w+m:=b2;have c1:=BD h0 hw;refine⟨w,c1,by omega,?_,fun i c hi hc=>?_,fun i c hi hc=>?_⟩;·rw[b2];exact(a1.append c1).append b1
   .exact((CA.mw a1 hc)).kF
   .by_cases q:i<o;·exact((a3 i c q hc).kF).kF
    .obtain⟨j,rfl⟩:=bI (show o+w<=i by omega);have:=b3 j c hc;exact CA.mw (a1.append c1) this
  .cases h
 .cases h
end
structure CR (Z:NV)(l:List A)(n:Nat)(pat:List V)(tr:T V):Prop where
 len:gp Z l n
 all:∀ i,i<n->(cell n pat tr i).isSome=true
 at':∀ i c,cell n pat tr i=some c->CA Z l i c
theorem CR.mono {Z Z':NV}(h:Z.le Z'){l:List A}{n:Nat}{pat:List V}{tr:T V}(k:CR Z l n pat tr):CR Z' l n pat tr:=⟨k.len.mono h,k.all,fun i c q=>(k.at' i c q).mono h⟩
theorem CR.ag {Z:NV}{l:List A}{n:Nat}{pat:List V}{tr:T V}(k:CR Z l n pat tr):AV Z (.ag l) (.agg n pat tr):=.ag k.len k.all k.at'
theorem AV.cr {v:V}(h:AV Z (.ag l) v):∃ n pat tr,v=.agg n pat tr/\CR Z l n pat tr:=by
 cases h with
 |ag a b c=>exact⟨_,_,_,rfl,a,b,c⟩
theorem CR.get (k:CR Z l n pat tr)(h:i<n):∃ c,cell n pat tr i=some c/\CA Z l i c:=by have:=k.all i h;obtain⟨c,hc⟩:=bu.1 this;exact⟨c,hc,k.at' i c hc⟩
theorem fj {n:Nat}{pat:List V}{tr:T V}:∀ (k i:Nat),(∀ j,j<k->(cell n pat tr (i+j)).isSome=true)->∃ l,fC n pat tr i k=some l
 |0,i,_=>⟨[],rfl⟩
 |k+1,i,h=>by
  have h1:=h 0 (by omega);obtain⟨c,hc⟩:=bu.1 h1;obtain⟨l,hl⟩:=fj (n:=n) (pat:=pat) (tr:=tr) k (i+1) fun j hj=>by have:=h (j+1) (by omega);rw[show i+(j+1)=i+1+j by omega] at this;exact this
  refine⟨c :: l,?_⟩;rw[bX] at hc;simp only[fC,hc,hl]
theorem jY (l:List V)(h:i<l.length):cell l.length l .leaf i=l[i]?:=by unfold cell;rw[show Nat.blt i l.length=true from aH h];simp only[T.eR,yH,jb,ah h]
theorem ur (l:List V)(h:i<l.length):cell l.length [] (T.ofList some l.length l) i=l[i]?:=by unfold cell;rw[show Nat.blt i l.length=true from aH h];simp only[T.kA _ _ _ _ (aF _),ah h,Option.bind_some]
theorem Kn (l:List V):∃ pat tr,mkA l=.agg l.length pat tr/\∀ i,i<l.length->cell l.length pat tr i=l[i]?:=by
 unfold mkA;split;·exact⟨_,_,rfl,fun i h=>jY l h⟩
 .exact⟨_,_,rfl,fun i h=>ur l h⟩
theorem xw (e:Option TypeId)(l:List V):∃ pat tr,mkO e l=.cells e l.length pat tr/\∀ i,i<l.length->cell l.length pat tr i=l[i]?:=by
 unfold mkO;split;·exact⟨_,_,rfl,fun i h=>jY l h⟩
 .exact⟨_,_,rfl,fun i h=>ur l h⟩
theorem CR.vA {vs:List V}(hl:gp Z l vs.length)(hc:∀ i,i<vs.length->cell vs.length pat tr i=vs[i]?)(h:∀ i v,vs[i]?=some v->CA Z l i v):CR Z l vs.length pat tr:=
 ⟨hl,fun i hi=>by rw[hc i hi,ah hi];rfl,fun i c q=>h i c (by rw[<- hc i (eT q)];exact q)⟩
theorem iC (h0:Z.ints[0]?=some 0){agg:Bool}{size:Nat}{o:Nat}(h:kG agg size l o=some a)(k:CR Z l n pat tr):∃ v,Ev.partAt agg size n pat tr o=some v/\AV Z a v:=by
 unfold kG at h;split at h;·cases h
 rename_i r hr;obtain⟨m,d1,d2,d3⟩:=vw h0 hr k.len;split at h
 .split at h
  .rename_i x rest;split at h
   .rename_i hp;cases h;have:0<m:=by
     cases d1 with
     |cons q1 q2=>have:=q1.fn (eZ hp);omega
    obtain⟨c,c1,c2⟩:=k.get (show o<n by omega);exact⟨c,c1,(d3 0 c (by rw[bX];exact c2)).head hp⟩
   .cases h
  .cases h
 .split at h
  .rename_i c hc;cases h;obtain⟨t1,t2,t3⟩:=vz h0 hc d1;obtain⟨cs,hcs⟩:=fj (n:=n) (pat:=pat) (tr:=tr) size o fun j hj=>k.all _ (by omega);cases q:Nat.beq o 0&&Nat.beq size n with
   |true=>
    have e:Ev.partAt true size n pat tr o=some (.agg n pat tr):=by simp only[Ev.partAt,q]
    simp only[ae,T.beq_true] at q;obtain⟨rfl,rfl⟩:=q;exact⟨_,e,CR.ag ⟨t1,k.all,fun i x hx=>t3 i x (eT hx) (d3 i x (by rw[aI];exact k.at' i x hx))⟩⟩
   |false=>
    have e:Ev.partAt true size n pat tr o=some (mkA cs):=by simp only[Ev.partAt,q,hcs]
    obtain⟨g1,g2⟩:=eP hcs;obtain⟨p',t',e1,e2⟩:=Kn cs;refine⟨_,e,?_⟩;rw[e1];exact CR.ag (CR.vA (by rw[g1];exact t1) e2 fun i v hv=>by have hi:=(ai.1 hv).1;exact t3 i v (by omega) (d3 i v (k.at' _ _ (g2 i v hv))))
  .cases h
end Go.Ae
namespace Go.Ae
open Go.Ev
variable {Z:NV}{x a:A}{e:BE}{v w:V}{b c:Bool}{ty:Option TY}
theorem kQ (h0:Z.ints[0]?=some 0){k:IntKind}{e:LE}(h:toI x=some (k,e))(ha:AV Z x v):∃ z,v=.int k z/\Num Z e z:=by
 unfold toI at h;split at h;·cases h;cases ha;exact⟨_,rfl,eO h0 _⟩
 .cases h;cases ha with
  |i q=>exact⟨_,rfl,q⟩
 .cases h
theorem GZ {k:IntKind}{z:Int}(ha:AV Z x (.int k z)):∃ p,toI x=some p:=by
 cases ha with
 |k=>exact⟨_,rfl⟩
 |i=>exact⟨_,rfl⟩
theorem yq (h:toB x=some e)(ha:AV Z x v):∃ b,v=.bool b/\BV Z e b:=by
 unfold toB at h;split at h;·cases h;cases ha;exact⟨_,rfl,.lit _⟩
 .cases h;cases ha with
  |b q=>exact⟨_,rfl,q⟩
 .cases h
theorem wB (h:isS x=true)(ha:AV Z x v):∃ s,v=.str s:=by
 unfold isS at h;split at h;·cases ha;exact⟨_,rfl⟩
 .cases ha;exact⟨_,rfl⟩
 .cases h
theorem G1 {s:List UInt8}(ha:AV Z x (.str s)):isS x=true:=by cases ha<;>rfl
theorem CK {z:ZN}(hz:ZR Z z)(h0:Z.ints[0]?=some 0){s:List UInt8}(h:ES z x=true)(ha:AV Z x (.str s)):s.length<=500000000:=by
 cases ha with
 |k=>exact az h
 |s a b=>rename_i j x;have h:leQ z (x,0) (0,500000000)=true:=h;have:=eV hz h0 h ⟨_,b,rfl⟩ (eO h0 _);simp at this;omega
theorem qo {d:TypeDesc}(h:Oa d a=some b)(ha:AV Z a v):
  (match d,v with
    |.pointer _,.nilp=>b=true
    |.pointer _,.ptr _ _=>b=false
    |.slice _,.nils=>b=true
    |.slice _,.slice ..=>b=false
    |.map _ _,.nilm=>b=true
    |.map _ _,.map _=>b=false
    |.func ..,.nilf=>b=true
    |.func ..,.func ..=>b=false
    |.interface _,.nili=>b=true
    |.interface _,.iface _ _=>b=false
    |_,_=>False):=by
 unfold Oa at h;split at h<;>cases h<;>cases ha<;>rfl
theorem oB {G:Γ}{eq:TypeId->V->V->Option Bool}{n:Nat}{pat:List V}{tr:T V}{n':Nat}{pat':List V}{tr':T V}:∀ {fs:List Field},
  (∀ f,f∈fs->f.name ≠ "_"/\∃ ft a b r,G.ty f.type=some ft/\Ev.partAt ft.agg ft.size n pat tr f.offset=some a/\Ev.partAt ft.agg ft.size n' pat' tr' f.offset=some b/\eq f.type a b=some r) ->
  ∃ r,eqFields G eq n pat tr n' pat' tr' fs=some r
 |[],_=>⟨_,rfl⟩
 |f :: fs,h=>by
  obtain⟨h1,ft,a,b,r,h2,h3,h4,h5⟩:=h f (by simp);obtain⟨r',hr⟩:=oB (fs:=fs) fun g hg=>h g (aB _ hg);simp only[eqFields,h1,decide_false,h2,h3,h4,h5];cases r with
  |true=>exact⟨r',hr⟩
  |false=>exact⟨_,rfl⟩
theorem sL {eq:V->V->Option Bool}{agg:Bool}{s n:Nat}{pat:List V}{tr:T V}{n':Nat}{pat':List V}{tr':T V}{f:Nat->Option Bool}:∀ {k i:Nat},
  (∀ j,i<=j->j<i+k->∃ a b r,Ev.partAt agg s n pat tr (Nat.mul j s)=some a/\Ev.partAt agg s n' pat' tr' (Nat.mul j s)=some b/\eq a b=some r/\∀ c,f j=some c->c=r) ->
  ∃ r,nD eq agg s n pat tr n' pat' tr' i k=some r/\∀ c,ET f i k=some c->c=r
 |0,i,_=>⟨_,rfl,fun c h=>by cases h;rfl⟩
 |k+1,i,h=>by
  obtain⟨a,b,r,h1,h2,h3,h4⟩:=h i (by omega) (by omega);obtain⟨r',hr,hc⟩:=sL (f:=f) (k:=k) (i:=i+1) fun j hj hk=>h j (by omega) (by omega);simp only[nD,h1,h2,h3];cases r with
  |true=>
   refine⟨r',hr,fun c hcc=>?_⟩;unfold ET at hcc;split at hcc;·exact hc c hcc
   .rename_i x hx;exact absurd (by rw[hcc,h4 c hcc]) hx
  |false=>
   refine⟨_,rfl,fun c hcc=>?_⟩;unfold ET at hcc;split at hcc;·rename_i e;have:=h4 _ e;cases this
   .exact h4 c hcc
theorem Na (h0:Z.ints[0]?=some 0)(h:LH e=some c)(hb:BV Z e b):c=b:=by
 cases hb with
 |lit=>cases h;rfl
 |lt=>cases h
 |not=>cases h
 |@eq x y a a' k1 k2=>
  unfold LH at h;simp only at h;split at h;·rename_i q;cases h;simp only[ae,T.beq_true] at q;have e1:=eO h0 x.2;rw[show(0,x.2)=x from bQ q.1.symm rfl] at e1;have e2:=eO h0 y.2;rw[show(0,y.2)=y from bQ q.2.symm rfl] at e2;rw[k1.fn e1,k2.fn e2,kC]
  .cases h
theorem PA (h0:Z.ints[0]?=some 0){r:Option BE}(h:Ri (some r)=some c)(hb:∀ e,r=some e->BV Z e b):c=b:=by
 cases r with
 |none=>cases h
 |some e=>exact Na h0 h (hb e rfl)
theorem CM {d:TypeDesc}(h:uu d a=true)(ha:AV Z a v):∃ e,d=.slice e/\(v=.nils\/∃ b o n c,v=.slice b o n c):=by
 unfold uu at h;split at h
 .cases ha with
  |su=>exact⟨_,rfl,.inr ⟨_,_,_,_,rfl⟩⟩
  |su0=>exact⟨_,rfl,.inl rfl⟩
 .cases ha with
  |re=>exact⟨_,rfl,.inr ⟨_,_,_,_,rfl⟩⟩
  |re0=>exact⟨_,rfl,.inl rfl⟩
 .cases ha with
  |sn=>exact⟨_,rfl,.inr ⟨_,_,_,_,rfl⟩⟩
  |sn0=>exact⟨_,rfl,.inl rfl⟩
 .cases h
theorem JB {a b:BE}{x y:Bool}(ha:BV Z a x)(hb:BV Z b y)(h:LJ a b=some e):BV Z e (x == y):=by
 unfold LJ at h;split at h;·cases h;cases ha;simpa using hb
 .cases h;cases ha;have:=BV.not hb;simpa using this
 .split at h;·cases h;cases hb;simpa using ha
  .cases h;cases hb;have:=BV.not ha;simpa using this
  .cases h
theorem CO {G:Γ}{Z:NV}(h0:Z.ints[0]?=some 0):∀ {d:Nat} {t:TypeId} {x y:A} {r:Option BE},eqA G d t x y=some r->∀ {v w:V},AV Z x v->AV Z y w->∃ b,eqO G d t v w=some b/\(∀ e,r=some e->BV Z e b)/\Qc v w=false
 |0,_,_,_,_,h,_,_,_,_=>by cases h
 |d+1,t,x,y,r,h,v,w,hx,hy=>by
  have nil:∀ {ty:TY},G.ty t=some ty->(match Oa ty.desc x,Oa ty.desc y with
    |some true,some true=>match isIface ty.desc with
     |true=>none
     |false=>some (some (BE.lit true))
    |some true,some false=>some (some (.lit false))
    |some false,some true=>some (some (.lit false))
    |none,some true=>match uu ty.desc x with
     |true=>some none
     |false=>none
    |some true,none=>match uu ty.desc y with
     |true=>some none
     |false=>none
    |_,_=>none)=some r->∃ b,eqO G (d+1) t v w=some b/\(∀ e,r=some e->BV Z e b)/\Qc v w=false:=fun {ty} ht h=>by
   simp only[eqO,ht];generalize ty.desc=de at *;split at h
   .rename_i q1 q2;have k1:=qo q1 hx;have k2:=qo q2 hy;split at h;·cases h
    rename_i q3;cases h;cases de<;>cases v<;>simp only at k1<;>(try cases k1)<;>cases w<;>simp only at k2<;>(try cases k2)<;>first|exact⟨true,rfl,fun e he=>by cases he;exact .lit _,rfl⟩|cases q3
   .rename_i q1 q2;have k1:=qo q1 hx;have k2:=qo q2 hy;cases h;cases de<;>cases v<;>simp only at k1<;>(try cases k1)<;>cases w<;>simp only at k2<;>(try cases k2)<;>exact⟨false,rfl,fun e he=>by cases he;exact .lit _,rfl⟩
   .rename_i q1 q2;have k1:=qo q1 hx;have k2:=qo q2 hy;cases h;cases de<;>cases v<;>simp only at k1<;>(try cases k1)<;>cases w<;>simp only at k2<;>(try cases k2)<;>exact⟨false,rfl,fun e he=>by cases he;exact .lit _,rfl⟩
   .rename_i q1 q2;split at h
    .rename_i q3;cases h;obtain⟨e,rfl,hv⟩:=CM q3 hx;have k2:=qo q2 hy;cases w<;>simp only at k2<;>(try cases k2);rcases hv with rfl|⟨b,o,n,c,rfl⟩
     .exact⟨true,rfl,(fun e he=>nomatch he),rfl⟩
     .exact⟨false,rfl,(fun e he=>nomatch he),rfl⟩
    .cases h
   .rename_i q1 q2;split at h
    .rename_i q3;cases h;obtain⟨e,rfl,hv⟩:=CM q3 hy;have k1:=qo q1 hx;cases v<;>simp only at k1<;>(try cases k1);rcases hv with rfl|⟨b,o,n,c,rfl⟩
     .exact⟨true,rfl,(fun e he=>nomatch he),rfl⟩
     .exact⟨false,rfl,(fun e he=>nomatch he),rfl⟩
    .cases h
   .cases h
  simp only[eqA] at h;split at h;·cases h
  rename_i ty ht;split at h
  .rename_i hd;split at h;·rename_i q1 q2;cases h;obtain⟨a,rfl,k1⟩:=yq q1 hx;obtain⟨b,rfl,k2⟩:=yq q2 hy;exact⟨a == b,by simp only[eqO,ht,hd],(fun e he=>JB k1 k2 he),rfl⟩
   .cases h
  .rename_i hd;split at h
   .rename_i p q q1 q2;split at h;·rename_i q3;cases h;obtain⟨a,rfl,e1⟩:=kQ h0 (k:=p.1) (e:=p.2) q1 hx;obtain⟨b,rfl,e2⟩:=kQ h0 (k:=q.1) (e:=q.2) q2 hy;exact⟨ieq a b,by simp only[eqO,ht,hd,q3],fun e he=>by cases he;rw[kC];exact .eq e1 e2,rfl⟩
    .cases h
   .cases h
  .rename_i hd;split at h;·rename_i q;simp only[ae] at q;cases h;obtain⟨a,rfl⟩:=wB q.1 hx;obtain⟨b,rfl⟩:=wB q.2 hy;exact⟨a == b,by simp only[eqO,ht,hd],(fun e he=>nomatch he),rfl⟩
   .cases h
  .rename_i fs hd;split at h
   .rename_i l l';split at h
    .rename_i q;cases h;simp only[ae,bz] at q;obtain⟨n,pat,tr,rfl,c1⟩:=hx.cr;obtain⟨n',pat',tr',rfl,c2⟩:=hy.cr;obtain⟨b,hb⟩:=oB (G:=G) (eq:=eqO G d) (n:=n) (pat:=pat) (tr:=tr) (n':=n') (pat':=pat') (tr':=tr') (fs:=fs.toList) fun f hf=>by
      have k:=q.2 f hf;split at k;·cases k
      rename_i k1;split at k;·cases k
      rename_i ft k2;split at k;·rename_i a b k3 k4;obtain⟨v1,m1,m2⟩:=iC h0 k3 c1;obtain⟨v2,m3,m4⟩:=iC h0 k4 c2;obtain⟨r,hr⟩:=bu.1 k;obtain⟨b',hb',_⟩:=CO h0 hr m2 m4;exact⟨by simpa using k1,ft,v1,v2,b',k2,m1,m3,hb'⟩
      .cases k
     exact⟨b,by simp only[eqO,ht,hd,q.1,hb],(fun e he=>nomatch he),rfl⟩
    .cases h
   .cases h
  .rename_i len elem hd;split at h
   .rename_i l l';split at h
    .rename_i te g1 g2;split at h
     .rename_i q;simp only[bz,List.mem_range] at q;obtain⟨n,pat,tr,rfl,c1⟩:=hx.cr;obtain⟨n',pat',tr',rfl,c2⟩:=hy.cr;obtain⟨b,hb,hlit⟩:=sL (f:=fun i=>match kG te.agg te.size l (Nat.mul i te.size),kG te.agg te.size l' (Nat.mul i te.size) with
       |some a,some b=>Ri (eqA G d elem a b)
       |_,_=>none) (eq:=eqO G d elem) (agg:=te.agg) (s:=te.size) (n:=n) (pat:=pat) (tr:=tr) (n':=n') (pat':=pat') (tr':=tr') (k:=len) (i:=0) fun j _ hj=>by
       have k:=q j (by omega);split at k;·rename_i a b k3 k4;obtain⟨v1,m1,m2⟩:=iC h0 k3 c1;obtain⟨v2,m3,m4⟩:=iC h0 k4 c2;obtain⟨r,hr⟩:=bu.1 k;obtain⟨b',hb',hbe,_⟩:=CO h0 hr m2 m4;refine⟨v1,v2,b',m1,m3,hb',fun c hc=>?_⟩;simp only[k3,k4,hr] at hc;exact PA h0 hc hbe
       .cases k
      refine⟨b,by simp only[eqO,ht,hd,g1,g2,hb],fun e he=>?_,rfl⟩;split at h;·rename_i c hc;cases h;cases he;rw[hlit c hc];exact .lit _
      .cases h;cases he
     .cases h
    .cases h
   .cases h
  .exact nil ht h
section
variable {G:Γ}{J:AS}{K:A->AS->Bool}{Z:NV}
theorem Nb {op:BinOp}{t:TypeId}{y:A}(h:Rj G op t c x y J K=true)(hv:VR Z J)(hx:AV Z x v)(hy:AV Z y w):∃ r,Lk G op t c (some v) (some w)=some r/\Res Z J r K:=by
 unfold Rj at h;split at h
 .rename_i a b;cases hx;cases hy;unfold opt at h;split at h;·rename_i r hr;exact⟨r,hr,.now hv (.k r) h⟩
  .cases h
 rename_i nk;split at h
 .rename_i p q hp hq;obtain⟨a,rfl,ha⟩:=kQ hv.z0 (k:=p.1) (e:=p.2) hp hx;obtain⟨b,rfl,hb⟩:=kQ hv.z0 (k:=q.1) (e:=q.2) hq hy;split at h;·rename_i qs;obtain⟨r,h1,h2⟩:=FD h hv ha hb;refine⟨r,?_,h2⟩;cases op<;>first|exact h1|cases qs
  .rename_i qs;split at h;·rename_i qk;obtain⟨r,h1,h2⟩:=Ms h hv ha hb;refine⟨r,?_,h2⟩;cases op<;>first|(simp only[Lk,qk];exact h1)|cases qs
   .cases h
 .rename_i ni;have nint:∀ {k k':IntKind} {a b:Int},v=.int k a->w=.int k' b->False:=fun e1 e2=>by
   subst e1;subst e2;obtain⟨p,hp⟩:=GZ hx;obtain⟨q,hq⟩:=GZ hy;exact ni p q hp hq
  have nnil:v=.nili->w=.nili->False:=fun e1 e2=>by subst e1;subst e2;cases hx;cases hy;exact nk _ _ rfl rfl
  split at h
  .rename_i qs;simp only[ae] at qs;obtain⟨a,rfl⟩:=wB qs.1 hx;obtain⟨b,rfl⟩:=wB qs.2 hy;cases op<;>simp only[TN] at h;case add=>
    split at h;·rename_i q;simp only[ae] at q;have l1:=CK hv.zr hv.z0 q.1 hx;have l2:=CK hv.zr hv.z0 q.2 hy;refine⟨.str (a++b),?_,vM h hv _⟩;simp only[Lk,CY];rw[show Nat.ble (Nat.add a.length b.length) 1000000000=true from aH (by show a.length+b.length<=_;omega)]
    .cases h
   case eql=>exact⟨_,rfl,kL h hv _⟩
   case neq=>exact⟨_,rfl,kL h hv _⟩
   case lss=>exact⟨_,rfl,kL h hv _⟩
   case leq=>exact⟨_,rfl,kL h hv _⟩
   case gtr=>exact⟨_,rfl,kL h hv _⟩
   case geq=>exact⟨_,rfl,kL h hv _⟩
   all_goals cases h
  .rename_i qs;have nstr:∀ {a b:List UInt8},v=.str a->w=.str b->False:=fun e1 e2=>by
    subst e1;subst e2;rw[G1 hx,G1 hy] at qs;cases qs
   have red:∀ (o:BinOp),Lk G o t c (some v) (some w)=match o with
     |.eql=>match Qc v w,eqO G 8 t v w with
      |false,some b=>some (.bool b)
      |_,_=>none
     |.neq=>match eqO G 8 t v w with
      |some b=>some (.bool (!b))
      |none=>none
     |_=>none:=fun o=>by
    cases v<;>cases w<;>first|rfl|exact(nint rfl rfl).elim|exact(nnil rfl rfl).elim|exact(nstr rfl rfl).elim
   split at h
   .unfold opt at h;split at h
    .rename_i r hr;obtain⟨b,k1,k2,k3⟩:=CO hv.z0 hr hx hy;refine⟨.bool b,by rw[red];simp only[k1,k3],?_⟩;cases r with
     |some e=>exact .now hv (.b (k2 e rfl)) h
     |none=>exact kL h hv _
    .cases h
   .unfold opt at h;split at h
    .rename_i r hr;obtain⟨b,k1,k2,k3⟩:=CO hv.z0 hr hx hy;refine⟨.bool (!b),by rw[red];simp only[k1],?_⟩;cases r with
     |some e=>exact .now hv (.b (.not (k2 e rfl))) h
     |none=>exact kL h hv _
    .cases h
   .cases h
theorem PB {op:UnOp}(h:aUn op x J K=true)(hv:VR Z J)(hx:AV Z x v):∃ r,pUn op (some v)=some r/\Res Z J r K:=by
 unfold aUn at h;split at h
 .cases hx;unfold opt at h;split at h;·rename_i r hr;exact⟨r,hr,.now hv (.k r) h⟩
  .cases h
 .cases hx with
  |b hb=>
   split at h;·exact⟨_,rfl,.now hv (.b (.not hb)) h⟩
   .cases h
 .cases hx with
  |i hn=>
   split at h;·exact⟨_,rfl,fZ h hv (Ew _ _)⟩
   .exact⟨_,rfl,fZ h hv (Ew _ _)⟩
   .cases h
 .cases h
theorem JC {s d:Option TY}(h:LK s d x J K=true)(hv:VR Z J)(hx:AV Z x v):∃ r,AY s d (some v)=some r/\Res Z J r K:=by
 unfold LK at h;split at h;case h_2=>cases h
 rename_i s d;split at h
 .rename_i p hp;obtain⟨z,rfl,hz⟩:=kQ hv.z0 (k:=p.1) (e:=p.2) hp hx;split at h;·rename_i k hk;exact⟨.int k (wr k z),by simp only[AY,hk],xM h hv hz⟩
  .cases h
 .split at h;·rename_i q1 q2;obtain⟨l,rfl⟩:=wB q1 hx;exact⟨.str l,by simp only[AY,q2],.now hv hx h⟩
  .cases h
theorem G2 {f:Nat}(h:EU G ty x f=some a)(hv:VR Z J)(hx:AV Z x v):∃ r,yJ G ty (some v) f=some r/\AV Z a r:=by
 unfold EU at h;split at h;case h_2=>cases h
 rename_i ty l;obtain⟨n,pat,tr,rfl,cr⟩:=hx.cr;split at h;case h_2=>cases h
 rename_i fs hd;split at h;case h_2=>cases h
 rename_i fd hf;split at h;case h_2=>cases h
 rename_i ft hft;obtain⟨r,h1,h2⟩:=iC hv.z0 h cr;exact⟨r,by simp only[yJ,hd,hf,hft];exact h1,h2⟩
theorem wC {f:Nat}(h:my G ty x f=some a)(hx:AV Z x v):∃ r,kq G ty (some v) f=some r/\AV Z a r:=by
 unfold my at h;split at h;case h_2=>cases h
 rename_i ty U o;cases hx with
 |p hb ho=>
  split at h;case h_2=>cases h
  rename_i fs hd;split at h;case h_2=>cases h
  rename_i fd hf;split at h;case h_2=>cases h
  rename_i ft hft;split at h;case h_2=>cases h
  rename_i hz;cases h;refine⟨.ptr _ (Nat.add _ fd.offset),by simp only[kq,hd,hf,hft,hz];rfl,.p hb ?_⟩;obtain⟨m,m1,m2⟩:=ho;exact⟨m,m1,by show _+fd.offset=o.o+fd.offset+m * o.st;omega⟩
theorem Off.rU (h0:Z.ints[0]?=some 0){o o':Off}{i:LE}{size:Nat}(h:o.add i size=some o'){n k:Nat}(ho:pC Z o n)(hi:Num Z i k):pC Z o' (n+k * size):=by
 obtain⟨m,m1,m2⟩:=ho;unfold Off.add at h;split at h;·rename_i c q1 q2;rw[T.beq_true] at q1;cases h;have e:(k:Int)=Int.ofNat c:=hi.fn (by have:=eO h0 (Int.ofNat c);rw[show((0:Nat),Int.ofNat c)=i from bQ q1.symm q2.symm] at this;exact this);have e:k=c:=Int.ofNat.inj e;subst e;exact⟨m,m1,by show _=o.o+k * size+m * o.st;omega⟩
 .split at h;·rename_i q;rw[T.beq_true] at q;cases h;exact⟨k,fun _=>hi,by rw[m2,q];simp⟩
  .split at h
   .rename_i w q1 q2;simp only[ae,T.beq_true] at q1;cases h;have:o.st≠0:=by
     rename_i q3 _ _;intro e;rw[e] at q3;cases q3
    have e:(m:Int)=Int.ofNat w:=(m1 this).fn (by have:=eO h0 (Int.ofNat w);rw[show((0:Nat),Int.ofNat w)=o.e from bQ q1.2.symm q2.symm] at this;exact this);have e:m=w:=Int.ofNat.inj e;subst e;refine⟨k+m,fun _=>?_,?_⟩;·have:=hi.plus (Int.ofNat m);simpa using this
    .show _=o.o+(k+m) * size;rw[m2,q1.1,bH];omega
   .cases h
theorem pE:∀ {m i:Nat} {e:LE} {J:AS} {K:Nat->AS->Bool},LM m i e J K=true->∀ {Z:NV},VR Z J->∀ {k:Nat},Num Z e k->i<=k->k<i+m->∃ J',Up Z J Z J'/\K k J'=true
 |0,i,e,J,K,h,Z,hv,k,hn,h1,h2=>by omega
 |m+1,i,e,J,K,h,Z,hv,k,hn,h1,h2=>by
  obtain⟨J',u,hk⟩:=iu h hv (.eq hn (eO hv.z0 (Int.ofNat i)));by_cases q:k=i;·subst q;simp only[aN,decide_true] at hk;exact⟨J',u,hk⟩
  .have:¬ ((k:Int)=Int.ofNat i):=fun e=>q (Int.ofNat.inj e);simp only[this,decide_false] at hk;obtain⟨J2,u2,hk2⟩:=pE hk u.vr hn (by omega) (by omega);exact⟨J2,u.trans u2,hk2⟩
theorem DW {z:Int}{n:Nat}(h1:0<=z)(h2:z<n):∃ k:Nat,z=k/\k<n/\idx z n=some k:=by obtain⟨k,rfl⟩:=cj h1;refine⟨k,rfl,by omega,?_⟩;show idx (Int.ofNat k) n=some k;simp only[idx];rw[show Nat.blt k n=true from aH (by omega)]
theorem wD {ix:A}(h:pb G ty x ix J K=true)(hv:VR Z J)(hx:AV Z x v)(hi:AV Z ix w):∃ r,gY G ty (some v) (some w)=some r/\Res Z J r K:=by
 unfold pb at h;split at h;case h_2=>cases h
 rename_i ty p hp;obtain⟨z,rfl,hz⟩:=kQ hv.z0 (k:=p.1) (e:=p.2) hp hi;split at h
 .rename_i len elem U o hd;cases hx with
  |p hb ho=>
   split at h;case h_2=>cases h
   rename_i te q hte;simp only[ae] at q;have z1:=eV hv.zr hv.z0 q.1 (eO hv.z0 _) hz;have z2:=eV hv.zr hv.z0 q.2 (hz.plus 1) (eO hv.z0 _);obtain⟨k,rfl,k1,k2⟩:=DW (n:=len) z1 (by simp only[aN] at z2;omega);refine⟨.ptr _ (Nat.add _ (Nat.mul k te.size)),by simp only[gY,hd,k2,hte];rfl,?_⟩;split at h;·obtain⟨J',u,hk⟩:=pE h hv hz (by omega) (by omega);refine⟨Z,J',_,u,.p hb ?_,hk⟩;obtain⟨m,m1,m2⟩:=ho;exact⟨m,m1,by show _+k * te.size=o.o+k * te.size+m * o.st;omega⟩
   .unfold opt at h;split at h;·rename_i o' ho';exact .now hv (.p hb (Off.rU hv.z0 ho' ho hz)) h
    .cases h
 .rename_i elem U o n c hd;cases hx with
  |sl hb ho hn hc=>
   rename_i len cap;split at h;case h_2=>cases h
   rename_i te q hte;simp only[ae] at q;have z1:=eV hv.zr hv.z0 q.1 (eO hv.z0 _) hz;have z2:=eV hv.zr hv.z0 q.2 (hz.plus 1) hn;obtain⟨k,rfl,k1,k2⟩:=DW (n:=len) z1 (by omega);refine⟨.ptr _ (Nat.add _ (Nat.mul k te.size)),by simp only[gY,hd,k2,hte];rfl,?_⟩;split at h
   .rename_i cn hcn;have hln:len<=cn:=by
     unfold OH at hcn;split at hcn
     .rename_i q1 q2 q3;split at hcn;·cases hcn;rw[T.beq_true] at q1;have e:n=(0,Int.ofNat cn):=bQ q1 q2;rw[e] at hn;have:=(eO hv.z0 (Int.ofNat cn)).fn hn;simp only[aN] at this;omega
      .cases hcn
     .split at hcn;·rename_i q;cases hcn;simp only[ae] at q;have:=eV hv.zr hv.z0 q.1 hn (eO hv.z0 _);omega
      .cases hcn
     .cases hcn
    obtain⟨J',u,hk⟩:=pE h hv hz (by omega) (by omega);refine⟨Z,J',_,u,.p hb ?_,hk⟩;obtain⟨m,m1,m2⟩:=ho;exact⟨m,m1,by show _+k * te.size=o.o+k * te.size+m * o.st;omega⟩
   .unfold opt at h;split at h;·rename_i o' ho';exact .now hv (.p hb (Off.rU hv.z0 ho' ho hz)) h
    .cases h
 .rename_i elem U w N n hd;cases hx with
  |su hb hN hn ho hl hc=>
   rename_i b off len cnt mm cap;split at h;case h_2=>cases h
   rename_i te q hte;simp only[ae] at q;have z1:=eV hv.zr hv.z0 q.1 (eO hv.z0 _) hz;have z2:=eV hv.zr hv.z0 q.2 (hz.plus 1) hn;obtain⟨k,rfl,k1,k2⟩:=DW (n:=len) z1 (by omega);split at h;case h_2=>cases h
   rename_i qw;rw[T.beq_true] at qw;refine⟨.ptr _ (Nat.add _ (Nat.mul k te.size)),by simp only[gY,hd,k2,hte];rfl,?_⟩;obtain⟨Z',J',e,u,hn',_,_,hk⟩:=fM h hv ((mm+k:Nat):Int) (fun e he=>by
    simp only[aq,aA,or_false] at he;subst he;exact⟨_,eO hv.z0 _,by omega⟩) (fun e he=>by
    simp only[aq,aA,or_false] at he;subst he;exact⟨_,hN.plus (-1),by omega⟩)
   refine⟨Z',J',_,u,.p (u.le.b hb) ⟨mm+k,fun _=>hn',?_⟩,hk⟩;show off+k * te.size=0+(mm+k) * w;rw[ho,qw,bH];omega
  |su0 hn=>
   split at h;case h_2=>cases h
   rename_i te q hte;simp only[ae] at q;have z1:=eV hv.zr hv.z0 q.1 (eO hv.z0 _) hz;have z2:=eV hv.zr hv.z0 q.2 (hz.plus 1) hn;omega
 .rename_i elem b o len cap hd;cases hx;split at h;case h_2=>cases h
  rename_i te q hte;simp only[ae] at q;have z1:=eV hv.zr hv.z0 q.1 (eO hv.z0 _) hz;have z2:=eV hv.zr hv.z0 q.2 (hz.plus 1) (eO hv.z0 _);obtain⟨k,rfl,k1,k2⟩:=DW (n:=len) z1 (by simp only[aN] at z2;omega);obtain⟨J',u,hk⟩:=pE h hv hz (by omega) (by omega);exact⟨.ptr _ (Nat.add _ (Nat.mul k te.size)),by simp only[gY,hd,k2,hte],Z,J',_,u,.k _,hk⟩
 .cases h
theorem KZ {z:ZN}(hz:ZR Z z)(h0:Z.ints[0]?=some 0){U w:Nat}{o:Off}{n N:LE}{c:BG}(h:QH z o n c w N=true)(ha:AV Z (.sl U o n c) v):AV Z (.su U w N n) v:=by
 unfold QH at h;simp only[ae,T.beq_true] at h;obtain⟨⟨⟨⟨h1,h2⟩,h3⟩,h4⟩,h5⟩:=h;cases ha with
 |sl hb ho hn hc=>
  rename_i b off len cap;obtain⟨m,m1,m2⟩:=ho;obtain⟨bN,hN,hle⟩:=mU hz h0 h4 (hn.plus _);have hw:0<w:=az h1;have h3:o.o % w=0:=h3;obtain⟨q,hq⟩:∃ q,q=o.o / w:=⟨_,rfl⟩;have hle2:(len:Int)+(q:Int)<=bN:=by rw[hq];exact hle
  clear hle;have hoff:off=q * w:=by have:=dH o.o w;rw[m2,h2,hq,aY (o.o / w)];omega
  have h9:0<=bN:=by omega
  refine .su (cnt:=bN.toNat) (m:=q) hb (by rw[Int.toNat_of_nonneg h9];exact hN) hn hoff (by omega) ?_;split at h5
  .cases hc with
   |kn hc=>have:=eV hz h0 h5 hn hc;show _<=_;omega
  .simp only[ae,T.beq_true] at h5;cases hc with
   |al hc=>have:=eV hz h0 h5.1 hn hc;exact⟨by omega,h5.2⟩
theorem G3 {ix:A}(h:EW G ty x ix J K=true)(hv:VR Z J)(hx:AV Z x v)(hi:AV Z ix w):∃ r,oE G ty (some v) (some w)=some r/\Res Z J r K:=by
 have byte:∀ (b:UInt8),rE .u8<=Int.ofNat b.toNat/\Int.ofNat b.toNat<=pW .u8:=fun b=>by have:=b.toNat_lt;simp only[rE,pW,aN];omega
 unfold EW at h;split at h;case h_2=>cases h
 rename_i ty p hp;obtain⟨z,rfl,hz⟩:=kQ hv.z0 (k:=p.1) (e:=p.2) hp hi;split at h
 .rename_i len elem l hd;obtain⟨n,pat,tr,rfl,cr⟩:=hx.cr;split at h;case h_2=>cases h
  rename_i te q hte;simp only[ae] at q;have z1:=eV hv.zr hv.z0 q.1.1 (eO hv.z0 _) hz;have z2:=eV hv.zr hv.z0 q.1.2 (hz.plus 1) (eO hv.z0 _);obtain⟨k,rfl,k1,k2⟩:=DW (n:=len) z1 (by simp only[aN] at z2;omega);obtain⟨J',u,hk⟩:=pE h hv hz (by omega) (by omega);unfold opt at hk;split at hk;·rename_i a ha;obtain⟨r,r1,r2⟩:=iC hv.z0 ha cr;exact⟨r,by simp only[oE,hd,k2,hte];exact r1,Z,J',a,u,r2,hk⟩
  .cases hk
 .rename_i j x hd;cases hx with
  |s hs hl=>
   rename_i s;split at h;case h_2=>cases h
   rename_i q;simp only[ae] at q;have z1:=eV hv.zr hv.z0 q.1 (eO hv.z0 _) hz;have z2:=eV hv.zr hv.z0 q.2 (hz.plus 1) ⟨_,hl,rfl⟩;obtain⟨k,rfl⟩:=cj z1;have hk:k<s.length:=by simp at z2;omega
   refine⟨.int .u8 (Int.ofNat (s[k]).toNat),?_,fZ h hv (byte _)⟩;show oE G (some ty) (some (.str s)) (some (.int p.1 (Int.ofNat k)))=_;simp only[oE,hd,jb,ah hk]
 .rename_i s hd;cases hx;split at h;case h_2=>cases h
  rename_i q;simp only[ae] at q;have z1:=eV hv.zr hv.z0 q.1 (eO hv.z0 _) hz;have z2:=eV hv.zr hv.z0 q.2 (hz.plus 1) (eO hv.z0 _);obtain⟨k,rfl⟩:=cj z1;have hk:k<s.length:=by simp only[aN] at z2;omega
  refine⟨.int .u8 (Int.ofNat (s[k]).toNat),?_,fZ h hv (byte _)⟩;show oE G (some ty) (some (.str s)) (some (.int p.1 (Int.ofNat k)))=_;simp only[oE,hd,jb,ah hk]
 .cases h
end
end Go.Ae
namespace Go.Ae
open Go.Ev
variable {e:LE}{Z:NV}{c:V}
theorem nu {a b:V}(h:rI a b=true):a=b:=by
 cases a<;>cases b<;>simp only[rI] at h<;>first|cases h;done|rfl|(rw[eq_of_beq h];done)|skip
 .simp only[ae,decide_eq_true_eq,iT] at h;rw[h.1,h.2]
 .simp only[ae,T.beq_true] at h;rw[h.1,h.2]
 .split at h;·simp only[ae,T.beq_true] at h;rw[h.1.1.1,h.1.1.2,h.1.2,h.2]
  .cases h
section
variable {Z:NV}{z:ZN}(hz:ZR Z z)(h0:Z.ints[0]?=some 0)
theorem Cg (hz:ZR Z z)(h0:Z.ints[0]?=some 0){lo:Option LE}{x:Int}(hn:Num Z e x):Low Z (BH z lo e) x/\∀ y,Low Z lo y->Low Z (BH z lo e) y:=by
 unfold BH;split
 .split;·rename_i q;exact⟨fun e' he=>by cases he;exact yp hz h0 q hn,fun y hy=>hy⟩
  .exact⟨(fun _ h=>nomatch h),fun _ _ _ h=>nomatch h⟩
 .exact⟨(fun _ h=>nomatch h),fun _ _ _ h=>nomatch h⟩
theorem Ch (hz:ZR Z z)(h0:Z.ints[0]?=some 0){lo:Option LE}{x:Int}(hn:Num Z e x):ug Z (BI z lo e) x/\∀ y,ug Z lo y->ug Z (BI z lo e) y:=by
 unfold BI;split
 .split;·rename_i q;exact⟨fun e' he=>by cases he;exact mU hz h0 q hn,fun y hy=>hy⟩
  .exact⟨(fun _ h=>nomatch h),fun _ _ _ h=>nomatch h⟩
 .exact⟨(fun _ h=>nomatch h),fun _ _ _ h=>nomatch h⟩
theorem FW (hz:ZR Z z)(h0:Z.ints[0]?=some 0){k k':EK}{a:A}(h:Dm z k a=some k'){v:V}(ha:AV Z a v):KV Z k' v/\∀ w,KV Z k w->KV Z k' w:=by
 unfold Dm at h;split at h
 .split at h
  .rename_i p hp;obtain⟨x,rfl,hx⟩:=kQ h0 (k:=p.1) (e:=p.2) hp ha;split at h
   .rename_i q;simp only[ae,decide_eq_true_eq] at q;cases h;have r:=uh hz h0 q.2 hx;obtain⟨rfl,q⟩:=q;refine⟨.int r (Cg hz h0 hx).1 (Ch hz h0 hx).1,fun w hw=>?_⟩;cases hw with
    |int r l u=>exact .int r ((Cg hz h0 hx).2 _ l) ((Ch hz h0 hx).2 _ u)
   .cases h
  .cases h
 .split at h;·rename_i q;cases h;obtain⟨b,rfl,_⟩:=yq q ha;exact⟨.bool b,fun w hw=>hw⟩
  .cases h
 .split at h;·rename_i q;cases h;obtain⟨b,rfl⟩:=wB q ha;exact⟨.str b,fun w hw=>hw⟩
  .cases h
 .rename_i u;split at h
  .rename_i q;cases h;split at q;·cases ha;have:=nu q;subst this;exact⟨.cst _,fun w hw=>hw⟩
   .cases q
  .split at h
   .rename_i k n;split at h
    .rename_i p hp;obtain⟨x,rfl,hx⟩:=kQ h0 (k:=p.1) (e:=p.2) hp ha;split at h
     .rename_i q;simp only[ae,decide_eq_true_eq] at q;cases h;have r:=uh hz h0 q.1.2 hx;have r2:=uh hz h0 q.2 (eO h0 _);obtain⟨⟨rfl,_⟩,_⟩:=q;refine⟨.int r ?_ ?_,fun w hw=>?_⟩
      .intro e he;split at he;·rename_i g;cases he;exact⟨_,eO h0 _,eV hz h0 g (eO h0 _) hx⟩
       .split at he;·cases he;exact⟨_,hx,bY _⟩
        .cases he
      .intro e he;split at he;·rename_i g;cases he;exact⟨_,eO h0 _,eV hz h0 g hx (eO h0 _)⟩
       .split at he;·cases he;exact⟨_,hx,bY _⟩
        .cases he
      .cases hw;refine .int r2 ?_ ?_
       .intro e he;split at he;·cases he;exact⟨_,eO h0 _,bY _⟩
        .split at he;·rename_i g;cases he;exact⟨_,hx,eV hz h0 g hx (eO h0 _)⟩
         .cases he
       .intro e he;split at he;·cases he;exact⟨_,eO h0 _,bY _⟩
        .split at he;·rename_i g;cases he;exact⟨_,hx,eV hz h0 g (eO h0 _) hx⟩
         .cases he
     .cases h
    .cases h
   .split at h;·rename_i q;cases h;obtain⟨b,rfl,_⟩:=yq q ha;exact⟨.bool b,fun w hw=>by cases hw;exact .bool _⟩
    .cases h
   .split at h;·rename_i q;cases h;obtain⟨b,rfl⟩:=wB q ha;exact⟨.str b,fun w hw=>by cases hw;exact .str _⟩
    .cases h
   .cases h
 .cases h
 .split at h
  .rename_i n _ j x;split at h
   .rename_i q;cases h;cases ha with
    |s a b=>have:=eV hz h0 q ⟨_,b,rfl⟩ (eO h0 _);exact⟨.stb (by simpa using this),fun w hw=>hw⟩
   .cases h
  .cases h
theorem vV (hz:ZR Z z)(h0:Z.ints[0]?=some 0):∀ {ks ks':List EK} {as:List A},tV z ks as=some ks'->(∀ (i:Nat) (a:A),as[i]?=some a->∃ v,AV Z a v)->ks'.length=ks.length/\as.length=ks.length/\∀ (i:Nat) (k:EK),ks[i]?=some k->∃ k',ks'[i]?=some k'/\(∀ w,KV Z k w->KV Z k' w)/\∀ a v,as[i]?=some a->AV Z a v->KV Z k' v
 |[],ks',as,h,he=>by
  cases as with
  |nil=>cases h;exact⟨rfl,rfl,fun i k h=>by simp at h⟩
  |cons=>cases h
 |k :: ks,ks',as,h,he=>by
  cases as with
  |nil=>cases h
  |cons a as=>
   simp only[tV] at h;split at h
   .rename_i k1 r h1 h2;cases h;obtain⟨l1,l2,l3⟩:=vV hz h0 h2 fun i a ha=>he (i+1) a (by simpa using ha);refine⟨by simp[l1],by simp[l2],fun i k' hk=>?_⟩;cases i with
    |zero=>
     simp at hk;subst hk;refine⟨k1,by simp,?_,fun a' v ha hv=>?_⟩;·intro w hw;obtain⟨v,hv⟩:=he 0 a rfl;exact(FW hz h0 h1 hv).2 w hw
     .simp at ha;subst ha;exact(FW hz h0 h1 hv).1
    |succ i=>obtain⟨k2,m1,m2,m3⟩:=l3 i k' (by simpa using hk);exact⟨k2,by simpa using m1,m2,fun a' v ha hv=>m3 a' v (by simpa using ha) hv⟩
   .cases h
end
theorem jH {a:A}(h:AV Z a c)(hc:c.scalar=true):plain a=true:=by
 cases h with
 |k=>cases c<;>first|rfl|(simp[V.scalar] at hc)
 |ag=>simp[V.scalar] at hc
 |tp=>simp[V.scalar] at hc
 |_=>rfl
theorem xT {k:EK}{J:AS}{K:A->AS->Bool}(h:uw k J K=true)(hv:VR Z J)(hk:KV Z k c):∃ Z' J' a,Up Z J Z' J'/\AV Z' a c/\plain a=true/\K a J'=true:=by
 cases hk with
 |int r l u=>
  obtain⟨Z',J',a,h1,h2,h3⟩:=nj h hv r (fun e he=>by
   rename_i lo hi z;cases lo with
   |none=>simp[BJ] at he
   |some x=>simp[BJ] at he;subst he;exact l _ rfl) (fun e he=>by
   rename_i lo hi z;cases hi with
   |none=>simp[BJ] at he
   |some x=>simp[BJ] at he;subst he;exact u _ rfl)
  exact⟨Z',J',a,h1,h2,jH h2 rfl,h3⟩
 |bool b=>obtain⟨Z',J',a,h1,h2,h3⟩:=kL h hv b;exact⟨Z',J',a,h1,h2,jH h2 rfl,h3⟩
 |str b=>obtain⟨Z',J',a,h1,h2,h3⟩:=vM h hv b;exact⟨Z',J',a,h1,h2,jH h2 rfl,h3⟩
 |cst v=>
  unfold uw at h;simp only at h;split at h;·rename_i q;exact⟨Z,J,_,.refl hv,.k _,q,h⟩
  .cases h
 |stb q=>obtain⟨Z',J',a,h1,h2,h3⟩:=I4 h hv _ q;exact⟨Z',J',a,h1,h2,jH h2 rfl,h3⟩
 |@re U s B _ _ len _ _ a b c=>
  obtain⟨Z',J',e,u,n,_,_,hk⟩:=fM (show pX [(0,0)] [B] J (fun e=>K (.re U s e))=true from h) hv (len:Int) (fun e he=>by
   simp only[aq,aA,or_false] at he;subst he;exact⟨_,eO hv.z0 _,da _⟩) (fun e he=>by
   simp only[aq,aA,or_false] at he;subst he;exact⟨_,b,Int.ofNat_le.2 c⟩)
  exact⟨Z',J',_,u,.re (a.mono u.le) n,rfl,hk⟩
 |@re0 U s B _ a b=>
  obtain⟨Z',J',e,u,n,_,_,hk⟩:=fM (show pX [(0,0)] [B] J (fun e=>K (.re U s e))=true from h) hv 0 (fun e he=>by
   simp only[aq,aA,or_false] at he;subst he;exact⟨_,eO hv.z0 _,bY _⟩) (fun e he=>by
   simp only[aq,aA,or_false] at he;subst he;exact⟨_,b,da _⟩)
  exact⟨Z',J',_,u,.re0 (a.mono u.le) n,rfl,hk⟩
theorem jo:∀ {ks:List EK} {J:AS} {K:List A->AS->Bool},rJ ks J K=true->∀ {Z:NV},VR Z J->∀ {cs:List V},cs.length=ks.length->(∀ (i:Nat) (k:EK) (c:V),ks[i]?=some k->cs[i]?=some c->KV Z k c) ->
  ∃ Z' J' as,Up Z J Z' J'/\as.length=ks.length/\(∀ (i:Nat) (a:A) (c:V),as[i]?=some a->cs[i]?=some c->plain a=true/\AV Z' a c)/\K as J'=true
 |[],J,K,h,Z,hv,cs,hl,hk=>⟨Z,J,[],.refl hv,rfl,(fun i a c h=>by simp at h),h⟩
 |k :: ks,J,K,h,Z,hv,cs,hl,hk=>by
  cases cs with
  |nil=>simp at hl
  |cons c cs=>
   obtain⟨Z1,J1,a,u1,a1,p1,k1⟩:=xT h hv (hk 0 k c rfl rfl);obtain⟨Z2,J2,as,u2,l2,a2,k2⟩:=jo k1 u1.vr (cs:=cs) (by simpa using hl) fun i k' c' h1 h2=>(hk (i+1) k' c' (by simpa using h1) (by simpa using h2)).mono u1.le;refine⟨Z2,J2,a :: as,u1.trans u2,by simp[l2],fun i a' c' h1 h2=>?_,k2⟩;cases i with
   |zero=>simp at h1 h2;subst h1;subst h2;exact⟨p1,a1.mono u2.le⟩
   |succ i=>exact a2 i a' c' (by simpa using h1) (by simpa using h2)
theorem gp.split {Z:NV}:∀ {l r:List A} {n:Nat},gp Z (l++r) n->∃ p m,gp Z l p/\gp Z r m/\n=p+m
 |[],r,n,h=>⟨0,n,.nil,h,by omega⟩
 |a :: l,r,n,h=>by
  cases h with
  |cons h1 h2=>obtain⟨p,m,q1,q2,q3⟩:=gp.split h2;exact⟨_,m,.cons h1 q1,q2,by omega⟩
theorem CA.split {Z:NV}{r:List A}:∀ {l:List A} {p i:Nat} {c:V},gp Z l p->CA Z (l++r) i c->(i<p/\CA Z l i c)\/(∃ j,i=p+j/\CA Z r j c)
 |[],p,i,c,hl,h=>by cases hl;exact .inr ⟨i,by omega,h⟩
 |a :: l,p,i,c,hl,h=>by
  cases hl with
  |cons h1 h2=>
   rename_i w n;by_cases q:w<=i
   .obtain⟨j,rfl⟩:=bI q;have h':CA Z (l++r) j c:=CA.tail h1 h;rcases CA.split h2 h' with⟨q1,q2⟩|⟨j',q1,q2⟩;·exact .inl ⟨by omega,.skip h1 q2⟩
    .exact .inr ⟨j',by omega,q2⟩
   .refine .inl ⟨by omega,?_⟩;cases h with
    |here p q=>exact .here p q
    |skip h k=>have:=h1.fn h;omega
    |row h j g q r=>exact .row h j g q r
    |foc h g j i' q' p r=>exact .foc h g j i' q' p r
theorem sj {Z:NV}(h0:Z.ints[0]?=some 0):∀ {l:List A} {j0 o j r n:Nat},rH l j0 o=some (j,r)->gp Z l n->∃ pre x post p,l=pre++x :: post/\j=j0+pre.length/\gp Z pre p/\o=p+r
 |[],_,_,_,_,_,h,_=>by cases h
 |a :: l,j0,o,j,r,n,h,hl=>by
  cases hl with
  |cons h1 h2=>
   simp only[rH] at h;split at h
   .split at h
    .rename_i w hw;have e:=EO h0 hw h1;split at h;·cases h;exact⟨[],_,l,0,rfl,rfl,.nil,by omega⟩
     .rename_i q;obtain⟨pre,x,post,p,e1,e2,e3,e4⟩:=sj h0 h h2;refine⟨_ :: pre,x,post,w+p,by rw[e1];rfl,by simp[e2];omega,.cons (by rw[<- e];exact h1) e3,?_⟩;have:¬ (o<w):=fun q'=>by rw[show Nat.blt o w=true from aH q'] at q;cases q
      have e5:Nat.sub o w=o - w:=rfl;omega
    .cases h;exact⟨[],_,l,0,rfl,rfl,.nil,by omega⟩
   .rename_i hne;split at h;·cases h
    .rename_i o;obtain⟨pre,x,post,p,e1,e2,e3,e4⟩:=sj h0 h h2;exact⟨a :: pre,x,post,1+p,by rw[e1];rfl,by simp[e2];omega,.cons (.one hne) e3,by omega⟩
theorem FX {α:Type}:∀ (pre:List α) (x y:α) (post:List α),Ob (pre++x :: post) pre.length y=pre++y :: post
 |[],_,_,_=>rfl
 |a :: pre,x,y,post=>by simp only[bM,aU,Ob,FX pre x y post]
theorem O7 {α:Type}:∀ (pre:List α) (x:α) (post:List α),nth (pre++x :: post) pre.length=some x:=fun pre x post=>by rw[jb];simp
theorem CA.elem {ks:List EK}{fe:LE}{as post:List A}{n m g:Nat}(h:CA Z (.rw ks e (some (fe,as)) :: post) (m * ks.length+g) c)(hm:Num Z fe m)(hlt:m<n)(hg:g<ks.length)(hw:WV Z (.rw ks e (some (fe,as))) (ks.length * n)):∃ a,as[g]?=some a/\plain a=true/\AV Z a c:=by
 have hk:0<ks.length:=by omega
 have h1:(m+1) * ks.length<=n * ks.length:=bD _ hlt;rw[bH,dS] at h1;have hi:m * ks.length+g<ks.length * n:=by rw[aY ks.length n];omega
 generalize e1:m * ks.length+g=i at h;cases h with
 |here p _=>cases p
 |skip q k=>have:=hw.fn q;omega
 |row a b d q r=>obtain⟨m',x,y⟩:=d _ _ rfl;have:=x.fn hm;have:m'=m:=Int.ofNat.inj this;subst this;refine absurd ?_ y;rw[<- e1,aY,eD hk,ep hg];omega
 |foc a b d i' q p r=>
  rename_i n' m' f a';have:=b.fn hm;have:m'=m:=Int.ofNat.inj this;subst this;have:f=g:=by omega
  subst this;exact⟨_,q,p,r⟩
def O8 (l:List A)(J:AS)(K:Nat->List EK->LE->LE->List A->Nat->AS->Bool)(Z:NV)(n:Nat)(pat:List V)(tr:T V)(x:Nat):Prop:=
 ∃ Z' J' pre post ks N i as f,∃ p m cnt:Nat,Up Z J Z' J'/\K pre.length ks N i as f J'=true/\(∀ y,Ob l pre.length y=pre++y :: post)/\gp Z' pre p/\x=p+m * ks.length+f/\f<ks.length/\as.length=ks.length/\Num Z' i m/\Num Z' N cnt/\m<cnt/\p+m * ks.length+ks.length<=n /\
  CR Z' (pre++.rw ks N (some (i,as)) :: post) n pat tr/\(∀ (g:Nat) (a:A),as[g]?=some a->plain a=true)
theorem Ci {l:List A}{o:Off}{J:AS}{K:Nat->List EK->LE->LE->List A->Nat->AS->Bool}(h:IB l o J K=true)(hv:VR Z J){n:Nat}{pat:List V}{tr:T V}(cr:CR Z l n pat tr){x:Nat}(ho:pC Z o x):O8 l J K Z n pat tr x:=by
 unfold IB at h;split at h;case h_2=>cases h
 rename_i j r hf;obtain⟨pre,y,post,p,e1,e2,hp,e4⟩:=sj hv.z0 hf cr.len;rw[aI] at e2;subst e2;rw[e1,O7] at h;subst e1;split at h;case h_2=>cases h
 rename_i ks N foc hy;cases hy;split at h;case h_2=>cases h
 rename_i q;simp only[ae,bf,T.beq_true] at q;have hk:0<ks.length:=az q.1;obtain⟨x0,x1,x2⟩:=ho;obtain⟨m,hm,hx⟩:∃ m:Nat,Num Z (jc o ks.length r) m/\x=p+m * ks.length+r % ks.length:=by
  have hr:=dH r ks.length;unfold jc;rcases q.2 with q2|⟨q2,q3⟩
  .rw[q2];refine⟨r / ks.length,eO hv.z0 _,?_⟩;rw[q2] at x2;rw[aY (r / ks.length)];omega
  .have hst:Nat.beq o.st 0=false:=by
    rw[q2];exact T.beq_false (by omega)
   rw[hst];refine⟨x0+r / ks.length,?_,?_⟩;·have:=(x1 (by omega)).plus (Int.ofNat (Nat.div r ks.length));exact this
   .rw[q2] at x2;rw[bH,aY (r / ks.length)];omega
 generalize jc o ks.length r=i at h hm;split at h;case h_2=>cases h
 rename_i ql;obtain⟨p',w',l1,l2,l3⟩:=cr.len.split;have:=l1.fn hp;subst this;cases l2 with
 |cons hw hpost=>
  rename_i w wp;cases hw with
  |one q=>exact absurd rfl (q _ _ _)
  |rw hN hfoc=>
   rename_i cnt;have hlt:m<cnt:=by have:=eV hv.zr hv.z0 ql (hm.plus 1) hN;show m<cnt;omega
   have hml:(m+1) * ks.length<=cnt * ks.length:=bD _ hlt;rw[bH,dS] at hml;have hcn:ks.length * cnt=cnt * ks.length:=aY _ _;have hcell:∀ g,g<ks.length->∃ c,cell n pat tr (p'+(m * ks.length+g))=some c/\CA Z (.rw ks N foc :: post) (m * ks.length+g) c:=fun g hg=>by
    obtain⟨c,c1,c2⟩:=cr.get (i:=p'+(m * ks.length+g)) (by omega);refine⟨c,c1,?_⟩;rcases CA.split l1 c2 with⟨q1,_⟩|⟨j',q1,q2⟩;·omega
    .have:j'=m * ks.length+g:=by omega
     subst this;exact q2
   have fin:∀ (Z':NV) (J':AS) (ks':List EK) (as:List A),Up Z J Z' J'->K pre.length ks' N i as (Nat.mod r ks.length) J'=true->ks'.length=ks.length->as.length=ks.length->(∀ (g:Nat) (a:A),as[g]?=some a->plain a=true/\∀ c,CA Z (.rw ks N foc :: post) (m * ks.length+g) c->cell n pat tr (p'+(m * ks.length+g))=some c->AV Z' a c) ->
     (∀ g k c,g<cnt * ks.length->g / ks.length≠m->ks'[g % ks.length]?=some k->CA Z (.rw ks N foc :: post) g c->KV Z' k c)->O8 (pre++.rw ks N foc :: post) J K Z n pat tr x:=fun Z' J' ks' as u hK lk la ha hks=>by
    refine⟨Z',J',pre,post,ks',N,i,as,r % ks.length,p',m,cnt,u,hK,fun y=>FX _ _ _ _,hp.mono u.le,by rw[lk];exact hx,by rw[lk];exact dD _ hk,by rw[lk];exact la,hm.mono u.le,hN.mono u.le,hlt,by rw[lk];omega,?_,fun g a hg=>(ha g a hg).1⟩;have hwr:WV Z' (.rw ks' N (some (i,as))) (ks.length * cnt):=by rw[<- lk];exact .rw (hN.mono u.le) fun fe as' e=>by cases e;exact⟨by rw[lk];exact la,m,hm.mono u.le,hlt⟩
    refine⟨?_,cr.all,fun g c hg=>?_⟩;·rw[l3];exact(l1.mono u.le).append (.cons hwr (hpost.mono u.le))
    .have hc:=cr.at' g c hg;rcases CA.split l1 hc with⟨q1,q2⟩|⟨j',q1,q2⟩
     .exact(q2.mono u.le).kF
     .rw[q1];refine CA.mw (l1.mono u.le) ?_;by_cases hj:j'<ks.length * cnt
      .by_cases hjm:j' / ks.length=m
       .have hg0:=dH j' ks.length;rw[hjm] at hg0;have hgl:=dD j' hk;have e5:j'=m * ks.length+j' % ks.length:=by rw[aY m];omega
        have hlt':j' % ks.length<as.length:=by rw[la];exact hgl
        have hget:=ah hlt';have hav:=(ha _ _ hget);have:=hav.2 c (by rw[<- e5];exact q2) (by rw[<- e5,<- q1];exact hg);rw[e5];have:=CA.foc (l:=post) (ks:=ks') (hN.mono u.le) (hm.mono u.le) hlt (f:=j' % ks.length) (by rw[lk];exact hgl) hget hav.1 this;rw[lk] at this;exact this
       .have hgl:=dD j' hk;obtain⟨k,hkk⟩:∃ k,ks'[j' % ks.length]?=some k:=⟨_,ah (by rw[lk];exact hgl)⟩;refine .row (hN.mono u.le) (by rw[lk];exact hj) (fun fe as' e=>by cases e;exact⟨m,hm.mono u.le,by rw[lk];exact hjm⟩) (k:=k) (by rw[lk];exact hkk) ?_;exact hks j' _ c (by omega) hjm hkk q2
      .obtain⟨j2,rfl⟩:=bI (show ks.length * cnt<=j' by omega);exact .skip hwr ((CA.tail (.rw hN hfoc) q2).mono u.le)
   have kinds:∀ g c,g<cnt * ks.length->(∀ fe as,foc=some (fe,as)->∃ m':Nat,Num Z fe m'/\g / ks.length≠m')->CA Z (.rw ks N foc :: post) g c->∃ k,ks[g % ks.length]?=some k/\KV Z k c:=fun g c hg hne hc=>by
    cases hc with
    |here p _=>cases p
    |skip q k=>have:=q.rwn hN;omega
    |row a b d q r=>exact⟨_,q,r⟩
    |foc a b d i' q p' r'=>rename_i fe as n2 m2 f2 a2;obtain⟨m3,y1,y2⟩:=hne _ _ rfl;have:=y1.fn b;have:m3=m2:=Int.ofNat.inj this;subst this;refine absurd ?_ y2;rw[aY,eD hk,ep i'];omega
   have divm:∀ g,g<ks.length->(m * ks.length+g) / ks.length=m/\(m * ks.length+g) % ks.length=g:=fun g hg=>by
    refine⟨?_,?_⟩;·rw[aY,eD hk,ep hg];omega
    .rw[aY,Nat.mul_add_mod,bS hg]
   obtain⟨cs,hcs⟩:=fj (n:=n) (pat:=pat) (tr:=tr) ks.length (p'+m * ks.length) fun g hg=>by obtain⟨c,c1,_⟩:=hcell g hg;rw[show p'+m * ks.length+g=p'+(m * ks.length+g) by omega,c1];rfl
   obtain⟨cl,cg⟩:=eP hcs;have cg:∀ g c,cs[g]?=some c->cell n pat tr (p'+(m * ks.length+g))=some c/\CA Z (.rw ks N foc :: post) (m * ks.length+g) c:=fun g c hg=>by have hlt:=(ai.1 hg).1;obtain⟨c',c1,c2⟩:=hcell g (by omega);have:=cg g c hg;rw[show p'+m * ks.length+g=p'+(m * ks.length+g) by omega] at this;rw[this] at c1;cases c1;exact⟨this,c2⟩
   unfold EX at h;split at h
   .
    obtain⟨Z',J',as,u,la,ha,hK⟩:=jo h hv cl fun g k c hk' hc=>by have hg:=(ai.1 hk').1;obtain⟨k2,q1,q2⟩:=kinds _ c (by omega) (fun _ _ e=>nomatch e) (cg g c hc).2;rw[(divm g hg).2,hk'] at q1;cases q1;exact q2
    refine fin Z' J' ks as u hK rfl la (fun g a hg=>?_) fun g k c h1 h2 h3 h4=>?_;·have hlt:=(ai.1 hg).1;have hc:=ah (l:=cs) (i:=g) (by omega);obtain⟨q1,q2⟩:=ha g a _ hg hc;exact⟨q1,fun c _ hc2=>by rw[(cg g _ hc).1] at hc2;cases hc2;exact q2⟩
    .obtain⟨k2,q1,q2⟩:=kinds g c h1 (fun _ _ e=>nomatch e) h4;rw[h3] at q1;cases q1;exact q2.mono u.le
   .rename_i fe as;obtain⟨la,mf,hmf,hltf⟩:=hfoc _ _ rfl;have told:∀ g a,as[g]?=some a->∃ c,AV Z a c:=fun g a hg=>by
     have hg':=(ai.1 hg).1;have hml':(mf+1) * ks.length<=cnt * ks.length:=bD _ hltf;rw[bH,dS] at hml';obtain⟨c,c1,c2⟩:=cr.get (i:=p'+(mf * ks.length+g)) (by omega);rcases CA.split l1 c2 with⟨q1,_⟩|⟨j',q1,q2⟩
     .omega
     .have:j'=mf * ks.length+g:=by omega
      subst this;obtain⟨a',b1,b2,b3⟩:=CA.elem q2 hmf hltf (by omega) (.rw hN hfoc);rw[hg] at b1;cases b1;exact⟨c,b3⟩
    split at h
    .
     rename_i qe;simp only[ae,bz,T.beq_true] at qe;have:=jB hv.zr hv.z0 qe.1.1 hmf hm;have:mf=m:=Int.ofNat.inj this;subst this;refine fin Z J ks as (.refl hv) h rfl la (fun g a hg=>⟨qe.1.2 a (aC hg),fun c hc _=>?_⟩) fun g k c h1 h2 h3 h4=>?_;·have hg':=(ai.1 hg).1;obtain⟨a',b1,b2,b3⟩:=CA.elem hc hmf hltf (by omega) (.rw hN hfoc);rw[hg] at b1;cases b1;exact b3
     .obtain⟨k2,q1,q2⟩:=kinds g c h1 (fun fe' as' e=>by cases e;exact⟨mf,hmf,h2⟩) h4;rw[h3] at q1;cases q1;exact q2
    .
     unfold opt at h;split at h;case h_2=>cases h
     rename_i ks' hj;obtain⟨j1,j2,j3⟩:=vV hv.zr hv.z0 hj told;have kinds':∀ g k c,g<cnt * ks.length->ks'[g % ks.length]?=some k->CA Z (.rw ks N (some (fe,as)) :: post) g c->KV Z k c:=fun g k c hg hk' hc=>by
      by_cases hgm:g / ks.length=mf
      .have hg0:=dH g ks.length;rw[hgm] at hg0;have hgl:=dD g hk;have e5:g=mf * ks.length+g % ks.length:=by rw[aY mf];omega
       rw[e5] at hc;obtain⟨a',b1,b2,b3⟩:=CA.elem hc hmf hltf hgl (.rw hN hfoc);obtain⟨k3,d1,d2,d3⟩:=j3 _ _ (ah hgl);rw[hk'] at d1;cases d1;exact d3 _ _ b1 b3
      .obtain⟨k2,q1,q2⟩:=kinds g c hg (fun fe' as' e=>by cases e;exact⟨mf,hmf,hgm⟩) hc;obtain⟨k3,d1,d2,d3⟩:=j3 _ _ q1;rw[hk'] at d1;cases d1;exact d2 _ q2
     obtain⟨Z',J',as',u,la',ha,hK⟩:=jo h hv (by rw[j1];exact cl) fun g k c hk' hc=>by have hg:=(ai.1 hk').1;exact kinds' _ k c (by omega) (by rw[(divm g (by omega)).2];exact hk') (cg g c hc).2
     refine fin Z' J' ks' as' u hK j1 (by rw[la',j1]) (fun g a hg=>?_) fun g k c h1 h2 h3 h4=>(kinds' g k c h1 h3 h4).mono u.le;have hlt:=(ai.1 hg).1;have hc:=ah (l:=cs) (i:=g) (by omega);obtain⟨q1,q2⟩:=ha g a _ hg hc;exact⟨q1,fun c _ hc2=>by rw[(cg g _ hc).1] at hc2;cases hc2;exact q2⟩
end Go.Ae
namespace Go.Ae
open Go.Ev
variable {Z Z':NV}{ks:List EK}{v:V}{hp:List (Nat×O)}{ao ao':AO}{b U s:Nat}{J:AS}{st:St}
abbrev TH:=Nat->List Int->Nat->List (Nat×O)->Prop
inductive rO (Z:NV):List LE->List Int->Prop
 |nil:rO Z [] []
 |cons {e:LE} {z:Int} {l:List LE} {zs:List Int} (h:Num Z e z) (k:rO Z l zs):rO Z (e :: l) (z :: zs)
theorem rO.mono {Z Z':NV}(h:Z.le Z'){l:List LE}{zs:List Int}(k:rO Z l zs):rO Z' l zs:=by
 induction k with
 |nil=>exact .nil
 |cons a _ ih=>exact .cons (a.mono h) ih
def ER (Z:NV)(tm:T A)(tr:T V):Prop:=∀ t a,tm.get t=some a->∃ v,tr.get t=some v/\AV Z a v
theorem ER.mono {Z Z':NV}(h:Z.le Z'){tm:T A}{tr:T V}(k:ER Z tm tr):ER Z' tm tr:=fun t a q=>let ⟨v,x,y⟩:=k t a q;⟨v,x,y.mono h⟩
def KsV (Z:NV)(ag:Bool)(ks:List EK)(v:V):Prop:=
 match ag with
 |false=>∃ k,ks=[k]/\KV Z k v
 |true=>∃ n pat tr,v=.agg n pat tr/\n=ks.length/\∀ i,i<n->∃ c k,cell n pat tr i=some c/\ks[i]?=some k/\KV Z k c
theorem KsV.mono {Z Z':NV}(h:Z.le Z'){ag:Bool}{ks:List EK}{v:V}(k:KsV Z ag ks v):KsV Z' ag ks v:=by
 cases ag with
 |false=>obtain⟨x,a,b⟩:=k;exact⟨x,a,b.mono h⟩
 |true=>obtain⟨n,pat,tr,a,b,c⟩:=k;exact⟨n,pat,tr,a,b,fun i hi=>let ⟨c,k,x,y,z⟩:=c i hi;⟨c,k,x,y,z.mono h⟩⟩
structure LpR (Z:NV)(l:ALp)(lp:Lp):Prop where
 state:lp.state=l.state
 pending:lp.pending=l.pending
 fn:lp.fn=l.fn
 sz:lp.tmps.sz=l.sz
 er:ER Z l.tm lp.tmps.tr
 params:lp.params=l.params
 assign:lp.assign=l.assign
 body:lp.body=l.body
 defers:Z.blks[l.defers]?=some lp.defers
 oka:okC l.assign=true
 okb:okC l.body=true
structure tS (Z:NV)(ks:List EK)(cnt n:Nat)(pat:List V)(tr:T V):Prop where
 len:n=ks.length * cnt
 at':∀ i,i<n->∃ c k,cell n pat tr i=some c/\ks[i % ks.length]?=some k/\KV Z k c
theorem tS.OP (hl:Z.le Z'){cnt n:Nat}{pat:List V}{tr:T V}(h:tS Z ks cnt n pat tr):tS Z' ks cnt n pat tr:=⟨h.len,fun i hi=>let ⟨c,k,a,b,d⟩:=h.at' i hi;⟨c,k,a,b,d.mono hl⟩⟩
def Ur (len cnt w:Nat):Cap->Prop
 |.known c=>len<=c/\c<=cnt
 |.atl c es=>es=w/\len<=c/\c<=cnt
def Own (Z:NV)(te:TypeId)(ks:List EK)(B:Nat)(v:V)(hp:List (Nat×O)):Prop:=
 (v=.nils/\hp=[])\/∃ b len cap cnt nn pat tr,v=.slice b 0 len cap/\hp=[(b,.cells (some te) nn pat tr)]/\tS Z ks cnt nn pat tr/\len<=B/\len<=100000/\Ur len cnt ks.length cap
theorem Own.map {te:TypeId}{ks':List EK}{B:Nat}(hl:ks'.length=ks.length)(f:∀ (i:Nat) (k:EK),ks[i]?=some k->∃ k',ks'[i]?=some k'/\∀ v,KV Z k v->KV Z' k' v)(h:Own Z te ks B v hp):Own Z' te ks' B v hp:=by
 rcases h with h|⟨b,len,cap,cnt,nn,pat,tr,h1,h2,h3,h4,h5,h6⟩;·exact .inl h
 .refine .inr ⟨b,len,cap,cnt,nn,pat,tr,h1,h2,⟨by rw[hl];exact h3.len,fun i hi=>?_⟩,h4,h5,by rw[hl];exact h6⟩;obtain⟨c,k,a1,a2,a3⟩:=h3.at' i hi;obtain⟨k',b1,b2⟩:=f _ k a2;exact⟨c,k',a1,by rw[hl];exact b1,b2 c a3⟩
theorem Own.Rs {te:TypeId}{B B':Nat}(hb:B<=B')(h:Own Z te ks B v hp):Own Z te ks B' v hp:=by
 rcases h with h|⟨b,len,cap,cnt,nn,pat,tr,h1,h2,h3,h4,h5,h6⟩;·exact .inl h
 .exact .inr ⟨b,len,cap,cnt,nn,pat,tr,h1,h2,h3,bF h4 hb,h5,h6⟩
def QM (Z:NV)(mm:Nat):Option (LE×A)->Option Nat->Prop
 |none,none=>True
 |some (e,_),some f=>Num Z e (f:Int)/\f<mm
 |_,_=>False
theorem QM.mono {Z Z':NV}{mm:Nat}(h:Z.le Z'){foc:Option (LE×A)}{g:Option Nat}(q:QM Z mm foc g):QM Z' mm foc g:=by cases foc<;>cases g<;>first|exact q|exact⟨q.1.mono h,q.2⟩
structure RRV (Z:NV)(te:TypeId)(ks:List EK)(B:Nat)(foc:Option (LE×A))(cnt mm:Nat)(pat:List V)(tr:T V)(L:List (List (Nat×O)))(g:Option Nat):Prop where
 le:mm<=cnt
 all:∀ i,i<cnt->∃ c,cell cnt pat tr i=some c
 len:L.length=mm
 hf:QM Z mm foc g
 own:∀ (i:Nat) (c:V) (hp:List (Nat×O)),L[i]?=some hp->cell cnt pat tr i=some c->g≠some i->Own Z te ks B c hp
 at':∀ (i:Nat) (c:V) (hp:List (Nat×O)) (e:LE) (a:A),L[i]?=some hp->cell cnt pat tr i=some c->g=some i->foc=some (e,a)->hp=[]/\AV Z a c
theorem RRV.mono {Z Z':NV}{te:TypeId}{ks:List EK}{B:Nat}{foc:Option (LE×A)}{cnt mm:Nat}{pat:List V}{tr:T V}{L:List (List (Nat×O))}{g:Option Nat}(h:Z.le Z')(q:RRV Z te ks B foc cnt mm pat tr L g):RRV Z' te ks B foc cnt mm pat tr L g:=
 ⟨q.le,q.all,q.len,q.hf.mono h,fun i c hp a b d=>(q.own i c hp a b d).map rfl fun _ k hk=>⟨k,hk,fun _ r=>r.mono h⟩,fun i c hp e a x y z w=>let ⟨u,v⟩:=q.at' i c hp e a x y z w;⟨u,v.mono h⟩⟩
def isTrue (o:Option V):Bool:=match o with
 |some (.bool true)=>true
 |_=>false
def mS (g:Nat->Bool):Nat->Nat
 |0=>0
 |n+1=>mS g n+(g n).toNat
noncomputable def tW (cnt:Nat)(pat:List V)(tr:T V):Nat:=mS (fun i=>isTrue (cell cnt pat tr i)) cnt
theorem rP {g:Nat->Bool}:∀ n,mS g n<=n
 |0=>aF _
 |n+1=>by have:=rP (g:=g) n;unfold mS;cases g n<;>simp<;>omega
theorem rQ {g g':Nat->Bool}:∀ n,(∀ i,i<n->g' i=g i)->mS g' n=mS g n
 |0,_=>rfl
 |n+1,h=>by unfold mS;rw[rQ n fun i hi=>h i (by omega),h n (by omega)]
theorem uy {g g':Nat->Bool}{f:Nat}(h1:g f=false)(h2:g' f=true):∀ n,f<n->(∀ i,i<n->i≠f->g' i=g i)->mS g' n=mS g n+1
 |0,h,_=>by omega
 |n+1,h,hs=>by
  unfold mS;by_cases e:f=n;·subst e;rw[rQ f fun i hi=>hs i (by omega) (by omega),h1,h2];rfl
  .rw[uy h1 h2 n (by omega) fun i hi hne=>hs i (by omega) hne,hs n (by omega) (fun e'=>e e'.symm)];omega
structure SoR (Z:NV)(n k:LE)(lo hi:Option LE)(els:List (LE×LE))(cnt:Nat)(f:Nat->Int):Prop where
 hn:Num Z n (cnt:Int)
 all:∀ i,i<cnt->nX<=f i/\f i<=lA
 srt:∃ kk,Num Z k kk/\(∀ i j:Nat,kk<=(i:Int)->i<=j->j<cnt->f i<=f j)/\∀ i:Nat,kk<=(i:Int)->i<cnt->Low Z lo (f i)/\ug Z hi (f i)
 els:∀ p,p∈els->∃ i:Nat,Num Z p.1 (i:Int)/\i<cnt/\Num Z p.2 (f i)
theorem SoR.mono {Z Z':NV}(h:Z.le Z'){n k:LE}{lo hi:Option LE}{els:List (LE×LE)}{cnt:Nat}{f:Nat->Int}(q:SoR Z n k lo hi els cnt f):SoR Z' n k lo hi els cnt f:=by obtain⟨a,b,⟨kk,c1,c2,c3⟩,d⟩:=q;exact⟨a.mono h,b,⟨kk,c1.mono h,c2,fun i x y=>let ⟨u,v⟩:=c3 i x y;⟨u.mono h,v.mono h⟩⟩,fun p hp=>let ⟨i,x,y,z⟩:=d p hp;⟨i,x.mono h,y,z.mono h⟩⟩
def QN (z:V)(es0 es:List (V×V×Nat)):Prop:=(∃ i k y,es=iH (fun y=>(k,y.2.1,y.2.2)) i es0/\es0[i]?=some y/\fN k y.1=true)\/∃ k cl,es=es0++[(k,z,cl)]
def roO (ro:Bool)(t:Option TypeId)(n:Nat)(pat:List V)(tr:T V):O:=match ro with
 |true=>.ro t n pat tr
 |false=>.cells t n pat tr
noncomputable def gH (w:V):List (V×V×Nat)->Nat->Option (Nat×V×V×Nat)
 |[],_=>none
 |e :: es,i=>match fN w e.1 with
  |true=>some (i,e)
  |false=>gH w es (Nat.succ i)
noncomputable def lkP (w:V)(es:List (V×V×Nat)):V:=match gH w es 0 with
 |some (_,y)=>y.2.1
 |none=>.nils
noncomputable def rR (w u:V)(es:List (V×V×Nat))(cl:Nat):List (V×V×Nat):=match gH w es 0 with
 |some (i,_)=>iH (fun y=>(w,u,y.2.2)) i es
 |none=>es++[(w,u,cl)]
noncomputable def clP (w:V)(es:List (V×V×Nat))(cl:Nat):Nat:=match gH w es 0 with
 |some _=>cl
 |none=>cl+1
noncomputable def zY (w:V)(es:List (V×V×Nat))(cl:Nat):Nat:=match gH w es 0 with
 |some (_,y)=>y.2.2
 |none=>cl
def MqS (Z:NV)(w:V)(es0:List (V×V×Nat))(cl0:Nat)(u:V)(ph:Nat)(x:LE)(es:List (V×V×Nat))(cl:Nat):Prop:=
 (ph=0/\es=es0/\cl=cl0/\u=lkP w es0)\/(ph≠0/\es=rR w u es0 cl0/\cl=clP w es0 cl0/\(ph=1->Num Z x (zY w es0 cl0:Int)))
theorem MqS.mono {Z Z':NV}(h:Z.le Z'){w:V}{es0:List (V×V×Nat)}{cl0:Nat}{u:V}{ph:Nat}{x:LE}{es:List (V×V×Nat)}{cl:Nat}(q:MqS Z w es0 cl0 u ph x es cl):MqS Z' w es0 cl0 u ph x es cl:=q.imp id fun⟨a,b,c,d⟩=>⟨a,b,c,fun e=>(d e).mono h⟩
inductive AOR (M:TH)(Z:NV):AO->Nat->List (Nat×O)->Prop
 |cl {t:Option TypeId} {l:List A} {b n:Nat} {pat:List V} {tr:T V} (h:CR Z l n pat tr):AOR M Z (.cl false t l) b [(b,.cells t n pat tr)]
 |ro {t:Option TypeId} {l:List A} {b n:Nat} {pat:List V} {tr:T V} (h:CR Z l n pat tr):AOR M Z (.cl true t l) b [(b,.ro t n pat tr)]
 |mp {kk vk:List EK} {ka va:Bool} {b:Nat} {es:List (V×V×Nat)} {cl:Nat} (h:∀ e,e∈es->KsV Z ka kk e.1/\KsV Z va vk e.2.1/\e.2.2<cl):AOR M Z (.mp kk ka vk va) b [(b,.map es cl)]
 |df {b:Nat}:AOR M Z .df b [(b,.deferred)]
 |lp {b:Nat} {l:ALp} {lp:Lp} (h:LpR Z l lp):AOR M Z (.lp l) b [(b,.loop lp)]
 |ob {τ b:Nat} {ps:List LE} {zs:List Int} {hp:List (Nat×O)} (h:rO Z ps zs) (k:M τ zs b hp) (q:∃ o r,hp=(b,o) :: r) (nd:(hp.map Prod.fst).Nodup):AOR M Z (.ob τ ps) b hp
 |rr {t te:TypeId} {ks:List EK} {B m n:LE} {foc:Option (LE×A)} {b bb cnt mm:Nat} {pat:List V} {tr:T V} {L:List (List (Nat×O))} {g:Option Nat} (hB:Num Z B (bb:Int)) (hm:Num Z m (mm:Int)) (hn:Num Z n (cnt:Int)) (h:RRV Z te ks bb foc cnt mm pat tr L g) (nd:(((b,O.cells (some t) cnt pat tr) :: L.flatten).map Prod.fst).Nodup):AOR M Z (.rr t te ks B m n foc) b ((b,.cells (some t) cnt pat tr) :: L.flatten)
 |mx {es:List (Int×A)} {b:Nat} {es':List (V×V×Nat)} {cl:Nat} (hk:es'.map (fun e=>e.1)=es.map fun e=>V.int .i64 e.1) (hv:AVs Z (es.map Prod.snd) (es'.map fun e=>e.2.1)) (hs:(∀ (i:Nat) (e:V×V×Nat),es'[i]?=some e->e.2.2=i)/\cl=es'.length):AOR M Z (.mx es) b [(b,.map es' cl)]
 |it {a:A} {p:LE} {l:List UInt8} {n b:Nat} (h:AV Z a (.str l)) (k:Num Z p (n:Int)):AOR M Z (.it a p) b [(b,.strIter l n)]
 |bc {t:TypeId} {w mx:Nat} {n T':LE} {foc:Option (LE×BE)} {b cnt:Nat} {pat:List V} {tr:T V} (hn:Num Z n (cnt:Int)) (hx:cnt<=mx) (hT:Num Z T' ((w * tW cnt pat tr:Nat):Int)) (all:∀ i,i<cnt->∃ bo,cell cnt pat tr i=some (.bool bo)) (hf:∀ e be,foc=some (e,be)->∃ (i:Nat) (bo:Bool),Num Z e (i:Int)/\i<cnt/\cell cnt pat tr i=some (.bool bo)/\BV Z be bo):AOR M Z (.bc t w mx n T' foc) b [(b,.cells (some t) cnt pat tr)]
 |so {ro:Bool} {t:Option TypeId} {n k:LE} {lo hi:Option LE} {els:List (LE×LE)} {b cnt:Nat} {pat:List V} {tr:T V} {f:Nat->Int} {o:O} (h:SoR Z n k lo hi els cnt f) (hc:∀ i,i<cnt->cell cnt pat tr i=some (.int .i64 (f i))) (ho:o=roO ro t cnt pat tr):AOR M Z (.so ro t n k lo hi els) b [(b,o)]
 |sp {E bT:Nat} {ro:Bool} {t tT:Option TypeId} {v:Int} {n k:LE} {els:List (LE×LE)} {b cnt:Nat} {pat patT:List V} {tr trT:T V} {f:Nat->Int} {o:O} (hE:Z.blks[E]?=some bT) (hn:Num Z n (cnt:Int)) (h:SoR Z (plus n 1) k none none els (cnt+1) f) (h0:f 0=v) (hc:∀ i,i<cnt+1->cell (cnt+1) pat tr i=some (.int .i64 (f i))) (hT:∀ i,i<cnt->cell cnt patT trT i=some (.int .i64 (f (i+1)))) (ho:o=roO ro tT cnt patT trT) (hne:b≠bT):AOR M Z (.sp E ro t tT v n k els) b [(b,.cells t (cnt+1) pat tr),(bT,o)]
 |me {kk vk:List EK} {ka va:Bool} {x:LE} {s:Nat} {z:V} {b:Nat} {es:List (V×V×Nat)} {cl:Nat} (h:∀ e,e∈es->KsV Z ka kk e.1/\KsV Z va vk e.2.1/\e.2.2<cl) (hx:∃ e,e∈es/\Num Z x (e.2.2:Int)) (lk:∃ es0 cl0,Z.objs[s]?=some [(b,.map es0 cl0)]/\QN z es0 es):AOR M Z (.me kk ka vk va x s z) b [(b,.map es cl)]
 |tl {t:Option TypeId} {ks:List EK} {n e:LE} {f c b cnt nn:Nat} {pat:List V} {tr:T V} (hn:Num Z n (cnt:Int)) (hr:tS Z ks cnt nn pat tr) (he:∃ (m:Nat) (s:List UInt8),Num Z e (m:Int)/\m<cnt/\cell nn pat tr (m * ks.length+f)=some (.str s)/\c<s.length):AOR M Z (.tl t ks n e f c) b [(b,.ro t nn pat tr)]
 |mq {kk:List EK} {key:List A} {v:A} {s ph:Nat} {x:LE} {b:Nat} {es0:List (V×V×Nat)} {cl0:Nat} {es:List (V×V×Nat)} {cl:Nat} {w u:V} (h0:Z.objs[s]?=some [(b,.map es0 cl0)]) (hk:∀ e,e∈es0->KsV Z true kk e.1/\e.2.2<cl0) (nd:(es0.map fun e=>e.2.2).Nodup) (hkw:KsV Z true kk w) (hw:AV Z (.ag key) w) (hv:AV Z v u) (hs:MqS Z w es0 cl0 u ph x es cl):AOR M Z (.mq kk key v s ph x) b [(b,.map es cl)]
theorem AOR.mono {M:TH}{Z Z':NV}(h:Z.le Z'){ao:AO}{b:Nat}{hp:List (Nat×O)}(k:AOR M Z ao b hp):AOR M Z' ao b hp:=by
 cases k with
 |cl q=>exact .cl (q.mono h)
 |ro q=>exact .ro (q.mono h)
 |mp q=>exact .mp fun e he=>let ⟨x,y,z⟩:=q e he;⟨x.mono h,y.mono h,z⟩
 |df=>exact .df
 |lp q=>exact .lp ⟨q.state,q.pending,q.fn,q.sz,q.er.mono h,q.params,q.assign,q.body,h.b q.defers,q.oka,q.okb⟩
 |ob q r s t=>exact .ob (q.mono h) r s t
 |it q r=>exact .it (q.mono h) (r.mono h)
 |rr z a b c d=>exact .rr (z.mono h) (a.mono h) (b.mono h) (c.mono h) d
 |mx a b c=>exact .mx a (b.mono h) c
 |bc a b c d e=>exact .bc (a.mono h) b (c.mono h) d fun e' be q=>let ⟨i,bo,x,y,z,u⟩:=e e' be q;⟨i,bo,x.mono h,y,z,u.mono h⟩
 |so a b c=>exact .so (a.mono h) b c
 |sp a b c d e f g i=>exact .sp (h.b a) (b.mono h) (c.mono h) d e f g i
 |me a b c=>exact .me (fun e he=>let ⟨x,y,z⟩:=a e he;⟨x.mono h,y.mono h,z⟩) (let ⟨e,x,y⟩:=b;⟨e,x,y.mono h⟩) (let ⟨e,c0,x,y⟩:=c;⟨e,c0,h.o x,y⟩)
 |tl a b c=>exact .tl (a.mono h) (b.OP h) (let ⟨m,s,x,y,z⟩:=c;⟨m,s,x.mono h,y,z⟩)
 |mq a b c d e f g=>exact .mq (h.o a) (fun e' he=>let ⟨x,y⟩:=b e' he;⟨x.mono h,y⟩) c (d.mono h) (e.mono h) (f.mono h) (g.mono h)
theorem AOR.root {M:TH}(k:AOR M Z ao b hp):∃ o r,hp=(b,o) :: r:=by cases k<;>first|exact⟨_,_,rfl⟩|assumption
structure FR where
 n:Nat
 F:Nat->Prop
 h:Nat->Option O
structure HR (M:TH)(fr:FR)(Z:NV)(mem:T (Nat×AO))(h:H):Prop where
 at':∀ U s ao,mem.get U=some (s,ao)->∃ b hp,Z.blks[U]?=some b/\Z.objs[s]?=some hp/\AOR M Z ao b hp/\∀ p,p∈hp->h.tr.get p.1=some p.2/\p.1<h.next/\(fr.F p.1\/fr.n<=p.1)
 sep:∀ U s ao U' s' ao',mem.get U=some (s,ao)->mem.get U'=some (s',ao')->U≠U'->∀ hp hp',Z.objs[s]?=some hp->Z.objs[s']?=some hp'->∀ p,p∈hp->∀ q,q∈hp'->p.1≠q.1
 frame:∀ b,b<fr.n->¬ fr.F b->h.tr.get b=fr.h b
 le:fr.n<=h.next
 gl:∀ q,q∈gls->q.1<fr.n/\¬ fr.F q.1/\fr.h q.1=some (.ro (some 0) q.2.length q.2 .leaf)
theorem HR.mono {M:TH}{fr:FR}{Z Z':NV}(hl:Z.le Z'){mem:T (Nat×AO)}{h:H}(k:HR M fr Z mem h):HR M fr Z' mem h:=by
 refine⟨fun U s ao q=>?_,fun U s ao U' s' ao' q q' hne hp hp' e e'=>?_,k.frame,k.le,k.gl⟩;·obtain⟨b,hp,a1,a2,a3,a4⟩:=k.at' U s ao q;exact⟨b,hp,hl.b a1,hl.o a2,a3.mono hl,a4⟩
 .obtain⟨b,hp1,a1,a2,_,_⟩:=k.at' U s ao q;obtain⟨b',hp2,b1,b2,_,_⟩:=k.at' U' s' ao' q';have x:=hl.o a2;have y:=hl.o b2;rw[e] at x;cases x;rw[e'] at y;cases y;exact k.sep _ _ _ _ _ _ q q' hne _ _ a2 b2
structure DR (fr:FR)(Z:NV)(mem:T (Nat×AO))(h:H)(defs:List Nat):Prop where
 nd:defs.Nodup
 at':∀ b,b∈defs->h.tr.get b=some .deferred/\b<h.next/\(fr.F b\/fr.n<=b)
 sep:∀ b,b∈defs->∀ U s ao hp,mem.get U=some (s,ao)->Z.objs[s]?=some hp->∀ p,p∈hp->p.1≠b
structure Mem (M:TH)(fr:FR)(Z:NV)(J:AS)(st:St):Prop where
 vr:VR Z J
 sz:st.env.sz=J.sz
 er:ER Z J.tm st.env.tr
 hr:HR M fr Z J.mem st.h
 df:DR fr Z J.mem st.h st.defs
theorem Mem.og {M:TH}{fr:FR}(h:Mem M fr Z J st){l:List (Nat×Nat)}:Mem M fr Z { J with df:=l } st:=⟨⟨h.vr.ni,h.vr.ns,h.vr.nb,h.vr.no,h.vr.z0,h.vr.zr⟩,h.sz,h.er,h.hr,h.df⟩
theorem Mem.up {M:TH}{fr:FR}{J':AS}(h:Mem M fr Z J st)(u:Up Z J Z' J'):Mem M fr Z' J' st:=by refine⟨u.vr,by rw[u.same.sz];exact h.sz,by rw[u.same.tm];exact h.er.mono u.le,by rw[u.same.mem];exact h.hr.mono u.le,h.df.nd,h.df.at',fun b hb U s ao hp q e=>?_⟩;rw[u.same.mem] at q;rw[u.objs] at e;exact h.df.sep b hb U s ao hp q e
theorem Fm (Z:NV):AV Z (ofV v) v:=by
 unfold ofV;split
 .rename_i n pat tr;split
  .rename_i l hl;split
   .rename_i q;rw[bz] at q;obtain⟨g1,g2⟩:=eP hl;have hlen:∀ l:List V,gp Z (l.map A.k) l.length:=fun l=>by
     induction l with
     |nil=>exact .nil
     |cons v l ih=>have:=gp.cons (a:=A.k v) (.one fun _ _ _ e=>nomatch e) ih;rw[bp] at this;exact this
    have hat:∀ (l:List V),(∀ v,v∈l->plain (.k v)=true)->∀ (i:Nat) (v:V),l[i]?=some v->CA Z (l.map A.k) i v:=fun l=>by
     induction l with
     |nil=>intro _ i v h;simp at h
     |cons w l ih=>
      intro hp i v h;cases i with
      |zero=>simp at h;subst h;exact .here (hp _ (by simp)) (.k _)
      |succ i=>have:=CA.skip (a:=A.k w) (w:=1) (.one fun _ _ _ e=>nomatch e) (ih (fun v hv=>hp v (by simp[hv])) i v (by simpa using h));rw[bp] at this;exact this
    refine .ag (by rw[<- g1];exact hlen l) (fun i hi=>?_) fun i c hc=>?_;·have:=ah (l:=l) (i:=i) (by omega);have:=g2 i _ this;rw[aI] at this;rw[this];rfl
    .have hi:=eT hc;have:=ah (l:=l) (i:=i) (by omega);have h2:=g2 i _ this;rw[aI,hc] at h2;cases h2;exact hat l q i _ this
   .exact .k _
  .exact .k _
 .exact .k _
theorem eS {M:TH}{fr:FR}(hM:Mem M fr Z J st){x:Operand}{a:A}(h:J.eval x=some a):∃ v,st.env.get x=some v/\AV Z a v:=by
 unfold AS.eval at h;split at h;·exact hM.er _ _ h
 .split at h;·rename_i v hv;cases h;exact⟨v,hv,Fm Z⟩
  .cases h
 .split at h;·rename_i q;cases h;exact⟨_,by simp only[Env.get,q],.k _⟩
  .cases h
 .cases h;exact⟨_,rfl,.fn .nil .nil⟩
theorem Mem.put {M:TH}{fr:FR}{Z:NV}{J:AS}{st:St}(hM:Mem M fr Z J st){d:Option Tmp}{a:A}{v:V}(ha:AV Z a v){K:AS->Bool}(h:J.put d a K=true):∃ env' J',st.env.put d v=some env'/\Mem M fr Z J' ⟨env',st.h,st.defs⟩/\K J'=true:=by
 obtain⟨⟨sz,tr⟩,hh,defs⟩:=st;unfold AS.put at h;split at h;·exact⟨_,J,rfl,hM,h⟩
 .rename_i t;split at h
  .rename_i q;have e:sz=J.sz:=hM.sz;refine⟨⟨sz,tr.put t (some v)⟩,{ J with tm:=J.tm.put t (some a) },by simp only[Env.put];rw[e,q],⟨⟨hM.vr.ni,hM.vr.ns,hM.vr.nb,hM.vr.no,hM.vr.z0,hM.vr.zr⟩,e,fun t' a' h'=>?_,hM.hr,hM.df⟩,h⟩;simp only at h';rw[T.eL] at h';show ∃ v',(tr.put t (some v)).get t'=some v'/\_;rw[T.eL];split at h';·rename_i e;cases h';rw[if_pos e];exact⟨v,rfl,ha⟩
   .rename_i e;rw[if_neg e];exact hM.er t' a' h'
  .cases h
theorem iE (h:H)(o:O)(b:Nat):(h.add o).tr.get b=if b=h.next then some o else h.tr.get b:=by cases h;simp only[H.add,T.eL]
theorem fG (h:H)(c:Nat)(o:Option O)(b:Nat):(h.set c o).tr.get b=if b=c then o else h.tr.get b:=by cases h;simp only[H.set,T.eL]
theorem gB (h:H)(o:O):(h.add o).next=h.next+1:=by cases h;rfl
theorem fB (h:H)(c:Nat)(o:Option O):(h.set c o).next=h.next:=by cases h;rfl
theorem lG {z:List (List (Nat×O))}:Z.le { Z with objs:=Z.objs++z }:=⟨id,id,id,fun h=>by rw[aG,if_pos (ai.1 h).1];exact h⟩
theorem BO {z:List Nat}:Z.le { Z with blks:=Z.blks++z }:=⟨id,id,fun h=>by rw[aG,if_pos (ai.1 h).1];exact h,id⟩
section
variable {M:TH}{fr:FR}{Z:NV}{J:AS}{st:St}
theorem Mem.jZ (hM:Mem M fr Z J st){U s b:Nat}{ao ao':AO}{hp:List (Nat×O)}(hb:J.mem.get U=some (s,ao))(h1:Z.blks[U]?=some b)(h2:Z.objs[s]?=some hp)(h:AOR M Z ao' b hp):Mem M fr Z (J.jZ U s ao') st:=by
 refine⟨⟨hM.vr.ni,hM.vr.ns,hM.vr.nb,hM.vr.no,hM.vr.z0,hM.vr.zr⟩,hM.sz,hM.er,⟨fun E s' a q=>?_,fun E s1 a1 E' s2 a2 q1 q2 hne=>?_,hM.hr.frame,hM.hr.le,hM.hr.gl⟩,hM.df.nd,hM.df.at',fun d hd E s' a hp' q e=>?_⟩
 .simp only[AS.jZ,T.eL] at q;split at q;·rename_i e;subst e;cases q;obtain⟨b',hp',x1,x2,x3,x4⟩:=hM.hr.at' _ _ _ hb;rw[h1] at x1;cases x1;rw[h2] at x2;cases x2;exact⟨b,hp,h1,h2,h,x4⟩
  .exact hM.hr.at' _ _ _ q
 .have go:∀ E s' a,(J.jZ U s ao').mem.get E=some (s',a)->∃ a',J.mem.get E=some (s',a'):=fun E s' a q=>by
   simp only[AS.jZ,T.eL] at q;split at q;·rename_i e;subst e;cases q;exact⟨_,hb⟩
   .exact⟨_,q⟩
  obtain⟨x,hx⟩:=go _ _ _ q1;obtain⟨y,hy⟩:=go _ _ _ q2;exact hM.hr.sep _ _ _ _ _ _ hx hy hne
 .simp only[AS.jZ,T.eL] at q;split at q;·cases q;exact hM.df.sep d hd _ _ _ _ hb e
  .exact hM.df.sep d hd _ _ _ _ q e
theorem Mem.again (hM:Mem M fr Z J st){s':Nat}{o o':O}(hb:J.mem.get U=some (s,ao))(h1:Z.blks[U]?=some b)(h2:Z.objs[s]?=some [(b,o)])(h2':Z.objs[s']?=some [(b,o')])(h:AOR M Z ao' b [(b,o')]):Mem M fr Z { J with mem:=J.mem.put U (some (s',ao')) } ⟨st.env,st.h.set b (some o'),st.defs⟩:=by
 obtain⟨b',hp',x1,x2,x3,x4⟩:=hM.hr.at' _ _ _ hb;rw[h1] at x1;cases x1;rw[h2] at x2;cases x2;have hbn:=x4 (b,o) (by simp);have other:∀ E s' a,J.mem.get E=some (s',a)->E≠U->∀ hp,Z.objs[s']?=some hp->∀ p,p∈hp->p.1≠b:=fun E s' a q hne hp e p hp'=>hM.hr.sep _ _ _ _ _ _ q hb hne _ _ e h2 p hp' (b,o) (by simp);have hget:∀ x,(st.h.set b (some o')).tr.get x=if x=b then some o' else st.h.tr.get x:=fun x=>by cases hh:st.h;simp only[H.set,T.eL]
 have hnx:(st.h.set b (some o')).next=st.h.next:=by cases hh:st.h;rfl
 refine⟨⟨hM.vr.ni,hM.vr.ns,hM.vr.nb,hM.vr.no,hM.vr.z0,hM.vr.zr⟩,hM.sz,hM.er,⟨fun E s1 a q=>?_,fun E s1 a1 E' s2 a2 q1 q2 hne hp hp' e1 e2=>?_,fun x hx hF=>?_,by rw[hnx];exact hM.hr.le,hM.hr.gl⟩,hM.df.nd,fun d hd=>?_,fun d hd E s1 a hp q e=>?_⟩
 .simp only[T.eL] at q;split at q;·rename_i e;subst e;cases q;refine⟨b,_,h1,h2',h,fun p hp=>?_⟩;simp only[aq,aA,or_false] at hp;subst hp;exact⟨by rw[hget,if_pos rfl],by rw[hnx];exact hbn.2.1,hbn.2.2⟩
  .rename_i hne;obtain⟨c,hp,y1,y2,y3,y4⟩:=hM.hr.at' _ _ _ q;refine⟨c,hp,y1,y2,y3,fun p hp'=>?_⟩;obtain⟨z1,z2,z3⟩:=y4 p hp';exact⟨by rw[hget,if_neg (other _ _ _ q hne _ y2 p hp')];exact z1,by rw[hnx];exact z2,z3⟩
 .simp only[T.eL] at q1 q2;split at q1
  .rename_i e;subst e;cases q1;rw[h2'] at e1;cases e1;split at q2;·rename_i e;exact absurd e.symm hne
   .rename_i hne2;intro p hp q hq;simp only[aq,aA,or_false] at hp;subst hp;exact fun e=>other _ _ _ q2 hne2 _ e2 q hq e.symm
  .rename_i hne1;split at q2;·rename_i e;subst e;cases q2;rw[h2'] at e2;cases e2;intro p hp q hq;simp only[aq,aA,or_false] at hq;subst hq;exact other _ _ _ q1 hne1 _ e1 p hp
   .exact hM.hr.sep _ _ _ _ _ _ q1 q2 hne _ _ e1 e2
 .have:x≠b:=fun e=>by
   subst e;rcases hbn.2.2 with q|q
   .exact hF q
   .omega
  rw[hget,if_neg this];exact hM.hr.frame x hx hF
 .obtain⟨d1,d2,d3⟩:=hM.df.at' d hd;have:d≠b:=fun e=>hM.df.sep d hd _ _ _ _ hb h2 (b,o) (by simp) e.symm;exact⟨by rw[hget,if_neg this];exact d1,by rw[hnx];exact d2,d3⟩
 .simp only[T.eL] at q;split at q;·cases q;rw[h2'] at e;cases e;intro p hp;simp only[aq,aA,or_false] at hp;subst hp;exact fun e=>hM.df.sep d hd _ _ _ _ hb h2 (b,o) (by simp) e
  .exact hM.df.sep d hd _ _ _ _ q e
theorem Mem.IQ (hM:Mem M fr Z J st){o o':O}{r:List (Nat×O)}(hb:J.mem.get U=some (s,ao))(h1:Z.blks[U]?=some b)(h2:Z.objs[s]?=some ((b,o) :: r))(hr:∀ p,p∈r->p.1≠b)(h:AOR M Z ao' b ((b,o') :: r)):
  ∃ Z',Z.le Z'/\Mem M fr Z' (J.gG U ao') ⟨st.env,st.h.set b (some o'),st.defs⟩:=by
 have hle:Z.le { Z with objs:=Z.objs++[(b,o') :: r] }:=lG;have hnew:({ Z with objs:=Z.objs++[(b,o') :: r] }:NV).objs[J.no]?=some ((b,o') :: r):=by show(Z.objs++[(b,o') :: r])[J.no]?=_;rw[<- hM.vr.no];simp
 obtain⟨b',hp',x1,x2,x3,x4⟩:=hM.hr.at' _ _ _ hb;rw[h1] at x1;cases x1;rw[h2] at x2;cases x2;have hbn:=x4 (b,o) (by simp);have other:∀ E s' a,J.mem.get E=some (s',a)->E≠U->∀ hp,Z.objs[s']?=some hp->∀ p,p∈hp->p.1≠b:=fun E s' a q hne hp e p hp'=>hM.hr.sep _ _ _ _ _ _ q hb hne _ _ e h2 p hp' (b,o) (by simp);refine⟨_,hle,⟨⟨hM.vr.ni,hM.vr.ns,hM.vr.nb,by show(Z.objs++[(b,o') :: r]).length=J.no+1;simp[hM.vr.no],hle.i hM.vr.z0,hM.vr.zr.mono hle⟩,hM.sz,hM.er.mono hle,⟨fun E s' a q=>?_,fun E s1 a1 E' s2 a2 q1 q2 hne hp hp' e1 e2=>?_,fun x hx hF=>?_,by rw[fB];exact hM.hr.le,hM.hr.gl⟩,hM.df.nd,fun d hd=>?_,fun d hd E s' a hp q e=>?_⟩⟩
 .simp only[AS.gG,T.eL] at q;split at q
  .rename_i e;subst e;cases q;refine⟨b,_,h1,hnew,h.mono hle,fun p hp=>?_⟩;rcases aq.1 hp with rfl|hp
   .exact⟨by rw[fG,if_pos rfl],by rw[fB];exact hbn.2.1,hbn.2.2⟩
   .obtain⟨z1,z2,z3⟩:=x4 p (aB _ hp);exact⟨by rw[fG,if_neg (hr p hp)];exact z1,by rw[fB];exact z2,z3⟩
  .rename_i hne;obtain⟨c,hp,y1,y2,y3,y4⟩:=hM.hr.at' _ _ _ q;refine⟨c,hp,y1,hle.o y2,y3.mono hle,fun p hp'=>?_⟩;obtain⟨z1,z2,z3⟩:=y4 p hp';exact⟨by rw[fG,if_neg (other _ _ _ q hne _ y2 p hp')];exact z1,by rw[fB];exact z2,z3⟩
 .simp only[AS.gG,T.eL] at q1 q2;split at q1
  .rename_i e;subst e;cases q1;rw[hnew] at e1;cases e1;split at q2;·rename_i e;exact absurd e.symm hne
   .rename_i hne2;obtain⟨c,hp2,y1,y2,y3,y4⟩:=hM.hr.at' _ _ _ q2;rw[hle.o y2] at e2;cases e2;intro p hp q hq;rcases aq.1 hp with rfl|hp
    .exact fun e=>other _ _ _ q2 hne2 _ y2 q hq e.symm
    .exact fun e=>hM.hr.sep _ _ _ _ _ _ q2 hb hne2 _ _ y2 h2 q hq p (aB _ hp) e.symm
  .rename_i hne1;obtain⟨c,hp1,y1,y2,y3,y4⟩:=hM.hr.at' _ _ _ q1;rw[hle.o y2] at e1;cases e1;split at q2
   .rename_i e;subst e;cases q2;rw[hnew] at e2;cases e2;intro p hp q hq;rcases aq.1 hq with rfl|hq
    .exact other _ _ _ q1 hne1 _ y2 p hp
    .exact hM.hr.sep _ _ _ _ _ _ q1 hb hne1 _ _ y2 h2 p hp q (aB _ hq)
   .obtain⟨c',hp2,w1,w2,w3,w4⟩:=hM.hr.at' _ _ _ q2;rw[hle.o w2] at e2;cases e2;exact hM.hr.sep _ _ _ _ _ _ q1 q2 hne _ _ y2 w2
 .rw[fG];split
  .rename_i e;subst e;rcases hbn.2.2 with q|q
   .exact absurd q hF
   .have:fr.n<=x:=q;omega
  .exact hM.hr.frame x hx hF
 .obtain⟨d1,d2,d3⟩:=hM.df.at' d hd;have:d≠b:=fun e=>hM.df.sep d hd _ _ _ _ hb h2 (b,o) (by simp) e.symm;exact⟨by rw[fG,if_neg this];exact d1,by rw[fB];exact d2,d3⟩
 .simp only[AS.gG,T.eL] at q;split at q
  .cases q;rw[hnew] at e;cases e;intro p hp;rcases aq.1 hp with rfl|hp
   .exact fun e=>hM.df.sep d hd _ _ _ _ hb h2 (b,o) (by simp) e
   .exact hM.df.sep d hd _ _ _ _ hb h2 p (aB _ hp)
  .obtain⟨c,hp2,y1,y2,y3,y4⟩:=hM.hr.at' _ _ _ q;rw[hle.o y2] at e;cases e;exact hM.df.sep d hd _ _ _ _ q y2
theorem Mem.gG (hM:Mem M fr Z J st){U s b:Nat}{ao ao':AO}{o o':O}(hb:J.mem.get U=some (s,ao))(h1:Z.blks[U]?=some b)(h2:Z.objs[s]?=some [(b,o)])(h:AOR M Z ao' b [(b,o')]):
 ∃ Z',Z.le Z'/\Mem M fr Z' (J.gG U ao') ⟨st.env,st.h.set b (some o'),st.defs⟩:=hM.IQ hb h1 h2 (fun p hp=>nomatch hp) h
theorem Mem.add (hM:Mem M fr Z J st){ao:AO}{o:O}(h:∀ Z':NV,Z.le Z'->AOR M Z' ao st.h.next [(st.h.next,o)]):
  ∃ Z',Z.le Z'/\Z'.blks[J.nb]?=some st.h.next/\Mem M fr Z' (J.add ao) ⟨st.env,st.h.add o,st.defs⟩:=by
 have hle:Z.le { Z with objs:=Z.objs++[[(st.h.next,o)]],blks:=Z.blks++[st.h.next] }:=NV.le.trans (b:={ Z with objs:=Z.objs++[[(st.h.next,o)]] }) lG (BO (Z:={ Z with objs:=Z.objs++[[(st.h.next,o)]] }));have hnew:(Z.objs++[[(st.h.next,o)]])[J.no]?=some [(st.h.next,o)]:=by rw[<- hM.vr.no];simp
 have hbl:(Z.blks++[st.h.next])[J.nb]?=some st.h.next:=by rw[<- hM.vr.nb];simp
 have fresh:∀ E s' a,J.mem.get E=some (s',a)->E≠J.nb/\∃ c hp,Z.blks[E]?=some c/\Z.objs[s']?=some hp/\∀ p,p∈hp->p.1≠st.h.next:=fun E s' a q=>by
  obtain⟨c,hp,y1,y2,y3,y4⟩:=hM.hr.at' _ _ _ q;refine⟨fun e=>?_,c,hp,y1,y2,fun p hp' e=>?_⟩;·have:=(ai.1 y1).1;rw[hM.vr.nb] at this;omega
  .have:=(y4 p hp').2.1;omega
 refine⟨_,hle,hbl,⟨⟨hM.vr.ni,hM.vr.ns,by show(Z.blks++[st.h.next]).length=J.nb+1;simp[hM.vr.nb],by show(Z.objs++[[(st.h.next,o)]]).length=J.no+1;simp[hM.vr.no],hle.i hM.vr.z0,hM.vr.zr.mono hle⟩,hM.sz,hM.er.mono hle,⟨fun E s' a q=>?_,fun E s1 a1 E' s2 a2 q1 q2 hne hp hp' e1 e2=>?_,fun x hx hF=>?_,by rw[gB];have:=hM.hr.le;omega,hM.hr.gl⟩,hM.df.nd,fun d hd=>?_,fun d hd E s' a hp q e=>?_⟩⟩
 .simp only[AS.add,T.eL] at q;split at q;·rename_i e;subst e;cases q;refine⟨_,_,hbl,hnew,h _ hle,fun p hp=>?_⟩;simp only[aq,aA,or_false] at hp;subst hp;exact⟨by rw[iE,if_pos rfl],by rw[gB];omega,.inr hM.hr.le⟩
  .rename_i hne;obtain⟨c,hp,y1,y2,y3,y4⟩:=hM.hr.at' _ _ _ q;refine⟨c,hp,hle.b y1,hle.o y2,y3.mono hle,fun p hp'=>?_⟩;obtain⟨z1,z2,z3⟩:=y4 p hp';refine⟨?_,by rw[gB];omega,z3⟩;rw[iE,if_neg (by omega)];exact z1
 .simp only[AS.add,T.eL] at q1 q2;split at q1
  .rename_i e;subst e;cases q1;have e1:(Z.objs++[[(st.h.next,o)]])[J.no]?=some hp:=e1;rw[hnew] at e1;cases e1;split at q2;·rename_i e;exact absurd e.symm hne
   .obtain⟨_,c,hp2,y1,y2,y3⟩:=fresh _ _ _ q2;rw[hle.o y2] at e2;cases e2;intro p hp q hq;simp only[aq,aA,or_false] at hp;subst hp;exact fun e=>y3 q hq e.symm
  .obtain⟨_,c,hp1,y1,y2,y3⟩:=fresh _ _ _ q1;rw[hle.o y2] at e1;cases e1;split at q2;·rename_i e;subst e;cases q2;have e2:(Z.objs++[[(st.h.next,o)]])[J.no]?=some hp':=e2;rw[hnew] at e2;cases e2;intro p hp q hq;simp only[aq,aA,or_false] at hq;subst hq;exact y3 p hp
   .obtain⟨_,c',hp2,w1,w2,w3⟩:=fresh _ _ _ q2;rw[hle.o w2] at e2;cases e2;exact hM.hr.sep _ _ _ _ _ _ q1 q2 hne _ _ y2 w2
 .rw[iE,if_neg (by have:=hM.hr.le;omega)];exact hM.hr.frame x hx hF
 .obtain⟨d1,d2,d3⟩:=hM.df.at' d hd;exact⟨by rw[iE,if_neg (by omega)];exact d1,by rw[gB];omega,d3⟩
 .simp only[AS.add,T.eL] at q;have hd2:=(hM.df.at' d hd).2.1;split at q;·cases q;have e:(Z.objs++[[(st.h.next,o)]])[J.no]?=some hp:=e;rw[hnew] at e;cases e;intro p hp;simp only[aq,aA,or_false] at hp;subst hp;intro e;simp only at e;omega
  .obtain⟨_,c,hp2,y1,y2,y3⟩:=fresh _ _ _ q;rw[hle.o y2] at e;cases e;exact hM.df.sep d hd _ _ _ _ q y2
def QO (M:TH)(Z':NV)(h h':H)(D:Nat->Prop)(E s:Nat)(ao:AO):Prop:=
 ∃ b hp,Z'.blks[E]?=some b/\Z'.objs[s]?=some hp/\AOR M Z' ao b hp/\∀ p,p∈hp->h'.tr.get p.1=some p.2/\p.1<h'.next/\(D p.1\/h.next<=p.1)
theorem Mem.gen (hM:Mem M fr Z J st){J':AS}{h':H}{D:Nat->Prop}(vr:VR Z' J')(hle:Z.le Z')(hsz:J'.sz=J.sz)(htm:J'.tm=J.tm)(hnext:st.h.next<=h'.next)
  (hown:∀ x,D x->∃ U s ao hp o,J.mem.get U=some (s,ao)/\Z.objs[s]?=some hp/\(x,o)∈hp)
  (hkeep:∀ x,x<st.h.next->¬ D x->h'.tr.get x=st.h.tr.get x)
  (old:∀ E s ao,J'.mem.get E=some (s,ao)->(J.mem.get E=some (s,ao)/\∀ hp,Z.objs[s]?=some hp->∀ p,p∈hp->¬ D p.1)\/QO M Z' st.h h' D E s ao)
  (sep:∀ E s ao E' s' ao',J'.mem.get E=some (s,ao)->J'.mem.get E'=some (s',ao')->E≠E'->QO M Z' st.h h' D E s ao->QO M Z' st.h h' D E' s' ao'->∀ hp hp',Z'.objs[s]?=some hp->Z'.objs[s']?=some hp'->∀ p,p∈hp->∀ q,q∈hp'->p.1≠q.1):
  Mem M fr Z' J' ⟨st.env,h',st.defs⟩:=by
 have own2:∀ x,D x->x<st.h.next/\(fr.F x\/fr.n<=x):=fun x hx=>by obtain⟨U,s,ao,hp,o,e1,e2,e3⟩:=hown x hx;obtain⟨b,hp',a1,a2,a3,a4⟩:=hM.hr.at' _ _ _ e1;rw[e2] at a2;cases a2;exact(a4 _ e3).2
 have mixed:∀ {E s ao E' s' ao' hp hp'},J.mem.get E=some (s,ao)->(∀ hp,Z.objs[s]?=some hp->∀ p,p∈hp->¬ D p.1)->QO M Z' st.h h' D E' s' ao'->Z'.objs[s]?=some hp->Z'.objs[s']?=some hp'->∀ p,p∈hp->∀ q,q∈hp'->p.1≠q.1:=fun {E s ao E' s' ao' hp hp'} o1 o2 n e1 e2 p h1 q h2 e=>by
  obtain⟨c,hp0,y1,y2,y3,y4⟩:=hM.hr.at' _ _ _ o1;rw[hle.o y2] at e1;cases e1;obtain⟨b,hp1,z1,z2,z3,z4⟩:=n;rw[e2] at z2;cases z2;rcases(z4 q h2).2.2 with w|w;·exact o2 _ y2 p h1 (by rw[e];exact w)
  .have:=(y4 p h1).2.1;omega
 refine⟨vr,by rw[hsz];exact hM.sz,by rw[htm];exact hM.er.mono hle,⟨fun E s ao q=>?_,fun E s ao E' s' ao' q q' hne hp hp' e1 e2=>?_,fun x hx hF=>?_,bF hM.hr.le hnext,hM.hr.gl⟩,hM.df.nd,fun d hd=>?_,fun d hd E s ao hp q e=>?_⟩
 .rcases old E s ao q with⟨o1,o2⟩|⟨b,hp,y1,y2,y3,y4⟩;·obtain⟨c,hp,y1,y2,y3,y4⟩:=hM.hr.at' _ _ _ o1;refine⟨c,hp,hle.b y1,hle.o y2,y3.mono hle,fun p hp'=>?_⟩;obtain⟨z1,z2,z3⟩:=y4 p hp';exact⟨by rw[hkeep _ z2 (o2 _ y2 p hp')];exact z1,bh z2 hnext,z3⟩
  .refine⟨b,hp,y1,y2,y3,fun p hp'=>?_⟩;obtain⟨z1,z2,z3⟩:=y4 p hp';refine⟨z1,z2,?_⟩;rcases z3 with z3|z3
   .exact(own2 _ z3).2
   .exact .inr (bF hM.hr.le z3)
 .rcases old E s ao q with⟨o1,o2⟩|n1
  .rcases old E' s' ao' q' with⟨o1',o2'⟩|n2;·obtain⟨c,hp0,y1,y2,y3,y4⟩:=hM.hr.at' _ _ _ o1;obtain⟨c',hp0',w1,w2,w3,w4⟩:=hM.hr.at' _ _ _ o1';rw[hle.o y2] at e1;cases e1;rw[hle.o w2] at e2;cases e2;exact hM.hr.sep _ _ _ _ _ _ o1 o1' hne _ _ y2 w2
   .exact mixed o1 o2 n2 e1 e2
  .rcases old E' s' ao' q' with⟨o1',o2'⟩|n2;·exact fun p h1 q h2 e=>mixed o1' o2' n1 e2 e1 q h2 p h1 e.symm
   .exact sep _ _ _ _ _ _ q q' hne n1 n2 hp hp' e1 e2
 .rw[hkeep x (by have:=hM.hr.le;omega) (fun d=>?_)];·exact hM.hr.frame x hx hF
  .rcases(own2 x d).2 with w|w;·exact hF w
   .omega
 .obtain⟨d1,d2,d3⟩:=hM.df.at' d hd;refine⟨?_,by show d<h'.next;omega,d3⟩;rw[hkeep d d2 (fun x=>?_)];·exact d1
  .obtain⟨U,s,ao,hp,o,e1,e2,e3⟩:=hown d x;exact hM.df.sep d hd _ _ _ _ e1 e2 _ e3 rfl
 .rcases old E s ao q with⟨o1,o2⟩|⟨b,hp0,y1,y2,y3,y4⟩;·obtain⟨c,hp1,w1,w2,w3,w4⟩:=hM.hr.at' _ _ _ o1;rw[hle.o w2] at e;cases e;exact hM.df.sep d hd _ _ _ _ o1 w2
  .rw[e] at y2;cases y2;intro p hp' e';rcases(y4 p hp').2.2 with w|w
   .obtain⟨U,s',ao',hp1,o,e1,e2,e3⟩:=hown _ w;exact hM.df.sep d hd _ _ _ _ e1 e2 _ e3 e'
   .have:=(hM.df.at' d hd).2.1;omega
theorem Mem.swap (hM:Mem M fr Z J st){hp':List (Nat×O)}{h':H}(hb:J.mem.get U=some (s,ao))(h1:Z.blks[U]?=some b)(h2:Z.objs[s]?=some hp)(hnext:st.h.next<=h'.next)(hkeep:∀ x,x<st.h.next->x∉hp.map Prod.fst->h'.tr.get x=st.h.tr.get x)
  (hnew:∀ p,p∈hp'->h'.tr.get p.1=some p.2/\p.1<h'.next/\(p.1∈hp.map Prod.fst\/st.h.next<=p.1)):
  (AOR M Z ao' b hp'->∃ Z',Z.le Z'/\Mem M fr Z' (J.gG U ao') ⟨st.env,h',st.defs⟩) /\
  (∀ b',(∀ Z',Z.le Z'->Z'.blks[J.nb]?=some b'->AOR M Z' ao' b' hp')->∃ Z',Z.le Z'/\Z'.blks[J.nb]?=some b'/\Mem M fr Z' ((J.del U).add ao') ⟨st.env,h',st.defs⟩):=by
 have hown:∀ x,x∈hp.map Prod.fst->∃ U s ao hp o,J.mem.get U=some (s,ao)/\Z.objs[s]?=some hp/\(x,o)∈hp:=fun x hx=>by obtain⟨p,p1,rfl⟩:=aJ.1 hx;exact⟨U,s,ao,hp,p.2,hb,h2,p1⟩
 have other:∀ E s' a,J.mem.get E=some (s',a)->E≠U->∀ hq,Z.objs[s']?=some hq->∀ p,p∈hq->p.1∉hp.map Prod.fst:=fun E s' a q hne hq e p h3 h4=>by obtain⟨r,r1,r2⟩:=aJ.1 h4;exact hM.hr.sep _ _ _ _ _ _ q hb hne _ _ e h2 p h3 r r1 r2.symm
 constructor
 .intro ha;have hle:Z.le { Z with objs:=Z.objs++[hp'] }:=lG;have hno:(Z.objs++[hp'])[J.no]?=some hp':=by rw[<- hM.vr.no];simp
  refine⟨_,hle,hM.gen (D:=fun x=>x∈hp.map Prod.fst) ⟨hM.vr.ni,hM.vr.ns,hM.vr.nb,by show(Z.objs++[hp']).length=J.no+1;simp[hM.vr.no],hle.i hM.vr.z0,hM.vr.zr.mono hle⟩ hle rfl rfl hnext hown hkeep (fun E s' a q=>?_) fun E s1 a1 E' s2 a2 q1 q2 hne n1 n2=>?_⟩
  .simp only[AS.gG,T.eL] at q;split at q;·rename_i e;subst e;cases q;exact .inr ⟨b,hp',h1,hno,ha.mono hle,hnew⟩
   .rename_i hne;exact .inl ⟨q,other E s' a q hne⟩
  .simp only[AS.gG,T.eL] at q1 q2;split at q1
   .rename_i e;subst e;cases q1;split at q2;·rename_i e;exact absurd e.symm hne
    .rename_i hne2;obtain⟨c,hq,y1,y2,y3,y4⟩:=hM.hr.at' _ _ _ q2;obtain⟨b2,hp2,z1,z2,z3,z4⟩:=n2;rw[hle.o y2] at z2;cases z2;intro hpa hpb e1 e2 p p1 q q1;rw[hno] at e1;cases e1;rw[hle.o y2] at e2;cases e2;intro e;rcases(hnew p p1).2.2 with w|w
     .exact other _ _ _ q2 hne2 _ y2 q q1 (by rw[<- e];exact w)
     .have:=(y4 q q1).2.1;omega
   .rename_i hne1;obtain⟨c,hq,y1,y2,y3,y4⟩:=hM.hr.at' _ _ _ q1;split at q2
    .rename_i e;subst e;cases q2;intro hpa hpb e1 e2 p p1 q q1';rw[hno] at e2;cases e2;rw[hle.o y2] at e1;cases e1;intro e;rcases(hnew q q1').2.2 with w|w
     .exact other _ _ _ q1 hne1 _ y2 p p1 (by rw[e];exact w)
     .have:=(y4 p p1).2.1;omega
    .obtain⟨c',hq',w1,w2,w3,w4⟩:=hM.hr.at' _ _ _ q2;intro hpa hpb e1 e2;rw[hle.o y2] at e1;cases e1;rw[hle.o w2] at e2;cases e2;exact hM.hr.sep _ _ _ _ _ _ q1 q2 hne _ _ y2 w2
 .intro b' ha;have hle:Z.le { Z with objs:=Z.objs++[hp'],blks:=Z.blks++[b'] }:=NV.le.trans (b:={ Z with objs:=Z.objs++[hp'] }) lG (BO (Z:={ Z with objs:=Z.objs++[hp'] }));have hno:(Z.objs++[hp'])[J.no]?=some hp':=by rw[<- hM.vr.no];simp
  have hbl:(Z.blks++[b'])[J.nb]?=some b':=by rw[<- hM.vr.nb];simp
  have nnb:∀ E s' a,J.mem.get E=some (s',a)->E≠J.nb:=fun E s' a q e=>by obtain⟨c,hq,y1,_⟩:=hM.hr.at' _ _ _ q;have:=(ai.1 y1).1;rw[hM.vr.nb] at this;omega
  have got:∀ E s' a,((J.del U).add ao').mem.get E=some (s',a)->(E=J.nb/\s'=J.no/\a=ao')\/(E≠U/\J.mem.get E=some (s',a)):=fun E s' a q=>by
   simp only[AS.add,AS.del,T.eL] at q;split at q;·cases q;exact .inl ⟨by assumption,rfl,rfl⟩
   .split at q;·cases q
    .exact .inr ⟨by assumption,q⟩
  refine⟨_,hle,hbl,hM.gen (D:=fun x=>x∈hp.map Prod.fst) ⟨hM.vr.ni,hM.vr.ns,by show(Z.blks++[b']).length=J.nb+1;simp[hM.vr.nb],by show(Z.objs++[hp']).length=J.no+1;simp[hM.vr.no],hle.i hM.vr.z0,hM.vr.zr.mono hle⟩ hle rfl rfl hnext hown hkeep (fun E s' a q=>?_) fun E s1 a1 E' s2 a2 q1 q2 hne n1 n2=>?_⟩
  .rcases got _ _ _ q with⟨rfl,rfl,rfl⟩|⟨w1,w2⟩;·exact .inr ⟨b',hp',hbl,hno,ha _ hle hbl,hnew⟩
   .exact .inl ⟨w2,other E s' a w2 w1⟩
  .rcases got _ _ _ q1 with⟨rfl,rfl,rfl⟩|⟨w1,w2⟩
   .rcases got _ _ _ q2 with⟨rfl,rfl,rfl⟩|⟨u1,u2⟩;·exact absurd rfl hne
    .obtain⟨c,hq,y1,y2,y3,y4⟩:=hM.hr.at' _ _ _ u2;intro hpa hpb e1 e2 p p1 q q1;have e1:(Z.objs++[hp'])[J.no]?=some hpa:=e1;rw[hno] at e1;cases e1;rw[hle.o y2] at e2;cases e2;intro e;rcases(hnew p p1).2.2 with w|w;·exact other _ _ _ u2 u1 _ y2 q q1 (by rw[<- e];exact w)
     .have:=(y4 q q1).2.1;omega
   .obtain⟨c,hq,y1,y2,y3,y4⟩:=hM.hr.at' _ _ _ w2;rcases got _ _ _ q2 with⟨rfl,rfl,rfl⟩|⟨u1,u2⟩
    .intro hpa hpb e1 e2 p p1 q q1';have e2:(Z.objs++[hp'])[J.no]?=some hpb:=e2;rw[hno] at e2;cases e2;rw[hle.o y2] at e1;cases e1;intro e;rcases(hnew q q1').2.2 with w|w
     .exact other _ _ _ w2 w1 _ y2 p p1 (by rw[e];exact w)
     .have:=(y4 p p1).2.1;omega
    .obtain⟨c',hq',z1,z2,z3,z4⟩:=hM.hr.at' _ _ _ u2;intro hpa hpb e1 e2;rw[hle.o y2] at e1;cases e1;rw[hle.o z2] at e2;cases e2;exact hM.hr.sep _ _ _ _ _ _ w2 u2 hne _ _ y2 z2
end
theorem Kv {b:Nat}{l:List V}:∀ {g:List (Nat×List V)},Oz b g=some l->(b,l)∈g
 |[],h=>by cases h
 |p :: g,h=>by
  simp only[Oz] at h;split at h;·rename_i e;rw[T.beq_true] at e;cases h;subst e;exact aE ..
  .exact aB _ (Kv h)
theorem Mem.gl {M:TH}{fr:FR}{Z:NV}{J:AS}{st:St}(hM:Mem M fr Z J st){b:Nat}{l:List V}(h:Oz b gls=some l):st.h.tr.get b=some (.ro (some 0) l.length l .leaf):=by obtain⟨a,c,d⟩:=hM.hr.gl _ (Kv h);rw[hM.hr.frame _ a c];exact d
end Go.Ae

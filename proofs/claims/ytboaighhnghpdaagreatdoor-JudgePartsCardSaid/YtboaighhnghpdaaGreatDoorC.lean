/- A checker of contracts over patterns of memory. -/
import Derived.Test.YtboaighhnghpdaaGreatDoorD
set_option linter.unusedVariables false
set_option linter.unusedSimpArgs false
set_option maxHeartbeats 1000000
namespace Go.Ae
open Go.Ev
noncomputable section
inductive RV where
 |e (e:LE)
 |b (e:BE)
structure TA where
 nx:Nat
 ns:Nat
 nb:Nat
 i:List RV
 s:List A
 b:List Nat
def TA.blk (X:TA)(U:Nat):Option Nat:=match Nat.blt U X.nb with
 |true=>some U
 |false=>OC X.b (Nat.sub U X.nb)
def TA.le (X:TA)(e:LE):Option LE:=match Nat.blt e.1 X.nx with
 |true=>some e
 |false=>match OC X.i (Nat.sub e.1 X.nx) with
  |some (.e p)=>some (plus p e.2)
  |_=>none
def TA.ole (X:TA)(e:Option LE):Option (Option LE):=match e with
 |none=>some none
 |some e=>match X.le e with
  |some e=>some (some e)
  |none=>none
def TA.be (X:TA):BE->Option BE
 |.lit b=>some (.lit b)
 |.lt x y=>match isZ x&&ieq y.2 0&&!Nat.blt y.1 X.nx,OC X.i (Nat.sub y.1 X.nx) with
  |true,some (.b e)=>some e
  |_,_=>match X.le x,X.le y with
   |some x,some y=>some (.lt x y)
   |_,_=>none
 |.eq x y=>match X.le x,X.le y with
  |some x,some y=>some (.eq x y)
  |_,_=>none
 |.not e=>match X.be e with
  |some e=>some (.not e)
  |none=>none
def TA.off (X:TA)(o:Off):Option Off:=match Nat.beq o.st 0 with
 |true=>some ⟨o.o,(0,0),0⟩
 |false=>match X.le o.e with
  |some e=>some ⟨o.o,e,o.st⟩
  |none=>none
def TA.cap (X:TA)(c:BG):Option BG:=match c with
 |.kn e=>match X.le e with
  |some e=>some (.kn e)
  |none=>none
 |.al e s=>match X.le e with
  |some e=>some (.al e s)
  |none=>none
def TA.ek (X:TA)(k:EK):Option EK:=match k with
 |.int k lo hi=>match X.ole lo,X.ole hi with
  |some lo,some hi=>some (.int k lo hi)
  |_,_=>none
 |.re ..=>none
 |k=>some k
mutual
def TA.a (X:TA):A->Option A
 |.k v=>some (.k v)
 |.i k e=>match X.le e with
  |some e=>some (.i k e)
  |none=>none
 |.b e=>match X.be e with
  |some e=>some (.b e)
  |none=>none
 |.s j x=>match Nat.blt j X.ns&&Nat.blt x X.nx with
  |true=>some (.s j x)
  |false=>match Nat.blt j X.ns with
   |true=>none
   |false=>match OC X.s (Nat.sub j X.ns),X.le (x,0) with
    |some (.s j' _),some e=>match ieq e.2 0 with
     |true=>some (.s j' e.1)
     |false=>none
    |some (.k (.str l)),some e=>match Nat.beq e.1 0&&ieq e.2 (Int.ofNat l.length) with
     |true=>some (.k (.str l))
     |false=>none
    |_,_=>none
 |.p U o=>match X.blk U,X.off o with
  |some U,some o=>some (.p U o)
  |_,_=>none
 |.sl U o n c=>match X.blk U,X.off o,X.le n,X.cap c with
  |some U,some o,some n,some c=>some (.sl U o n c)
  |_,_,_,_=>none
 |.su U w N n=>match X.blk U,X.le N,X.le n with
  |some U,some N,some n=>some (.su U w N n)
  |_,_,_=>none
 |.sn U x n c=>match X.blk U,X.le x,X.le n,X.le c with
  |some U,some x,some n,some c=>some (.sn U x n c)
  |_,_,_,_=>none
 |.re ..=>none
 |.m U=>match X.blk U with
  |some U=>some (.m U)
  |none=>none
 |.fn f a c=>match X.as a,X.as c with
  |some a,some c=>some (.fn f a c)
  |_,_=>none
 |.yd U=>match X.blk U with
  |some U=>some (.yd U)
  |none=>none
 |.ifc t a=>match X.a a with
  |some a=>some (.ifc t a)
  |none=>none
 |.ag l=>match X.as l with
  |some l=>some (.ag l)
  |none=>none
 |.tp l=>match X.as l with
  |some l=>some (.tp l)
  |none=>none
 |.rw ks n none=>match eX X.ek ks,X.le n with
  |some ks,some n=>some (.rw ks n none)
  |_,_=>none
 |.rw _ _ (some _)=>none
def TA.as (X:TA):List A->Option (List A)
 |[]=>some []
 |a :: l=>match X.a a,X.as l with
  |some a,some l=>some (a :: l)
  |_,_=>none
end
def TA.lel (X:TA)(p:LE×LE):Option (LE×LE):=match X.le p.1,X.le p.2 with
 |some a,some b=>some (a,b)
 |_,_=>none
def Oo:List (Int×A)->List A->List (Int×A)
 |e :: l,a :: r=>(e.1,a) :: Oo l r
 |_,_=>[]
def TA.ao (X:TA)(o:AO):Option AO:=match o with
 |.cl ro t l=>match X.as l with
  |some l=>some (.cl ro t l)
  |none=>none
 |.mp kk ka vk va=>match eX X.ek kk,eX X.ek vk with
  |some kk,some vk=>some (.mp kk ka vk va)
  |_,_=>none
 |.df=>some .df
 |.ob τ ps=>match eX X.le ps with
  |some ps=>some (.ob τ ps)
  |none=>none
 |.lp _=>none
 |.rr t te ks B m n none=>match eX X.ek ks,X.le B,X.le m,X.le n with
  |some ks,some B,some m,some n=>some (.rr t te ks B m n none)
  |_,_,_,_=>none
 |.rr _ _ _ _ _ _ (some _)=>none
 |.mx es=>match X.as (es.map Prod.snd) with
  |some l=>some (.mx (Oo es l))
  |none=>none
 |.bc t w mx n T none=>match X.le n,X.le T with
  |some n,some T=>some (.bc t w mx n T none)
  |_,_=>none
 |.bc _ _ _ _ _ (some _)=>none
 |.so ro t n k lo hi els=>match X.le n,X.le k,X.ole lo,X.ole hi,eX X.lel els with
  |some n,some k,some lo,some hi,some els=>some (.so ro t n k lo hi els)
  |_,_,_,_,_=>none
 |.me ..=>none
 |.tl ..=>none
 |.mq ..=>none
 |.sp E ro t tT v n k els=>match X.blk E,X.le n,X.le k,eX X.lel els with
  |some E,some n,some k,some els=>some (.sp E ro t tT v n k els)
  |_,_,_,_=>none
 |.it a p=>match X.a a,X.le p with
  |some a,some p=>some (.it a p)
  |_,_=>none
def Q0 (z:ZN)(a b:Off):Bool:=Nat.beq a.o b.o&&Nat.beq a.st b.st&&(Nat.beq a.st 0 || eqQ z a.e b.e)
def eqC (z:ZN)(a b:BG):Bool:=match a,b with
 |.kn a,.kn b=>eqQ z a b
 |.al a s,.al b t=>eqQ z a b&&Nat.beq s t
 |_,_=>false
def eqB:BE->BE->Bool
 |.lit a,.lit b=>a == b
 |.lt a b,.lt c d=>Nat.beq a.1 c.1&&ieq a.2 c.2&&Nat.beq b.1 d.1&&ieq b.2 d.2
 |.eq a b,.eq c d=>Nat.beq a.1 c.1&&ieq a.2 c.2&&Nat.beq b.1 d.1&&ieq b.2 d.2
 |.not a,.not b=>eqB a b
 |_,_=>false
def DU (z:ZN)(a b:Option LE):Bool:=match b with
 |none=>true
 |some b=>match a with
  |some a=>leQ z b a
  |none=>false
def DV (z:ZN)(a b:Option LE):Bool:=match b with
 |none=>true
 |some b=>match a with
  |some a=>leQ z a b
  |none=>false
def R9 (z:ZN)(a b:EK):Bool:=match (match a,b with
  |.cst v,.cst w=>rI v w
  |_,_=>false) with
 |true=>true
 |false=>match Dn z a,b with
  |some (.int k lo hi),.int k' lo' hi'=>decide (k=k')&&DU z lo lo'&&DV z hi hi'
  |some .bool,.bool=>true
  |some .str,.str=>true
  |some (.stb n),.stb m=>Nat.ble n m
  |some (.stb _),.str=>true
  |_,_=>false
def wz (z:ZN):List EK->List EK->Bool
 |[],[]=>true
 |a :: l,b :: r=>R9 z a b&&wz z l r
 |_,_=>false
mutual
def uj (z:ZN):A->A->Bool
 |.k v,b=>match b with
  |.k w=>rI v w
  |.i k e=>match v with
   |.int k' n=>decide (k=k')&&eqQ z (0,n) e
   |_=>false
  |.b (.lit c)=>match v with
   |.bool d=>c == d
   |_=>false
  |_=>false
 |.i k e,b=>match b with
  |.i k' e'=>decide (k=k')&&eqQ z e e'
  |.k (.int k' n)=>decide (k=k')&&eqQ z e (0,n)
  |_=>false
 |.b e,b=>match b with
  |.b e'=>eqB e e'
  |_=>false
 |.s j x,b=>match b with
  |.s j' x'=>Nat.beq j j'&&Nat.beq x x'
  |_=>false
 |.p U o,b=>match b with
  |.p U' o'=>Nat.beq U U'&&Q0 z o o'
  |_=>false
 |.sl U o n c,b=>match b with
  |.sl U' o' n' c'=>Nat.beq U U'&&Q0 z o o'&&eqQ z n n'&&eqC z c c'
  |.su U' w N n'=>Nat.beq U U'&&QH z o n c w N&&eqQ z n n'
  |_=>false
 |.su U w N n,b=>match b with
  |.su U' w' N' n'=>Nat.beq U U'&&Nat.beq w w'&&eqQ z N N'&&eqQ z n n'
  |_=>false
 |.re ..,_=>false
 |.sn _ x n c,b=>match b with
  |.sn _ x' n' c'=>eqQ z x x'&&eqQ z n n'&&eqQ z c c'
  |_=>false
 |.m U,b=>match b with
  |.m U'=>Nat.beq U U'
  |_=>false
 |.fn f a c,b=>match b with
  |.fn f' a' c'=>Nat.beq f f'&&wA z a a'&&wA z c c'
  |_=>false
 |.yd U,b=>match b with
  |.yd U'=>Nat.beq U U'
  |_=>false
 |.ifc t a,b=>match b with
  |.ifc t' a'=>Nat.beq t t'&&uj z a a'
  |_=>false
 |.tp l,b=>match b with
  |.tp l'=>wA z l l'
  |_=>false
 |.ag l,b=>match b with
  |.ag l'=>KY z l l'
  |_=>false
 |.rw ..,_=>false
def wA (z:ZN):List A->List A->Bool
 |[],[]=>true
 |a :: l,b :: r=>uj z a b&&wA z l r
 |_,_=>false
def KY (z:ZN):List A->List A->Bool
 |[],[]=>true
 |a :: l,b :: r=>match plain a&&plain b with
  |true=>uj z a b&&KY z l r
  |false=>match a,b with
   |.rw ks n none,.rw ks' n' none=>wz z ks ks'&&eqQ z n n'&&KY z l r
   |_,_=>false
 |_,_=>false
end
def Jz (z:ZN)(l:List A)(p:List A):List A:=match p with
 |[.rw ks _ none]=>match l with
  |[]=>[.rw ks (0,0) none]
  |[.rw ..]=>l
  |l=>match rowOf z ks.length l with
   |some r=>[.rw r.1 r.2 none]
   |none=>l
 |_=>l
def M9 (a b:Option TypeId):Bool:=match a,b with
 |none,none=>true
 |some a,some b=>Nat.beq a b
 |_,_=>false
def Q1 (z:ZN):List LE->List LE->Bool
 |[],[]=>true
 |a :: l,b :: r=>eqQ z a b&&Q1 z l r
 |_,_=>false
def T5 (B:LE):Option Nat:=match Nat.beq B.1 0,B.2 with
 |true,.ofNat n=>some n
 |_,_=>none
def fm {α:Type}(f:α->Bool):List α->Bool
 |[]=>true
 |x :: l=>match f x with
  |true=>fm f l
  |false=>false
def JA:List (Int×A)->List (Int×A)->Bool
 |[],[]=>true
 |e :: l,f :: r=>ieq e.1 f.1&&JA l r
 |_,_=>false
def Sa (z:ZN)(a b:AO):Bool:=match a,b with
 |.cl r t l,.cl r' t' l'=>(r == r')&&M9 t t'&&KY z (Jz z (nY z l) l') l'
 |.mp kk ka vk va,.mp kk' ka' vk' va'=>(ka == ka')&&(va == va')&&wz z kk kk'&&wz z vk vk'
 |.df,.df=>true
 |.ob τ ps,.ob τ' ps'=>Nat.beq τ τ'&&Q1 z ps ps'
 |.it a p,.it a' p'=>uj z a a'&&eqQ z p p'
 |.mx es,.mx es'=>JA es es'&&wA z (es.map Prod.snd) (es'.map Prod.snd)
 |.rr t te ks B m n none,.rr t' te' ks' B' m' n' none=>Nat.beq t t'&&Nat.beq te te'&&eqQ z B B'&&wz z ks ks'&&eqQ z m m'&&eqQ z n n'
 |.cl false (some t) [.rw [.cst .nils] N none],.rr t' _ _ B m n none=>Nat.beq t t'&&(T5 B).isSome&&eqQ z N m&&eqQ z N n
 |.cl false (some t) [.rw [_] N none],.rr t' _ _ B m n none=>Nat.beq t t'&&leQ z (0,0) B&&isZ m&&eqQ z N n
 |.sp E ro t tT v n k els,.sp E' ro' t' tT' v' n' k' els'=>Nat.beq E E'&&(ro == ro')&&M9 t t'&&M9 tT tT'&&ieq v v'&&eqQ z n n'&&leQ z k k'&&fm (fun p=>match atE z p.1 els with
  |some v=>eqQ z v p.2
  |none=>false) els'
 |.so ro t n _ _ _ _,.cl ro' t' [.rw [.int k none none] n' none]=>(ro == ro')&&M9 t t'&&decide (k=.i64)&&eqQ z n n'
 |.so ro t n k lo hi els,.so ro' t' n' k' lo' hi' els'=>(ro == ro')&&M9 t t'&&eqQ z n n'&&leQ z k k'&&DU z lo lo'&&DV z hi hi'&&fm (fun p=>match atE z p.1 els with
  |some v=>eqQ z v p.2
  |none=>false) els'
 |.bc t w mx n T _,.bc t' w' mx' n' T' none=>Nat.beq t t'&&Nat.beq w w'&&Nat.beq mx mx'&&eqQ z n n'&&eqQ z T T'
 |_,_=>false
structure GA where
 i:T RV
 s:T A
 b:T Nat
def GA.AP (g:GA)(x:Nat)(r:RV):GA:=match g.i.get x with
 |some _=>g
 |none=>{ g with i:=g.i.put x (some r) }
mutual
def gA (nx ns nb:Nat):A->A->GA->GA
 |.i _ e,a,g=>match Nat.blt e.1 nx,toI a with
  |false,some p=>g.AP e.1 (.e (plus p.2 (Int.neg e.2)))
  |_,_=>g
 |.b (.lt _ y),a,g=>match Nat.blt y.1 nx,toB a with
  |false,some e=>g.AP y.1 (.b e)
  |_,_=>g
 |.s j x,a,g=>match Nat.blt j ns with
  |true=>g
  |false=>match a with
   |.s _ x'=>{ g.AP x (.e (x',0)) with s:=g.s.put j (some a) }
   |.k (.str l)=>{ g.AP x (.e (0,Int.ofNat l.length)) with s:=g.s.put j (some a) }
   |_=>g
 |.p U _,a,g=>match Nat.blt U nb,a with
  |false,.p U' _=>{ g with b:=g.b.put U (some U') }
  |_,_=>g
 |.sl U _ n c,a,g=>match a with
  |.sl U' _ n' c'=>
   let g:=match Nat.blt U nb with
    |false=>{ g with b:=g.b.put U (some U') }
    |true=>g
   let g:=match Nat.blt n.1 nx with
    |false=>g.AP n.1 (.e (plus n' (Int.neg n.2)))
    |true=>g
   match c,c' with
   |.kn c,.kn c'=>match Nat.blt c.1 nx with
    |false=>g.AP c.1 (.e (plus c' (Int.neg c.2)))
    |true=>g
   |.al c _,.al c' _=>match Nat.blt c.1 nx with
    |false=>g.AP c.1 (.e (plus c' (Int.neg c.2)))
    |true=>g
   |_,_=>g
  |_=>g
 |.sn U x n c,a,g=>match a with
  |.sn U' x' n' c'=>
   let g:=match Nat.blt U nb with
    |false=>{ g with b:=g.b.put U (some U') }
    |true=>g
   let g:=match Nat.blt x.1 nx with
    |false=>g.AP x.1 (.e (plus x' (Int.neg x.2)))
    |true=>g
   let g:=match Nat.blt n.1 nx with
    |false=>g.AP n.1 (.e (plus n' (Int.neg n.2)))
    |true=>g
   match Nat.blt c.1 nx with
    |false=>g.AP c.1 (.e (plus c' (Int.neg c.2)))
    |true=>g
  |_=>g
 |.su U _ N n,a,g=>match a with
  |.su U' _ N' n'=>
   let g:=match Nat.blt U nb with
    |false=>{ g with b:=g.b.put U (some U') }
    |true=>g
   let g:=match Nat.blt N.1 nx with
    |false=>g.AP N.1 (.e (plus N' (Int.neg N.2)))
    |true=>g
   match Nat.blt n.1 nx with
    |false=>g.AP n.1 (.e (plus n' (Int.neg n.2)))
    |true=>g
  |.sl U' _ n' _=>
   let g:=match Nat.blt U nb with
    |false=>{ g with b:=g.b.put U (some U') }
    |true=>g
   match Nat.blt n.1 nx with
    |false=>g.AP n.1 (.e (plus n' (Int.neg n.2)))
    |true=>g
  |_=>g
 |.m U,a,g=>match Nat.blt U nb,a with
  |false,.m U'=>{ g with b:=g.b.put U (some U') }
  |_,_=>g
 |.fn _ x y,a,g=>match a with
  |.fn _ x' y'=>gAs nx ns nb y y' (gAs nx ns nb x x' g)
  |_=>g
 |.ifc _ x,a,g=>match a with
  |.ifc _ x'=>gA nx ns nb x x' g
  |_=>g
 |.ag l,a,g=>match a with
  |.ag l'=>gAs nx ns nb l l' g
  |_=>g
 |.tp l,a,g=>match a with
  |.tp l'=>gAs nx ns nb l l' g
  |_=>g
 |.rw _ n none,a,g=>match a with
  |.rw _ n' _=>match Nat.blt n.1 nx with
   |false=>g.AP n.1 (.e (plus n' (Int.neg n.2)))
   |true=>g
  |_=>g
 |_,_,g=>g
def gAs (nx ns nb:Nat):List A->List A->GA->GA
 |a :: l,b :: r,g=>gAs nx ns nb l r (gA nx ns nb a b g)
 |_,_,g=>g
end
def gOL (nx:Nat)(a b:Option LE)(g:GA):GA:=match a,b with
 |some a,some b=>match Nat.blt a.1 nx with
  |true=>g
  |false=>g.AP a.1 (.e (plus b (Int.neg a.2)))
 |_,_=>g
def Sb (nx:Nat):List (LE×LE)->List (LE×LE)->GA->GA
 |a :: l,b :: r,g=>Sb nx l r (gOL nx (some a.1) (some b.1) (gOL nx (some a.2) (some b.2) g))
 |_,_,g=>g
def gO (nx ns nb:Nat)(z:ZN)(p a:AO)(g:GA):GA:=match p,a with
 |.cl _ _ l,.cl _ _ l'=>gAs nx ns nb l (Jz z l' l) g
 |.ob _ ps,.ob _ ps'=>gAs nx ns nb (ps.map (A.i .i64)) (ps'.map (A.i .i64)) g
 |.mx es,.mx es'=>gAs nx ns nb (es.map Prod.snd) (es'.map Prod.snd) g
 |.it x p,.it x' p'=>gA nx ns nb (.i .i64 p) (.i .i64 p') (gA nx ns nb x x' g)
 |.rr _ _ _ B m n _,.rr _ _ _ B' m' n' _=>gAs nx ns nb [.i .i64 B,.i .i64 m,.i .i64 n] [.i .i64 B',.i .i64 m',.i .i64 n'] g
 |.sp _ _ _ _ _ n k els,.sp _ _ _ _ _ n' k' els'=>Sb nx els els' (gAs nx ns nb [.i .i64 n,.i .i64 k] [.i .i64 n',.i .i64 k'] g)
 |.so _ _ n k lo hi els,.so _ _ n' k' lo' hi' els'=>Sb nx els els' (gOL nx hi hi' (gOL nx lo lo' (gAs nx ns nb [.i .i64 n,.i .i64 k] [.i .i64 n',.i .i64 k'] g)))
 |.bc _ _ _ n T _,.bc _ _ _ n' T' _=>gAs nx ns nb [.i .i64 n,.i .i64 T] [.i .i64 n',.i .i64 T'] g
 |.rr _ _ _ _ m n _,.cl _ _ [.rw _ N _]=>gAs nx ns nb [.i .i64 m,.i .i64 n] [.i .i64 N,.i .i64 N] g
 |_,_=>g
structure PT where
 ni:Nat
 ns:Nat
 nb:Nat
 tm:List (Tmp×A)
 mem:List (Nat×AO)
 fs:List (LE×LE)
def gT (nx ns nb:Nat)(J:AS):List (Tmp×A)->GA->GA
 |[],g=>g
 |p :: l,g=>gT nx ns nb J l (match J.tm.get p.1 with
  |some a=>gA nx ns nb p.2 a g
  |none=>g)
def gM (nx ns nb:Nat)(J:AS):List (Nat×AO)->GA->GA
 |[],g=>g
 |p :: l,g=>gM nx ns nb J l (match (match Nat.blt p.1 nb with
   |true=>some p.1
   |false=>g.b.get p.1) with
  |some U=>match J.mem.get U with
   |some (_,ao)=>gO nx ns nb J.z p.2 ao g
   |none=>g
  |none=>g)
def gM0 (nx ns nb:Nat)(J:AS):List (Nat×AO)->GA->GA
 |[],g=>g
 |p :: l,g=>gM0 nx ns nb J l (match (match Nat.blt p.1 nb with
   |true=>true
   |false=>(g.b.get p.1).isSome),p.2,J.mem.get 0 with
  |false,.ob ..,some (_,ao)=>gO nx ns nb J.z p.2 ao g
  |_,_,_=>g)
def CJ {α:Type}(t:T α)(d:α):Nat->Nat->List α
 |_,0=>[]
 |i,n+1=>(match t.get i with
  |some x=>x
  |none=>d) :: CJ t d (Nat.succ i) n
def guess (nx ns nb:Nat)(p:PT)(J:AS):TA:=
 let g:=gM0 nx ns nb J p.mem (gM nx ns nb J p.mem (gM nx ns nb J p.mem (gT nx ns nb J p.tm ⟨.leaf,.leaf,.leaf⟩)))
 ⟨nx,ns,nb,CJ g.i (.e (0,0)) nx p.ni,CJ g.s (.k (.str [])) ns p.ns,CJ g.b 0 nb p.nb⟩
def Pz (n:Nat):BE->Bool
 |.lit _=>true
 |.lt x y=>Nat.blt x.1 n&&Nat.blt y.1 n
 |.eq x y=>Nat.blt x.1 n&&Nat.blt y.1 n
 |.not e=>Pz n e
def UO (J:AS)(r:RV):Bool:=match r with
 |.e e=>Nat.blt e.1 J.nx
 |.b e=>Pz J.nx e
def Sc (J:AS)(a:A):Bool:=match a with
 |.s j _=>Nat.blt j J.ns
 |.k (.str _)=>true
 |_=>false
def T6 (X:TA)(J:AS)(p:Tmp×A):Bool:=match J.tm.get p.1,X.a p.2 with
 |some a,some b=>uj J.z a b
 |_,_=>false
def Sd (X:TA)(J:AS)(p:Nat×AO):Bool:=match X.blk p.1 with
 |some U=>match J.mem.get U,X.ao p.2 with
  |some (_,a),some b=>Sa J.z a b
  |_,_=>false
 |none=>false
def T7 (X:TA)(J:AS)(p:LE×LE):Bool:=match X.le p.1,X.le p.2 with
 |some a,some b=>leQ J.z a b
 |_,_=>false
def Ey (n:Nat):List Nat->Bool
 |[]=>false
 |m :: l=>match Nat.beq n m with
  |true=>true
  |false=>Ey n l
def apart:List Nat->Bool
 |[]=>true
 |n :: l=>match Ey n l with
  |true=>false
  |false=>apart l
def ko (X:TA)(p:PT):List Nat:=p.mem.map fun q=>match X.blk q.1 with
 |some U=>U
 |none=>0
def met (X:TA)(p:PT)(J:AS):Bool:=
 Nat.beq X.i.length p.ni&&Nat.beq X.s.length p.ns&&Nat.beq X.b.length p.nb&&fm (UO J) X.i&&fm (Sc J) X.s&&fm (fun U=>Nat.blt U J.nb) X.b &&
 fm (T6 X J) p.tm&&fm (Sd X J) p.mem&&fm (T7 X J) p.fs&&apart (ko X p)
end
noncomputable section
def lq (J:AS):List Operand->Option (List A)
 |[]=>some []
 |x :: l=>match J.eval x,lq J l with
  |some a,some r=>some (a :: r)
  |_,_=>none
def FE (J:AS)(x:Option Operand):Option (Option A):=
 match x with
 |none=>some none
 |some x=>match J.eval x with
  |some a=>some (some a)
  |none=>none
def UE (v:V):Option EK:=match v with
 |.int k _=>some (.int k none none)
 |.bool _=>some .bool
 |.str _=>some .str
 |_=>none
def xO (ty:TY)(k:EK):Bool:=match ty.desc,k with
 |.bool,.bool=>true
 |.int _,.int ..=>true
 |.string,.str=>true
 |_,_=>false
def nl (G:Γ):List Field->List EK->Nat->Bool
 |[],[],_=>true
 |f :: fs,k :: ks,j=>(match G.ty f.type with
  |some ft=>!ft.agg&&xO ft k
  |none=>false)&&!decide (f.name = "_")&&Nat.beq f.offset j&&nl G fs ks (Nat.succ j)
 |_,_,_=>false
def tY (G:Γ)(t:TypeId)(ag:Bool)(ks:List EK):Bool:=match lV G 4 t,G.ty t with
 |true,some ty=>match ag with
  |false=>match ks with
   |[k]=>xO ty k
   |_=>false
  |true=>match ty.desc with
   |.struct fs=>G.eqs.contains t&&Nat.beq ks.length ty.size&&nl G fs.toList ks 0
   |_=>false
 |_,_=>false
def Dx (z:ZN)(ag:Bool)(a:A):Option (List EK):=match ag with
 |false=>match plain a,pY z a with
  |true,some k=>some [k]
  |_,_=>none
 |true=>match a with
  |.ag l=>match l.all plain with
   |true=>eX (pY z) l
   |false=>none
  |_=>none
def Oh (z:ZN)(ag:Bool)(a:A)(ks:List EK):Bool:=match Dx z ag a with
 |some l=>wz z l ks
 |none=>false
def QV (ag:Bool)(l:List A):Option A:=match ag with
 |true=>some (.ag l)
 |false=>match l with
  |[a]=>some a
  |_=>none
def I6 (ty:TY):Option A:=match zeroV ty with
 |some cs=>match (cs.map A.k).all plain with
  |true=>match ty.zero with
   |some (.agg ..)=>some (.ag (cs.map A.k))
   |some v=>some (.k v)
   |none=>none
  |false=>none
 |none=>none
def okR (ok:Bool)(a:A)(b:Bool):A:=match ok with
 |true=>.tp [a,.k (.bool b)]
 |false=>a
def isFun:TypeDesc->Bool
 |.func ..=>true
 |_=>false
def FF (p:LE)(K:A->AS->Bool)(Zz:AS->Bool):List (Int×A)->AS->Bool
 |[],J=>Zz J
 |e :: l,J=>ifE (.eq p (0,e.1)) J (K e.2) (FF p K Zz l)
def I7 (n:Int):List (Int×A)->Bool
 |[]=>false
 |e :: l=>match ieq n e.1 with
  |true=>true
  |false=>I7 n l
def RE (v:V):EK:=match v with
 |.int k _=>.int k (some (0,pW k)) (some (0,rE k))
 |v=>.cst v
def vN (G:Γ)(ty:Option TY)(J:AS)(K:A->AS->Bool):Bool:=match ty with
 |some ty=>match ty.desc with
  |.map kt et=>match G.ty kt,G.ty et with
   |some tk,some te=>match isFun te.desc with
    |true=>K (.m J.nb) (J.add (.mx []))
    |false=>opt (zeroV tk) fun zk=>opt (eX UE zk) fun kk=>opt (zeroV te) fun zv=>K (.m J.nb) (J.add (.mp kk tk.agg (zv.map RE) te.agg))
   |_,_=>false
  |_=>false
 |none=>false
def vO (G:Γ)(ty:Option TY)(x k:A)(ok:Bool)(J:AS)(K:A->AS->Bool):Bool:=match ty with
 |some ty=>match ty.desc,x with
  |.map kt et,.m U=>match J.mem.get U,G.ty et with
   |some (_,.mx es),some te=>match tY G kt false [.int .i64 none none],toI k with
    |true,some (.i64,p)=>FF p (fun a J=>K (okR ok a true) J) (fun J=>opt (I6 te) fun z=>K (okR ok z false) J) es J
    |_,_=>false
   |some (_,.mp kk ka vk va),some te=>tY G kt ka kk&&Oh J.z ka k kk&&(opt (I6 te) fun z=>K (okR ok z false) J)&&rJ vk J fun l J=>opt (QV va l) fun a=>K (okR ok a true) J
   |_,_=>false
  |_,_=>false
 |none=>false
def TW (z:ZN)(a b:A):Bool:=match a,b with
 |.i k e,.i k' e'=>decide (k=k')&&eqQ z e e'
 |_,_=>false
def Oi (z:ZN):List A->List A->Bool
 |[],[]=>true
 |a :: l,b :: r=>TW z a b&&Oi z l r
 |_,_=>false
def Mv (z:ZN)(key:List A)(a:A):Bool:=match a with
 |.ag l=>Oi z key l
 |_=>false
def vP (G:Γ)(ty:Option TY)(x k v:A)(J:AS)(K:A->AS->Bool):Bool:=match ty with
 |some ty=>match ty.desc,x with
  |.map kt _,.m U=>match J.mem.get U with
   |some (_,.mx es)=>match tY G kt false [.int .i64 none none],k with
    |true,.k (.int .i64 n)=>match I7 n es || !plain v with
     |true=>false
     |false=>K (.tp []) (J.gG U (.mx (es++[(n,v)])))
    |_,_=>false
   |some (_,.mp kk ka vk va)=>tY G kt ka kk&&Oh J.z ka k kk&&opt (Dx J.z va v) fun ks=>opt (mQ J.z vk ks) fun vk'=>K (.tp []) (J.gG U (.mp kk ka vk' va))
   |some (_,.mq kk key _ s ph x)=>tY G kt true kk&&Mv J.z key k&&Nat.beq ph 0&&K (.tp []) (J.gG U (.mq kk key v s 2 x))
   |_=>false
  |_,_=>false
 |none=>false
def FG (G:Γ)(ty:Option TY)(x k:A)(J:AS)(K:A->AS->Bool):Bool:=match ty with
 |some ty=>match ty.desc,x with
  |.map kt et,.m U=>match J.mem.get U,G.ty et with
   |some (s,.mp kk ka vk false),some te=>tY G kt ka kk&&Oh J.z ka k kk&&opt te.zero fun z=>match plain (.k z)&&!te.agg with
    |true=>opt (Dx J.z false (.k z)) fun zk=>opt (mQ J.z vk zk) fun vk'=>rJ vk' J fun l J=>opt (QV false l) fun a=>pX [(0,0)] [] J fun e J=>K (.tp [a,.i .i64 e]) (J.gG U (.me kk ka vk' false e s z))
    |false=>false
   |some (_,.mq kk key v s ph _),some te=>match tY G kt true kk&&Mv J.z key k&&Nat.beq ph 0,te.zero with
    |true,some .nils=>pX [(0,0)] [] J fun e J=>K (.tp [v,.i .i64 e]) (J.gG U (.mq kk key v s 1 e))
    |_,_=>false
   |_,_=>false
  |_,_=>false
 |none=>false
def nq (x b v:A)(J:AS)(K:A->AS->Bool):Bool:=match x,toI b with
 |.m U,some (_,p)=>match J.mem.get U with
  |some (_,.me kk ka vk va e _ _)=>match eqQ J.z p e with
   |true=>opt (Dx J.z va v) fun ks=>opt (mQ J.z vk ks) fun vk'=>K (.tp []) (J.gG U (.mp kk ka vk' va))
   |false=>false
  |some (_,.mq kk key _ s ph e)=>match Nat.beq ph 1&&eqQ J.z p e with
   |true=>K (.tp []) (J.gG U (.mq kk key v s 2 e))
   |false=>false
  |_=>false
 |_,_=>false
def Ah (G:Γ)(ty:Option TY)(x k:A)(J:AS)(K:A->AS->Bool):Bool:=match ty with
 |some ty=>match ty.desc,x with
  |.map kt _,.m U=>match J.mem.get U with
   |some (_,.mp kk ka vk va)=>tY G kt ka kk&&Oh J.z ka k kk&&K (.tp []) (J.gG U (.mp kk ka vk va))
   |_=>false
  |_,_=>false
 |none=>false
def RF (G:Γ)(ty:Option TY)(x:A)(J:AS)(K:A->AS->Bool):Bool:=
 match ty with
 |none=>false
 |some ty=>match ty.desc,x with
  |.array n _,_=>K (.k (.int .i64 (Int.ofNat n))) J
  |.pointer arr,_=>match G.ty arr with
   |some ta=>match ta.desc with
    |.array n _=>K (.k (.int .i64 (Int.ofNat n))) J
    |_=>false
   |none=>false
  |.string,.k (.str s)=>K (.k (.int .i64 (Int.ofNat s.length))) J
  |.string,.s _ x=>K (.i .i64 (x,0)) J
  |.slice _,.k .nils=>K (.k (.int .i64 0)) J
  |.slice _,.sl _ _ n _=>K (.i .i64 n) J
  |.slice _,.su _ _ _ n=>K (.i .i64 n) J
  |.slice _,.re _ _ n=>K (.i .i64 n) J
  |.slice _,.sn _ _ n _=>K (.i .i64 n) J
  |.slice _,.k (.slice _ _ n _)=>K (.k (.int .i64 (Int.ofNat n))) J
  |.map _ _,.k .nilm=>K (.k (.int .i64 0)) J
  |_,_=>false
def RG (ty:Option TY)(x:A)(J:AS)(K:A->AS->Bool):Bool:=match ty with
 |some ty=>match ty.desc,x with
  |.slice _,.k .nils=>K (.k (.int .i64 0)) J
  |.slice _,.sl _ _ _ (.kn c)=>K (.i .i64 c) J
  |_,_=>false
 |none=>false
def rf (G:Γ)(b:Builtin)(ts:List TypeId)(l:List A)(J:AS)(K:A->AS->Bool):Bool:=
 match b,ts,l with
 |.len,[t],[x]=>RF G (G.ty t) x J K
 |.min,_,l=>IA true l J K
 |.max,_,l=>IA false l J K
 |.append,[t,t'],[x,y]=>zU G (G.ty t) (G.ty t') x y J K
 |.delete,[t,_],[x,y]=>Ah G (G.ty t) x y J K
 |.cap,[t],[x]=>RG (G.ty t) x J K
 |.clear,[t],[x]=>E8 G (G.ty t) x J K
 |_,_,_=>false
def RH (a:A)(J:AS)(K:A->AS->Bool):Bool:=
 match Ko a with
 |true=>K a J
 |false=>match a with
  |.k v=>match Qd (some v) with
   |some v=>K (.k v) J
   |none=>false
  |_=>false
def Ai (asserted:TypeId)(ty:Option TY)(a:A)(ok:Bool):Option A:=match ty with
 |some ty=>match ty.desc,a with
  |.interface _,_=>none
  |_,.k .nili=>match ok,ty.zero with
   |true,some z=>some (.tp [ofV z,.k (.bool false)])
   |_,_=>none
  |_,.ifc t a=>match Nat.beq t asserted with
   |true=>match ok with
    |true=>some (.tp [a,.k (.bool true)])
    |false=>some a
   |false=>match ok,ty.zero with
    |true,some z=>some (.tp [ofV z,.k (.bool false)])
    |_,_=>none
  |_,_=>none
 |none=>none
def FH (ty:Option TY)(x:A)(J:AS)(K:A->AS->Bool):Bool:=match ty with
 |some ty=>match ty.desc,isS x with
  |.string,true=>K (.p J.nb (uv 0)) (J.add (.it x (0,0)))
  |_,_=>false
 |none=>false
def itA (U:Nat)(a:A)(p n:LE)(J:AS)(K:A->AS->Bool):Bool:=
 match leQ J.z (0,0) p with
 |true=>ifE (.lt p n) J (fun J=>pX [(0,0)] [] J fun c J=>pX [plus p 1] [n] J fun q J=>K (.tp [.k (.bool true),.i .i64 p,.i .i32 c]) (J.gG U (.it a q))) fun J=>K (.tp [.k (.bool false)]) J
 |false=>false
def Aj (l:List UInt8)(p:LE):Option (Nat×Option Nat):=match Nat.beq p.1 0,p.2 with
 |true,.ofNat m=>match nth l m with
  |some c=>match Nat.blt c.toNat 128 with
   |true=>some (m,some c.toNat)
   |false=>none
  |none=>some (m,none)
 |_,_=>none
def Mw (it:A)(isS:Bool)(J:AS)(K:A->AS->Bool):Bool:=match it,isS with
 |.p U o,true=>match Nat.beq o.o 0&&Nat.beq o.st 0,J.mem.get U with
  |true,some (_,.it a p)=>match a with
   |.k (.str l)=>match Aj l p with
    |some (m,some c)=>K (.tp [.k (.bool true),.k (.int .i64 (Int.ofNat m)),.k (.int .i32 (Int.ofNat c))]) (J.gG U (.it a (0,Int.ofNat (Nat.succ m))))
    |some (_,none)=>K (.tp [.k (.bool false)]) J
    |none=>itA U a p (0,Int.ofNat l.length) J K
   |.s _ x=>itA U a p (x,0) J K
   |_=>false
  |_,_=>false
 |_,_=>false
def Dy (G:Γ)(op:Op)(J:AS)(K:A->AS->Bool):Bool:=
 match op with
 |.move x=>opt (J.eval x) fun a=>K a J
 |.assign x=>opt (J.eval x) fun a=>K a J
 |.pick c x y=>opt (J.eval c) fun c=>opt (toB c) fun e=>ifE e J (fun J=>opt (J.eval x) fun a=>K a J) fun J=>opt (J.eval y) fun a=>K a J
 |.alloc t=>lD G t J K
 |.box t x=>opt (J.eval x) fun a=>BK t a J K
 |.buildSlice t n ps=>fD G (G.ty t) n J.eval ps.toList J K
 |.makeSlice t l c=>opt (J.eval l) fun a=>opt (J.eval c) fun b=>fW G (G.ty t) a b J K
 |.build t ps=>opt (Fa G t J.eval ps.toList) fun a=>K a J
 |.load t x=>opt (J.eval x) fun a=>LO (G.ty t) a J K
 |.store t x y=>opt (J.eval x) fun a=>opt (J.eval y) fun b=>E3 (G.ty t) a b J K
 |.nilCheck x=>opt (J.eval x) fun a=>RH a J K
 |.binOp op t x y _=>opt (J.eval x) fun a=>opt (J.eval y) fun b=>Rj G op t (isConst x || isConst y) a b J K
 |.unOp op _ x=>opt (J.eval x) fun a=>aUn op a J K
 |.convert s d x=>match Hr (G.ty s) (G.ty d) with
  |true=>false
  |false=>opt (J.eval x) fun a=>LK (G.ty s) (G.ty d) a J K
 |.makeFunc fn a c=>match fn with
  |.func f=>opt (lq J a.toList) fun a=>opt (lq J c.toList) fun c=>K (.fn f a c) J
  |_=>false
 |.fieldAddr s x f=>opt (J.eval x) fun a=>opt (my G (G.ty s) a f) fun a=>K a J
 |.field s x f=>opt (J.eval x) fun a=>opt (EU G (G.ty s) a f) fun a=>K a J
 |.indexAddr t x i=>opt (J.eval x) fun a=>opt (J.eval i) fun b=>pb G (G.ty t) a b J K
 |.index t x i=>opt (J.eval x) fun a=>opt (J.eval i) fun b=>EW G (G.ty t) a b J K
 |.slice t x lo hi mx=>opt (J.eval x) fun a=>opt (FE J lo) fun l=>opt (FE J hi) fun h=>opt (FE J mx) fun m=>E4 G (G.ty t) a l h m J K
 |.makeInterface t x=>opt (J.eval x) fun a=>match G.ty t with
  |some ty=>match isIface ty.desc with
   |true=>false
   |false=>K (.ifc t a) J
  |none=>false
 |.typeAssert x _ t ok=>opt (J.eval x) fun a=>opt (Ai t (G.ty t) a ok) fun r=>K r J
 |.extract t i=>opt (J.eval t) fun a=>match a with
  |.tp l=>opt (nth l i) fun a=>K a J
  |_=>false
 |.makeMap t r=>match r with
  |none=>vN G (G.ty t) J K
  |some _=>false
 |.lookup t x i ok=>opt (J.eval x) fun a=>opt (J.eval i) fun b=>vO G (G.ty t) a b ok J K
 |.mapUpdate t m k x=>opt (J.eval m) fun a=>opt (J.eval k) fun b=>opt (J.eval x) fun c=>vP G (G.ty t) a b c J K
 |.call c=>match c.callee with
  |.builtin b=>opt (lq J c.args.toList) fun l=>rf G b c.argTypes.toList l J K
  |_=>false
 |.mapEntry t m k=>opt (J.eval m) fun a=>opt (J.eval k) fun b=>FG G (G.ty t) a b J K
 |.entryStore _ m b x=>opt (J.eval m) fun a=>opt (J.eval b) fun b=>opt (J.eval x) fun c=>nq a b c J K
 |.insert t m k x=>opt (J.eval m) fun a=>opt (J.eval k) fun b=>opt (J.eval x) fun c=>vP G (G.ty t) a b c J K
 |.range t x=>opt (J.eval x) fun a=>FH (G.ty t) a J K
 |.next it isS=>opt (J.eval it) fun a=>Mw a isS J K
 |_=>false
structure LA where
 p:PT
 gone:List Nat
 hi:LE
 lo:LE
 hi2:LE
 lo2:LE
structure OUT where
 ni:Nat
 ns:Nat
 nb:Nat
 res:A
 mem:List (Nat×AO)
 fs:List (LE×LE)
structure CN where
 ni:Nat
 ns:Nat
 nb:Nat
 args:List A
 mem:List (Nat×AO)
 fs:List (LE×LE)
 outs:List OUT
structure GH where
 fold:Bool
 U:Nat
 τ:Nat
 alt:Nat
inductive GX where
 |o (g:GH)
 |foc (U:Nat) (e:LE)
 |unf (U:Nat)
 |cnt (U w mx:Nat)
 |ext (U:Nat)
 |lk (U:Nat)
structure HD where
 args:List Tmp
 sz:Nat
 cns:List CN
structure CF where
 G:Γ
 inv:Nat->Nat×List PT
 gr:FuncId->Nat->Array Oper->AS->List GX
 gs:FuncId->AS->List GX
 ge:FuncId->A->AS->List GX
 gc:FuncId->List A->AS->List GX
 ga:FuncId->List A->AS->List GX
 gl:FuncId->Nat->AS->List GX
 gb:FuncId->Nat->AS->AS->List GX
 ann:FuncId->Nat->AS->List LA
 con:FuncId->List CN
 hand:FuncId->Code->Option HD
def asg:Code->List Tmp
 |.region _ ops _=>ops.toList.filterMap fun o=>o.dst
 |.seq a b=>asg a++asg b
 |.cond _ a b=>asg a++asg b
 |.block _ b=>asg b
 |.loop b=>asg b
 |_=>[]
def Mx {α:Type}:List Tmp->T α->T α
 |[],t=>t
 |x :: l,t=>Mx l (t.put x none)
def lJ:List (Tmp×A)->T A->T A
 |[],t=>t
 |p :: l,t=>lJ l (t.put p.1 (some p.2))
def tZ:List Nat->T (Nat×AO)->T (Nat×AO)
 |[],t=>t
 |b :: l,t=>tZ l (t.put b none)
def gq:Nat->List (Nat×AO)->T (Nat×AO)->T (Nat×AO)
 |_,[],t=>t
 |n,p :: l,t=>(gq (Nat.succ n) l t).put p.1 (some (n,p.2))
def ie:List (LE×LE)->ZN->ZN
 |[],z=>z
 |p :: l,z=>ie l (z.add p.1 p.2)
def vQ (nx ns nb no sz:Nat)(tm:T A)(mem:T (Nat×AO))(z:ZN)(p:PT):AS:=
 ⟨sz,lJ p.tm tm,gq no p.mem mem,Nat.add nx p.ni,Nat.add ns p.ns,Nat.add nb p.nb,Nat.add no p.mem.length,ie p.fs z,[]⟩
def FI (J:AS)(b:Code)(la:LA):AS:={ vQ J.nx J.ns J.nb J.no J.sz (Mx (asg b) J.tm) (tZ la.gone J.mem) J.z la.p with df:=J.df }
def xP (xU:T (Nat×AO))(J':AS)(bl:List Nat):Nat->Bool
 |0=>true
 |n+1=>match xU.get n with
  |none=>xP xU J' bl n
  |some (s,_)=>match J'.mem.get n with
   |some (s',_)=>match Nat.beq s s'&&!Ey n bl with
    |true=>xP xU J' bl n
    |false=>false
   |none=>false
def KC (J:AS)(la:LA):T (Nat×AO):=tZ (la.p.mem.map Prod.fst) (tZ la.gone J.mem)
def laid (J:AS)(la:LA)(J':AS):Option TA:=
 let X:=guess J.nx J.ns J.nb la.p J';match Nat.beq X.nx J.nx&&Nat.beq X.ns J.ns&&Nat.beq X.nb J.nb&&(Nat.blt la.hi.1 (Nat.add J.nx la.p.ni)&&Nat.blt la.hi2.1 (Nat.add J.nx la.p.ni))&&(Nat.blt la.lo.1 (Nat.add J.nx la.p.ni)&&Nat.blt la.lo2.1 (Nat.add J.nx la.p.ni))&&met X la.p J'&&xP (KC J la) J' (ko X la.p) J.nb with
 |true=>some X
 |false=>none
def I8 (z:ZN)(hi lo h l:LE):Bool:=((leQ z h hi&&leQ z (plus lo 1) l) || (leQ z (plus h 1) hi&&leQ z lo l))&&leQ z (plus lo 1) hi
def My (la q:LA)(X:TA)(J':AS):Bool:=
 match X.le q.hi,X.le q.lo,X.le q.hi2,X.le q.lo2 with
 |some h,some l,some h2,some l2=>I8 J'.z la.hi la.lo h l || (leQ J'.z h la.hi&&leQ J'.z la.lo l&&I8 J'.z la.hi2 la.lo2 h2 l2)
 |_,_,_,_=>false
abbrev qG:=FuncId->List A->AS->(A->AS->Bool)->Bool
def UF (op:Op):Bool:=
 match op with
 |.call c=>match c.callee with
  |.builtin _=>false
  |_=>true
 |_=>false
def ij (Mm:T (Nat×AO))(U s:Nat):Bool:=match Mm.get U with
 |some (s',_)=>Nat.beq s s'
 |none=>false
abbrev Ip:=Nat->List A->AS->(A->AS->Bool)->Bool
def I9:List Tmp->List A->Nat->T A->Option (T A)
 |[],[],_,t=>some t
 |p :: ps,a :: l,sz,t=>match Nat.blt p sz with
  |true=>I9 ps l sz (t.put p (some a))
  |false=>none
 |_,_,_,_=>none
def B5 (code:FuncId->Code->AS->(Xx->AS->Bool)->Bool)(U:Nat)(args:List A)(J:AS)(K:A->AS->Bool):Bool:=
 match J.mem.get U with
 |some (s,.lp lp)=>match isReady lp.state,lp.pending,I9 lp.params args lp.sz lp.tm with
  |true,none,some tm=>code lp.fn lp.assign { J with sz:=lp.sz,tm:=tm } fun x J1=>match x with
   |.normal=>ij J1.mem U s&&code lp.fn lp.body (J1.gG U (.lp { lp with state:=.busy })) fun x J2=>ij J2.mem U J1.no&&(match sY x with
    |none=>K (.k (.bool true)) { J2 with mem:=J2.mem.put U (some (s,.lp lp)),sz:=J.sz,tm:=J.tm }
    |some j=>K (.k (.bool false)) { J2.gG U (.lp { lp with state:=.done,pending:=some j }) with sz:=J.sz,tm:=J.tm })
   |_=>false
  |_,_,_=>false
 |_=>false
inductive TG where
 |fn (f:FuncId) (l:List A)
 |yd (U:Nat) (l:List A)
def Dz (G:Γ)(J:AS)(c:Call):Option TG:=match c.callee with
 |.value f=>match J.eval f,lq J c.args.toList with
  |some (.fn f a cs),some l=>some (.fn f (a++l++cs))
  |some (.yd U),some l=>some (.yd U l)
  |_,_=>none
 |.invoke r name=>match J.eval r,lq J c.args.toList with
  |some (.ifc t a),some l=>match G.ty t with
   |some ty=>match Eb name ty.methods.toList with
    |some m=>match m.path.toList,m.func,ty.desc with
     |[],some (f,true),.pointer _=>some (.fn f (a :: l))
     |_,_,_=>none
    |none=>none
   |none=>none
  |_,_=>none
 |_=>none
def QW (call:qG)(yld:Ip)(t:Option TG)(J:AS)(K:A->AS->Bool):Bool:=match t with
 |some (.fn f l)=>call f l J K
 |some (.yd U l)=>yld U l J K
 |none=>false
def KD (G:Γ)(call:qG)(yld:Ip)(op:Op)(J:AS)(K:A->AS->Bool):Bool:=
 match op with
 |.call c=>QW call yld (Dz G J c) J K
 |_=>false
def Ja:List A->Option Int
 |[]=>none
 |[a]=>match a with
  |.k (.int _ n)=>some n
  |_=>none
 |_ :: l=>Ja l
def FJ:Option TG->Nat×Option Int
 |some (.fn f l)=>(Nat.succ f,Ja l)
 |_=>(0,none)
def Jb (k:Nat×Option Int):List (Nat×Option Int)->Bool
 |[]=>true
 |p :: l=>(!Nat.beq p.1 k.1 || (match p.2,k.2 with
  |some a,some b=>!ieq a b
  |_,_=>false))&&Jb k l
def zaf (ops:Array Oper)(o:Oper)(J:AS)(Kt Kf:AS->Bool):Bool:=
 match o.guard with
 |none=>Kt J
 |some (j,want)=>opt ops.toList[j]? fun p=>opt p.dst fun d=>opt (J.tm.get d) fun a=>match toB a with
  |some e=>match want with
   |true=>ifE e J Kt Kf
   |false=>ifE e J Kf Kt
  |none=>match a with
   |.tp _=>Kf J
   |_=>false
def RI (G:Γ)(op:Op)(J:AS):Option V:=match op with
 |.load t x=>match J.eval x,G.ty t with
  |some (.k (.ptr b o)),some ty=>match Oz b gls,ty.agg with
   |some l,false=>nth l o
   |_,_=>none
  |_,_=>none
 |_=>none
def Mz (G:Γ)(op:Op)(J:AS):Bool:=match op with
 |.call c=>match c.callee,c.argTypes.toList,c.args.toList with
  |.builtin .len,[t],[x]=>match G.ty t,J.eval x with
   |some ty,some (.m U)=>match ty.desc,J.mem.get U with
    |.map _ _,some (_,.mp ..)=>true
    |_,_=>false
   |_,_=>false
  |_,_,_=>false
 |_=>false
def FL (G:Γ)(call:qG)(yld:Ip)(ops:Array Oper):List Oper->AS->(AS->Bool)->Bool
 |[],J,K=>K J
 |o :: l,J,K=>zaf ops o J (fun J=>match UF o.op with
  |true=>KD G call yld o.op J fun a J=>J.put o.dst a fun J=>FL G call yld ops l J K
  |false=>match RI G o.op J with
   |some v=>J.put o.dst (.k v) fun J=>FL G call yld ops l J K
   |none=>match Mz G o.op J with
    |true=>pX [(0,0)] [] J fun e J=>J.put o.dst (.i .i64 e) fun J=>FL G call yld ops l J K
    |false=>Dy G o.op J fun a J=>J.put o.dst a fun J=>FL G call yld ops l J K) fun J=>J.put o.dst (.tp []) fun J=>FL G call yld ops l J K
def si (J:AS)(op:Op):Option Nat:=
 match op with
 |.load _ x=>match J.eval x with
  |some (.p U _)=>some U
  |_=>none
 |.lookup _ x _ _=>match J.eval x with
  |some (.m U)=>some U
  |_=>none
 |_=>none
def vR (v:V):Bool:=
 match v with
 |.bool _=>true
 |.int _ _=>true
 |.str _=>true
 |.nilp=>true
 |.ptr _ _=>true
 |.nils=>true
 |.nilm=>true
 |.nilf=>true
 |.nili=>true
 |.map _=>true
 |.slice ..=>true
 |_=>false
def Ak (k:EK):Bool:=
 match k with
 |.cst v=>vR v
 |.re ..=>false
 |_=>true
def B6:Nat->A->Bool
 |0,_=>false
 |d+1,a=>match a with
  |.k v=>vR v
  |.i _ _=>true
  |.b _=>true
  |.s _ _=>true
  |.p _ _=>true
  |.sl _ _ _ _=>true
  |.su ..=>true
  |.re ..=>true
  |.sn ..=>true
  |.m _=>true
  |.fn _ x y=>fm (B6 d) x&&fm (B6 d) y
  |.ag l=>fm (B6 d) l
  |.rw ks _ none=>fm Ak ks
  |.rw ks _ (some (_,c))=>fm Ak ks&&fm (B6 d) c
  |.tp l=>fm (B6 d) l
  |.ifc _ a=>B6 d a
  |_=>false
structure RD where
 i:Nat
 m:Nat
 U:Nat
 s:Nat
 cel:Option (Nat×A)
 lk:Option (V×Bool×List EK)
structure EF where
 i:Nat
 m:Nat
 mem:T (Nat×AO)
structure DA where
 al:List (Nat×Nat)
 ef:List EF
 rd:List RD
 m0:T (Nat×AO)
 fs:List (Nat×Option Int)
def MA:A->A->Bool
 |.k v,.k w=>rI v w
 |.i k x,.i k' y=>decide (k=k')&&Nat.beq x.1 y.1&&ieq x.2 y.2
 |.p U o,.p U' o'=>Nat.beq U U'&&Nat.beq o.st 0&&Nat.beq o'.st 0&&Nat.beq o.o o'.o
 |.sl U o n c,.sl U' o' n' c'=>Nat.beq U U'&&Nat.beq o.st 0&&Nat.beq o'.st 0&&Nat.beq o.o o'.o&&Nat.beq n.1 n'.1&&ieq n.2 n'.2&&(match c,c' with
  |.kn x,.kn y=>Nat.beq x.1 y.1&&ieq x.2 y.2
  |.al x e,.al y e'=>Nat.beq x.1 y.1&&ieq x.2 y.2&&Nat.beq e e'
  |_,_=>false)
 |.m U,.m U'=>Nat.beq U U'
 |_,_=>false
def RJ (Mm:T (Nat×AO))(r:RD):Bool:=match r.cel with
 |some (off,a)=>match Mm.get r.U with
  |some (_,.cl _ _ l)=>match kG false 1 l off with
   |some a'=>MA a a'
   |none=>false
  |_=>false
 |none=>false
def qc:List EK->List EK->Bool
 |[],[]=>true
 |a :: l,b :: r=>(match a,b with
  |.int k none none,.int k' none none=>decide (k=k')
  |.bool,.bool=>true
  |.str,.str=>true
  |_,_=>false)&&qc l r
 |_,_=>false
def RK (Mm:T (Nat×AO))(r:RD):Bool:=match r.lk with
 |some (z,ka,kk)=>match Mm.get r.U with
  |some (_,.me kk' ka' _ _ _ s z')=>Nat.beq s r.s&&rI z z'&&(ka == ka')&&qc kk kk'
  |_=>false
 |none=>false
def vS (Mm:T (Nat×AO))(r:RD):Bool:=ij Mm r.U r.s || RJ Mm r || RK Mm r
def Iq (G:Γ)(op:Op)(J:AS):Option (V×Bool×List EK):=match op with
 |.lookup t x _ false=>match G.ty t,J.eval x with
  |some ty,some (.m U)=>match ty.desc,J.mem.get U with
   |.map kt et,some (_,.mp kk ka _ _)=>match G.ty et,tY G kt ka kk with
    |some te,true=>match te.zero with
     |some z=>some (z,ka,kk)
     |none=>none
    |_,_=>none
   |_,_=>none
  |_,_=>none
 |_=>none
def ua (G:Γ)(op:Op)(J:AS)(a:A):Option (Nat×A):=match op with
 |.load t x=>match J.eval x,G.ty t with
  |some (.p _ o),some ty=>match !ty.agg&&Nat.beq o.st 0 with
   |true=>some (o.o,a)
   |false=>none
  |_,_=>none
 |_=>none
def ckA (r:RD)(m0:T (Nat×AO)):List EF->Bool
 |[]=>vS m0 r
 |e :: l=>(bit e.m r.i || vS e.mem r)&&(bit r.m e.i || ckA r m0 l)
def KE (r:RD)(D:DA):Bool:=match D.ef with
 |[]=>ij D.m0 r.U r.s
 |e :: _=>ij e.mem r.U r.s
def RL (m U:Nat)(al:List (Nat×Nat)):Bool:=fm (fun p=>!Nat.beq p.1 U || bit m p.2) al
def O3 (m:Nat):List EF->Bool
 |[]=>true
 |e :: _=>bit m e.i
def lu (op:Op):Nat:=
 match op with
 |.load _ _=>1
 |.alloc _=>2
 |.box _ _=>2
 |.buildSlice ..=>2
 |.makeSlice ..=>2
 |.store ..=>3
 |.call c=>match c.callee with
  |.builtin .len=>4
  |.builtin .append=>3
  |.builtin .delete=>3
  |.builtin .clear=>3
  |.builtin .min=>0
  |.builtin .max=>0
  |.builtin .cap=>0
  |_=>9
 |.insert ..=>3
 |.mapUpdate ..=>3
 |.mapEntry ..=>3
 |.entryStore ..=>3
 |.lookup ..=>1
 |.range ..=>3
 |.next ..=>3
 |.entry ..=>9
 |.makeMap ..=>2
 |.convert ..=>0
 |_=>0
def QX (i m:Nat)(D:DA):Bool:=O3 m D.ef&&fm (fun p=>bit m p.2) D.al
def Jd (i m:Nat)(D:DA)(J:AS)(K:DA->AS->Bool):Bool:=
 match fm (fun r=>bit m r.i || vS J.mem r) D.rd with
 |true=>K { D with ef:=⟨i,m,J.mem⟩ :: D.ef } J
 |false=>false
def mK (G:Γ)(call:qG)(yld:Ip)(ops:Array Oper):List (Oper×Nat)->Nat->DA->AS->(AS->Bool)->Bool
 |[],_,_,J,K=>K J
 |p :: l,i,D,J,K=>zaf ops p.1 J (fun J=>match lu p.1.op with
   |0=>Dy G p.1.op J fun a J=>J.put p.1.dst a fun J=>mK G call yld ops l (Nat.succ i) D J K
   |4=>Dy G p.1.op J fun a J=>match B6 5 a with
    |true=>J.put p.1.dst a fun J=>mK G call yld ops l (Nat.succ i) D J K
    |false=>false
   |1=>opt (si J p.1.op) fun U=>opt (J.mem.get U) fun e=>match RL p.2 U D.al&&KE ⟨i,p.2,U,e.1,none,none⟩ D with
    |true=>Dy G p.1.op J fun a J'=>match B6 5 a&&ckA ⟨i,p.2,U,e.1,ua G p.1.op J a,Iq G p.1.op J⟩ D.m0 D.ef with
     |true=>J'.put p.1.dst a fun J'=>mK G call yld ops l (Nat.succ i) { D with rd:=⟨i,p.2,U,e.1,ua G p.1.op J a,Iq G p.1.op J⟩ :: D.rd } J' K
     |false=>false
    |false=>false
   |2=>match fm (fun e=>!bit e.m i) D.ef with
    |true=>Dy G p.1.op J fun a J'=>opt (J'.mem.get J.nb) fun e=>J'.put p.1.dst a fun J'=>mK G call yld ops l (Nat.succ i) { D with al:=(J.nb,i) :: D.al,m0:=D.m0.put J.nb (some e),ef:=D.ef.map fun x=>{ x with mem:=x.mem.put J.nb (some e) } } J' K
    |false=>false
   |3=>match QX i p.2 D with
    |true=>Dy G p.1.op J fun a J=>Jd i p.2 D J fun D J=>J.put p.1.dst a fun J=>mK G call yld ops l (Nat.succ i) D J K
    |false=>false
   |_=>match p.1.op with
    |.call c=>match QX i p.2 D&&Jb (FJ (Dz G J c)) D.fs with
     |true=>QW call yld (Dz G J c) J fun a J'=>Jd i p.2 D J' fun D J'=>J'.put p.1.dst a fun J'=>mK G call yld ops l (Nat.succ i) { D with fs:=FJ (Dz G J c) :: D.fs } J' K
     |false=>false
    |_=>false) fun J=>J.put p.1.dst (.tp []) fun J=>mK G call yld ops l (Nat.succ i) D J K
def xQ:Nat->List A->T A->T A
 |_,[],t=>t
 |i,a :: l,t=>xQ (Nat.succ i) l (t.put i (some a))
def DB {α:Type}:Nat->List α->List (Nat×α)
 |_,[]=>[]
 |i,a :: l=>(i,a) :: DB (Nat.succ i) l
def uc (cn:CN):PT:=⟨cn.ni,cn.ns,cn.nb,DB 0 cn.args,cn.mem,cn.fs⟩
def news {α:Type}(f:Nat->α)(k:Nat):Nat->List α
 |0=>[]
 |n+1=>f k :: news f (Nat.succ k) n
def O4 (X:TA)(o:OUT)(J:AS):TA:=
 ⟨1,0,0,X.i++news (fun j=>RV.e (j,0)) J.nx o.ni,X.s++news (fun j=>A.s j 0) J.ns o.ns,X.b++news (fun j=>j) J.nb o.nb⟩
def Oj (X:TA):List (Nat×AO)->Option (List (Nat×AO))
 |[]=>some []
 |p :: l=>match X.blk p.1,X.ao p.2,Oj X l with
  |some U,some ao,some r=>some ((U,ao) :: r)
  |_,_,_=>none
def QY (X:TA):List (LE×LE)->Option (List (LE×LE))
 |[]=>some []
 |p :: l=>match X.le p.1,X.le p.2,QY X l with
  |some a,some b,some r=>some ((a,b) :: r)
  |_,_,_=>none
def RM (z:ZN)(fs:List (LE×LE)):Bool:=zQ (fun g=>leQ z (plus g.2 1) g.1) fs
def zM (X:TA)(bl:List Nat)(o:OUT)(J:AS)(K:A->AS->Bool):Bool:=
 let X:=O4 X o J
 opt (X.a o.res) fun a=>opt (Oj X o.mem) fun ms=>opt (QY X o.fs) fun fs=>match apart (ms.map Prod.fst) with
  |false=>false
  |true=>match RM J.z fs with
   |true=>true
   |false=>K a { J with mem:=gq J.no ms (tZ bl J.mem),nx:=Nat.add J.nx o.ni,ns:=Nat.add J.ns o.ns,nb:=Nat.add J.nb o.nb,no:=Nat.add J.no ms.length,z:=ie fs J.z }
def MB (cn:CN)(args:List A)(J:AS)(K:A->AS->Bool):Bool:=
 let p:=uc cn;let Jc:AS:={ J with tm:=xQ 0 args .leaf,sz:=args.length };let X:=guess 1 0 0 p Jc;match Nat.beq X.nx 1&&Nat.beq X.ns 0&&Nat.beq X.nb 0&&Nat.beq args.length cn.args.length&&met X p Jc with
 |true=>fm (fun o=>zM X (ko X p) o J K) cn.outs
 |false=>false
def oz:Off:=⟨0,(0,0),0⟩
def noK (k:EK):Bool:=match k with
 |.re ..=>false
 |_=>true
mutual
def noA:A->Bool
 |.re ..=>false
 |.fn _ a c=>zN a&&zN c
 |.ifc _ a=>noA a
 |.ag l=>zN l
 |.tp l=>zN l
 |.rw ks _ none=>ks.all noK
 |.rw _ _ (some _)=>false
 |_=>true
def zN:List A->Bool
 |[]=>true
 |a :: l=>noA a&&zN l
end
def noO (o:AO):Bool:=match o with
 |.cl _ _ l=>zN l
 |.mp kk _ vk _=>kk.all noK&&vk.all noK
 |.df=>true
 |.lp _=>false
 |.ob ..=>true
 |.it a _=>noA a
 |.rr _ _ ks _ _ _ none=>ks.all noK
 |.rr _ _ _ _ _ _ (some _)=>false
 |.mx _=>false
 |.bc ..=>true
 |.so ..=>true
 |.sp ..=>true
 |.me ..=>false
 |.tl ..=>false
 |.mq ..=>false
def ghC (inv:Nat->Nat×List PT)(g:GH):Option CN:=
 let k:=(inv g.τ).1;let ob:Nat×AO:=(0,.ob g.τ (news (fun j=>(j,0)) 1 k));match g.fold with
 |false=>match (inv g.τ).2 with
  |[]=>none
  |_ :: _=>some ⟨k,0,1,[.p 0 oz],[ob],[],(inv g.τ).2.map fun p=>⟨p.ni,p.ns,p.nb,.tp [],p.mem,p.fs⟩⟩
 |true=>match nth (inv g.τ).2 g.alt with
  |some p=>match p.mem with
   |(0,_) :: _=>match apart (p.mem.map Prod.fst)&&p.mem.all (fun q=>noO q.2) with
    |true=>some ⟨Nat.add k p.ni,p.ns,Nat.succ p.nb,[.p 0 oz],p.mem,p.fs,[⟨0,0,0,.tp [],[ob],[]⟩]⟩
    |false=>none
   |_=>none
  |none=>none
def unB (U:Nat):List (Nat×Nat)->List (Nat×Nat)
 |[]=>[]
 |p :: l=>match Nat.beq p.1 U with
  |true=>l
  |false=>p :: unB U l
def RN (U:Nat)(e:LE)(J:AS)(K:AS->Bool):Bool:=match J.mem.get U with
 |some (_,.rr t te ks B m n none)=>match leQ J.z (0,0) e&&leQ J.z (plus e 1) m&&Nat.blt e.1 J.nx with
  |true=>K (J.gG U (.rr t te ks B m n (some (e,.k .nils)))) &&
   pX [(0,0)] [B,(0,100000)] J fun l J=>pX [l] [] J fun c J=>pX [c] [] J fun N J=>
    K ((J.gG U (.rr t te ks B m n (some (e,.sl J.nb oz l (.kn c))))).add (.cl false (some te) [.rw ks N none])) &&
    K ((J.gG U (.rr t te ks B m n (some (e,.sl J.nb oz l (.al c ks.length))))).add (.cl false (some te) [.rw ks N none]))
  |false=>false
 |_=>false
def FM (z:ZN)(l B:LE):LE:=match leQ z l B with
 |true=>B
 |false=>plus B 1
def RP (U:Nat)(J:AS)(K:AS->Bool):Bool:=match J.mem.get U with
 |some (_,.rr t te ks B m n (some (_,a)))=>match a with
  |.k .nils=>K (J.gG U (.rr t te ks B m n none))
  |.sl E o l c=>match J.mem.get E with
   |some (_,.cl false (some te') cs)=>match rowOf J.z ks.length cs with
    |some r=>opt (mQ J.z ks r.1) fun ks'=>match !Nat.beq E U&&Nat.beq te te'&&Nat.beq o.o 0&&Nat.beq o.st 0&&leQ J.z (0,0) l&&leQ J.z l (FM J.z l B)&&leQ J.z l (0,100000)&&(match c with
      |.kn c=>leQ J.z l c&&leQ J.z c r.2
      |.al c es=>Nat.beq es ks.length&&leQ J.z l c&&leQ J.z c r.2) with
     |true=>K ((J.gG U (.rr t te ks' (FM J.z l B) m n none)).del E)
     |false=>false
    |none=>false
   |_=>false
  |_=>false
 |_=>false
def TX (z:ZN)(k:EK):Bool:=match Dn z k with
 |some .bool=>true
 |_=>false
def RQ (U w mx:Nat)(J:AS)(K:AS->Bool):Bool:=match J.mem.get U with
 |some (s,.cl false (some t) l)=>match rowOf J.z 1 l with
  |some (k :: _,N)=>match TX J.z k&&leQ J.z N (0,Int.ofNat mx) with
   |true=>pX [(0,0)] [(0,Int.ofNat (Nat.mul w mx))] J fun T J=>K (J.jZ U s (.bc t w mx N T none))
   |false=>false
  |_=>false
 |_=>false
def spl (U E:Nat)(a b:AO)(J:AS):AS:={ J with mem:=(J.mem.put U (some (J.no,a))).put E (some (Nat.succ J.no,b)),no:=Nat.succ (Nat.succ J.no) }
def RR (U:Nat)(J:AS)(K:AS->Bool):Bool:=match J.mem.get U with
 |some (s,.sp E ro t tT v n k els)=>match atE J.z k els,atE J.z (plus k (-1)) els with
  |some a,some b=>match leQ J.z b a&&leQ J.z (0,1) k with
   |true=>K (J.jZ U s (.sp E ro t tT v n (plus k (-1)) els))
   |false=>false
  |_,_=>false
 |_=>false
def lkA (U:Nat)(J:AS)(K:AS->Bool):Bool:=match J.mem.get U with
 |some (_,.sp E ro t tT v n k els)=>match J.mem.get E with
  |none=>match leQ J.z k (0,0) with
   |true=>match atE J.z (0,0) els with
    |some w=>K (spl U E (.so false t (plus n 1) (0,0) none none els) (.so ro tT n (0,0) (some w) (atE J.z n els) []) J)
    |none=>false
   |false=>K (spl U E (.so false t (plus n 1) k none none els) (.cl ro tT [.rw [.int .i64 none none] n none]) J)
  |some _=>false
 |_=>false
def jG (inv:Nat->Nat×List PT):List GX->AS->(AS->Bool)->Bool
 |[],J,K=>K J
 |.foc U e :: l,J,K=>RN U e J fun J=>jG inv l J K
 |.ext U :: l,J,K=>RR U J fun J=>jG inv l J K
 |.lk U :: l,J,K=>lkA U J fun J=>jG inv l J K
 |.cnt U w mx :: l,J,K=>RQ U w mx J fun J=>jG inv l J K
 |.unf U :: l,J,K=>RP U J fun J=>jG inv l J K
 |.o g :: l,J,K=>opt (J.mem.get g.U) fun _=>opt (ghC inv g) fun cn=>MB cn [.p g.U oz] J fun _ J=>jG inv l { J with df:=match g.fold with
  |false=>(g.U,g.τ) :: J.df
  |true=>unB g.U J.df } K
def lK (inv:Nat->Nat×List PT)(hint:AS->List GX):Nat->AS->(AS->Bool)->Bool
 |0,J,K=>K J
 |n+1,J,K=>match hint J with
  |[]=>K J
  |l=>jG inv l J fun J=>lK inv hint n J K
def KG (p:Option Code)(K:Xx->AS->Bool)(J:AS):Bool:=match p with
 |none=>K .normal J
 |some .ret=>K .ret J
 |some (.exit id)=>K (.exit id) J
 |_=>false
def Je (tm:T A):List Tmp->Option (List A)
 |[]=>some []
 |t :: l=>match tm.get t,Je tm l with
  |some a,some r=>some (a :: r)
  |_,_=>none
def vT (code:AS->(Xx->AS->Bool)->Bool)(id:Nat)(K:Xx->AS->Bool):Nat->AS->Bool
 |0,_=>false
 |m+1,J=>code J fun x J'=>match x with
  |.normal=>vT code id K m J'
  |.exit i=>match Nat.beq i id with
   |true=>K .normal J'
   |false=>K (.exit i) J'
  |.ret=>K .ret J'
def iP:Code->List Code
 |.seq a b=>.seq a b :: (iP a++iP b)
 |.cond c a b=>.cond c a b :: (iP a++iP b)
 |.block i b=>.block i b :: iP b
 |.loop b=>.loop b :: iP b
 |c=>[c]
def DC (cf:CF)(inr:Bool)(fn:FuncId)(c:Code):Option HD:=match inr with
 |true=>none
 |false=>cf.hand fn c
def uA (cf:CF)(inr:Bool)(fn:FuncId)(c:Code):Bool:=fm (fun d=>(DC cf inr fn d).isNone) (iP c)
def od {α:Type}:List Tmp->T α->T α
 |[],_=>.leaf
 |t :: l,tm=>(od l tm).put t (tm.get t)
def nt (cf:CF)(call:qG)(fn:FuncId)(inr:Bool):Nat->Code->AS->(Xx->AS->Bool)->Bool
 |0,_,_,_=>false
 |n+1,c,J,K=>match DC cf inr fn c with
  |some hd=>opt (Je J.tm hd.args) fun l=>match Nat.beq J.sz hd.sz with
   |true=>zQ (fun cn=>MB cn l J fun _ J=>K .normal { J with tm:=od hd.args J.tm }) hd.cns
   |false=>false
  |none=>match c with
   |.skip=>K .normal J
   |.region id ops d=>lK cf.inv (cf.gr fn id ops) 20 J fun J=>match d with
    |false=>FL cf.G call (B5 fun fn c=>nt cf call fn true n c) ops ops.toList J fun J=>K .normal J
    |true=>mK cf.G call (B5 fun fn c=>nt cf call fn true n c) ops (nW ops.toList 0 .leaf) 0 ⟨[],[],[],J.mem,[]⟩ J fun J=>K .normal J
   |.seq a b=>nt cf call fn inr n a J fun x J=>match x with
    |.normal=>nt cf call fn inr n b J K
    |x=>K x J
   |.cond c a b=>opt (J.eval c) fun c=>opt (toB c) fun e=>ifE e J (fun J=>nt cf call fn inr n a J K) fun J=>nt cf call fn inr n b J K
   |.block id b=>match b with
    |.loop b=>uA cf inr fn b&&lK cf.inv (cf.gl fn id) 20 J fun J=>match cf.ann fn id J with
     |[]=>vT (fun J K=>nt cf call fn inr n b J K) id K 70 J
     |las=>zQ (fun la=>(laid J la J).isSome) las&&fm (fun la=>nt cf call fn inr n b (FI J b la) fun x J'=>match x with
      |.normal=>lK cf.inv (cf.gb fn id J) 20 J' fun J'=>zQ (fun q=>match laid J q J' with
       |some X=>My la q X J'
       |none=>false) las
      |.exit i=>match Nat.beq i id with
       |true=>K .normal J'
       |false=>K (.exit i) J'
      |.ret=>K .ret J') las
    |b=>nt cf call fn inr n b J fun x J=>match x with
     |.exit i=>match Nat.beq i id with
      |true=>K .normal J
      |false=>K (.exit i) J
     |x=>K x J
   |.exit id=>K (.exit id) J
   |.ret=>K .ret J
   |.rangeFunc f ps ac body=>match inr with
    |true=>false
    |false=>opt (J.eval f) fun v=>match v with
     |.fn g a c=>opt (cf.G.funcs.get g) fun fg=>opt fg.body fun _=>
      call g (a++[.yd (Nat.succ J.nb)]++c) ((J.add .df).add (.lp ⟨.ready,none,fn,J.sz,J.tm,ps.toList,ac,body,J.nb⟩)) fun _ J3=>match J3.mem.get (Nat.succ J.nb),J3.mem.get J.nb with
       |some (_,.lp lp),some (_,.df)=>match yN lp.state with
        |true=>false
        |false=>KG lp.pending K { ((J3.gG (Nat.succ J.nb) (.lp { lp with state:=.exhausted })).del (Nat.succ J.nb)).del J.nb with sz:=J.sz,tm:=J.tm }
       |_,_=>false
     |_=>false
   |_=>false
def MC (G:Γ)(J:AS)(a:Tmp)(t:TypeId):Option A:=match J.tm.get a,G.ty t with
 |some (.p U o),some ty=>match J.mem.get U with
  |some (_,.cl _ _ l)=>match Nat.beq o.st 0 with
   |true=>kG ty.agg ty.size l o.o
   |false=>none
  |_=>none
 |_,_=>none
def Ir (G:Γ)(J:AS):List ResultVar->Option (List A)
 |[]=>some []
 |.tmp t :: l=>match J.tm.get t,Ir G J l with
  |some a,some r=>some (a :: r)
  |_,_=>none
 |.cell a t :: l=>match MC G J a t,Ir G J l with
  |some a,some r=>some (a :: r)
  |_,_=>none
def KH (l:List A):A:=match l with
 |[a]=>a
 |l=>.tp l
def fA (cn:CN)(sz:Nat):AS:=vQ 1 0 0 0 sz .leaf .leaf ⟨.leaf,.leaf,[]⟩ (uc cn)
def O5 (o:OUT):PT:=⟨o.ni,o.ns,o.nb,[(0,o.res)],o.mem,o.fs⟩
def RS (cn:CN)(r:A)(J:AS):Bool:=
 let Jr:AS:={ J with tm:=T.leaf.put 0 (some r),sz:=1 }
 zQ (fun o=>met (guess (Nat.add 1 cn.ni) cn.ns cn.nb (O5 o) Jr) (O5 o) Jr&&(let X:=guess (Nat.add 1 cn.ni) cn.ns cn.nb (O5 o) Jr
  Nat.beq X.nx (Nat.add 1 cn.ni)&&Nat.beq X.ns cn.ns&&Nat.beq X.nb cn.nb)) cn.outs
def qH (cf:CF):Nat->qG
 |0,_,_,_,_=>false
 |n+1,f,args,J,K=>match cf.con f with
  |[]=>opt (cf.G.funcs.get f) fun fn=>opt fn.body fun c=>match Nat.ble args.length fn.ntmps with
   |true=>nt cf (qH cf n) f false 60 c { J with sz:=fn.ntmps,tm:=xQ 0 args .leaf } fun x J'=>match x with
    |.exit _=>false
    |_=>opt (Ir cf.G J' fn.results.toList) fun r=>K (KH r) { J' with sz:=J.sz,tm:=J.tm }
   |false=>false
  |l=>lK cf.inv (cf.gc f args) 20 J fun J=>zQ (fun cn=>MB cn args J fun a J=>lK cf.inv (cf.ga f args) 20 J fun J=>K a J) l
def fq (cf:CF)(f:FuncId)(cn:CN):Bool:=
 opt (cf.G.funcs.get f) fun fn=>opt fn.body fun c=>match Nat.ble cn.args.length fn.ntmps with
  |true=>lK cf.inv (cf.gs f) 20 (fA cn fn.ntmps) fun J=>nt cf (qH cf 40) f false 60 c J fun x J'=>match x with
   |.exit _=>false
   |_=>opt (Ir cf.G J' fn.results.toList) fun r=>lK cf.inv (cf.ge f (KH r)) 20 J' fun J'=>RS cn (KH r) J'
  |false=>false
end
end Go.Ae

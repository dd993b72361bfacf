/- The contracts. -/
import Derived.Test.YtboaighhnghpdaaGreatDoorC
set_option linter.unusedVariables false
set_option linter.unusedSimpArgs false
set_option maxHeartbeats 1000000
namespace Go.Ae
open Go.Ev
noncomputable section
def T0 (J:AS)(U:Nat):List GX:=match J.mem.get U with
 |some (_,.ob τ _)=>[.o ⟨false,U,τ,0⟩]
 |_=>[]
def T1 (J:AS)(U:Nat)(o:Off)(st:Bool):List GX:=match J.mem.get U with
 |some (_,.rr _ _ _ _ m _ foc)=>match foc with
  |some (e,_)=>match LN J.z o e with
   |true=>[]
   |false=>[.unf U]
  |none=>match st&&LN J.z o m with
   |true=>[]
   |false=>[.foc U (jc o 1 o.o)]
 |_=>[]
def uH (J:AS):Nat->List GX
 |0=>[]
 |n+1=>match J.mem.get n with
  |some (_,.rr _ _ _ _ _ _ (some _))=>.unf n :: uH J n
  |_=>uH J n
def extAll (J:AS):Nat->List GX
 |0=>[]
 |n+1=>match J.mem.get n with
  |some (_,.sp _ _ _ _ _ _ k els)=>match atE J.z k els,atE J.z (plus k (-1)) els with
   |some a,some b=>match leQ J.z b a with
    |true=>[.ext n]
    |false=>extAll J n
   |_,_=>extAll J n
  |_=>extAll J n
def Pc (J:AS):Nat->List GX
 |0=>[]
 |n+1=>match J.mem.get n with
  |some (_,.sp ..)=>[.lk n]
  |_=>Pc J n
def evL (loc:T A)(J:AS)(x:Operand):Option A:=match x with
 |.tmp t=>match loc.get t with
  |some a=>some a
  |none=>J.tm.get t
 |x=>J.eval x
def wh (loc:T A)(d:Option Tmp)(a:Option A):T A:=match d,a with
 |some t,some a=>loc.put t (some a)
 |_,_=>loc
def jr (G:Γ)(J:AS):List Oper->T A->List GX
 |[],_=>[]
 |o :: l,loc=>match o.op with
  |.move x=>jr G J l (wh loc o.dst (evL loc J x))
  |.assign x=>jr G J l (wh loc o.dst (evL loc J x))
  |.nilCheck x=>jr G J l (wh loc o.dst (evL loc J x))
  |.fieldAddr s x f=>jr G J l (wh loc o.dst (match evL loc J x with
   |some a=>my G (G.ty s) a f
   |none=>none))
  |.indexAddr t x i=>jr G J l (wh loc o.dst (match evL loc J x with
   |some (.p U _)=>some (.p U ⟨0,(0,0),1⟩)
   |some (.sl U f _ _)=>some (.p U (match evL loc J i,G.ty t with
    |some b,some ty=>match toI b,TO G ty with
     |some p,some te=>match f.add p.2 te.size with
      |some f=>f
      |none=>⟨0,(0,0),1⟩
     |_,_=>⟨0,(0,0),1⟩
    |_,_=>⟨0,(0,0),1⟩))
   |_=>none))
  |.slice _ x _ _ _=>match evL loc J x with
   |some (.p U _)=>match T0 J U with
    |[]=>jr G J l (wh loc o.dst (some (.sl U ⟨0,(0,0),0⟩ (0,0) (.kn (0,0)))))
    |h=>h
   |a=>jr G J l (wh loc o.dst a)
  |.load t x=>match evL loc J x with
   |some (.p U o')=>match J.mem.get U with
    |some (_,.ob τ _)=>[.o ⟨false,U,τ,0⟩]
    |some (_,.rr _ _ _ _ _ _ foc)=>match T1 J U o' false with
     |[]=>jr G J l (wh loc o.dst (foc.map Prod.snd))
     |h=>h
    |some (_,.cl _ _ c)=>jr G J l (wh loc o.dst (match G.ty t,Nat.beq o'.st 0 with
     |some ty,true=>kG ty.agg ty.size c o'.o
     |_,_=>none))
    |_=>jr G J l loc
   |_=>jr G J l loc
  |.store _ x _=>match evL loc J x with
   |some (.p U o')=>match T0 J U++T1 J U o' true with
    |[]=>jr G J l loc
    |h=>h
   |_=>jr G J l loc
  |_=>jr G J l loc
def UJ (inv:Nat->Nat×List PT)(J:AS)(U τ i:Nat):Bool:=match ghC inv ⟨true,U,τ,i⟩ with
 |some cn=>MB cn [.p U oz] J fun _ _=>true
 |none=>false
def T2 (inv:Nat->Nat×List PT)(J:AS)(U τ:Nat):Nat->Nat->List GX
 |0,_=>[]
 |n+1,i=>match UJ inv J U τ i with
  |true=>[.o ⟨true,U,τ,i⟩]
  |false=>T2 inv J U τ n (Nat.succ i)
def clB (J:AS)(U:Nat):Bool:=match J.mem.get U with
 |some (_,.cl ..)=>true
 |_=>false
def Pd (inv:Nat->Nat×List PT)(J:AS)(p:Nat×Nat):List GX:=match clB J p.1 with
 |true=>T2 inv J p.1 p.2 (inv p.2).2.length 0
 |false=>[]
def uI (inv:Nat->Nat×List PT)(J:AS):List (Nat×Nat)->List GX
 |[]=>[]
 |p :: l=>match Pd inv J p with
  |[]=>uI inv J l
  |h=>h
mutual
def RX (U:Nat):A->A->List Nat
 |.p b _,a=>match a with
  |.p c _=>match Nat.beq b U with
   |true=>[c]
   |false=>[]
  |_=>[]
 |.ifc _ x,a=>match a with
  |.ifc _ y=>RX U x y
  |_=>[]
 |.tp l,a=>match a with
  |.tp r=>MQ U l r
  |_=>[]
 |.ag l,a=>match a with
  |.ag r=>MQ U l r
  |_=>[]
 |_,_=>[]
def MQ (U:Nat):List A->List A->List Nat
 |x :: l,y :: r=>match RX U x y with
  |[]=>MQ U l r
  |h=>h
 |_,_=>[]
end
def DM (J:AS)(x y:A):List (Nat×AO)->List (Nat×Nat)
 |[]=>[]
 |p :: l=>match p.2 with
  |.ob τ _=>match RX p.1 x y with
   |U :: _=>match clB J U with
    |true=>(U,τ) :: DM J x y l
    |false=>DM J x y l
   |[]=>DM J x y l
  |_=>DM J x y l
def ik {α U:Type}(f:α->List U):List α->List U
 |[]=>[]
 |a :: l=>f a++ik f l
def goC (inv:Nat->Nat×List PT)(J:AS)(need:List (Nat×Nat)):List GX:=match need with
 |[]=>[]
 |l=>match uH J J.nb with
  |h :: r=>h :: r
  |[]=>match uI inv J l with
   |[]=>uI inv J J.df
   |h=>h
def gcP (inv:Nat->Nat×List PT)(spec:FuncId->List CN)(f:FuncId)(args:List A)(J:AS):List GX:=goC inv J (ik (fun cn=>DM J (.tp cn.args) (.tp args) cn.mem) (spec f))
def Pe (spec:FuncId->List CN)(f:FuncId):List Nat:=ik (fun cn=>ik (fun(o:OUT)=>ik (fun(p:Nat×AO)=>match p.2 with
 |.ob τ _=>[τ]
 |_=>[]) o.mem) cn.outs) (spec f)
def geP (inv:Nat->Nat×List PT)(spec:FuncId->List CN)(f:FuncId)(r:A)(J:AS):List GX:=
 match uH J J.nb++Pc J J.nb with
 |h :: r=>h :: r
 |[]=>match uI inv J (ik (fun cn=>ik (fun(o:OUT)=>DM J o.res r o.mem) cn.outs) (spec f)) with
  |[]=>uI inv J (ik (fun p=>p :: (Pe spec f).map fun τ=>(p.1,τ)) (J.df.filter (fun p=>zQ (fun cn=>Nat.blt p.1 cn.nb) (spec f))++J.df))
  |h=>h
def inD (p:Nat×Nat):List (Nat×Nat)->Bool
 |[]=>false
 |q :: l=>match Nat.beq p.1 q.1 with
  |true=>true
  |false=>inD p l
def gbP (inv:Nat->Nat×List PT)(J0 J:AS):List GX:=match uH J J.nb++extAll J J.nb with
 |h :: r=>h :: r
 |[]=>uI inv J (J.df.filter fun p=>!inD p J0.df)
def gaP (ro:Nat->Bool)(args:List A)(J:AS):List GX:=ik (fun a=>match a with
 |.p U _=>match J.mem.get U with
  |some (_,.ob τ _)=>match ro τ with
   |true=>[.o ⟨false,U,τ,0⟩]
   |false=>[]
  |_=>[]
 |_=>[]) args
def RY (ro:Nat->Bool)(G:Γ)(inv:Nat->Nat×List PT)(spec con:FuncId->List CN)(gl:FuncId->Nat->AS->List GX)(ann:FuncId->Nat->AS->List LA)(hand:FuncId->Code->Option HD):CF:=
 {G,inv,con,ann,hand,gr:=fun _ _ ops J=>jr G J ops.toList .leaf,gs:=fun _ _=>[],ge:=geP inv spec,gc:=gcP inv spec,ga:=fun _ args=>gaP ro args,gl,gb:=fun _ _=>gbP inv }
def zai (J:AS)(ex:List Nat):Nat->List (Nat×AO)
 |0=>[]
 |n+1=>match J.mem.get n with
  |some (_,.ob τ ps)=>match Ey n ex with
   |true=>zai J ex n
   |false=>(n,.ob τ ps) :: zai J ex n
  |_=>zai J ex n
def hd (J:AS)(ni ns nb:Nat)(tm:List (Tmp×A))(mem:List (Nat×AO))(fs:List (LE×LE))(hi lo:LE):LA:=
 ⟨⟨ni,ns,nb,tm,mem++zai J (mem.map Prod.fst) J.nb,fs⟩,[],hi,lo,(0,0),(0,0)⟩
def tI (J:AS)(t:Nat):LE:=match J.tm.get t with
 |some a=>match toI a with
  |some p=>p.2
  |none=>(0,0)
 |none=>(0,0)
def up (J:AS)(t n:Nat)(mem:List (Nat×AO)):LA:=hd J 1 0 0 [(t,.i .i64 (J.nx,0))] mem [((0,0),(J.nx,0)),((J.nx,0),tI J n)] (tI J n) (J.nx,0)
def upG (J:AS)(t n d:Nat)(te:TypeId)(ks:List EK)(mem:List (Nat×AO)):List LA:=[hd J 1 0 0 [(t,.i .i64 (J.nx,0)),(d,.k .nils)] mem [((0,0),(J.nx,0)),((J.nx,0),tI J n)] (tI J n) (J.nx,0),
 hd J 2 0 1 [(t,.i .i64 (J.nx,0)),(d,.sl J.nb oz (Nat.succ J.nx,0) (.al (Nat.succ J.nx,0) ks.length))] ((J.nb,.cl false (some te) [.rw ks (Nat.succ J.nx,0) none]) :: mem) [((0,0),(J.nx,0)),((J.nx,0),tI J n),((0,0),(Nat.succ J.nx,0)),((Nat.succ J.nx,0),(J.nx,0))] (tI J n) (J.nx,0)]
end
end Go.Ae
namespace Go.Ae.C
open Go Go.Ev Go.Ae
noncomputable section
def rg (x:Nat)(lo hi:Int):List (LE×LE):=[((0,lo),(x,0)),((x,0),(0,hi))]
def I (x:Nat):A:=.i .i64 (x,0)
def Uu (x:Nat):A:=.i .u32 (x,0)
def e0:A:=.k (.int .i64 0)
def P (U:Nat):A:=.p U oz
def nP:A:=.k .nilp
def ob (U τ:Nat)(l:List Nat):Nat×AO:=(U,.ob τ (l.map fun x=>(x,0)))
def i64:EK:=.int .i64 none none
def u32:EK:=.int .u32 none none
def iR (lo hi:Int):EK:=.int .i64 (some (0,lo)) (some (0,hi))
def er (x:Nat):List (LE×LE):=rg x 0 17
def anyI (x:Nat):List (LE×LE):=rg x nX lA
def AU (x:Nat):List (LE×LE):=rg x 0 4294967295
def sl (U x w:Nat):A:=.sl U oz (x,0) (.al (x,0) w)
def row (U x:Nat)(t:TypeId)(ks:List EK):Nat×AO:=(U,.cl false (some t) [.rw ks (x,0) none])
def st (U:Nat)(t:TypeId)(l:List A):Nat×AO:=(U,.cl false (some t) l)
def SV (x:Nat):List EK:=[.int .i64 (some (0,0)) (some (x,-1)),u32]
def It:List EK:=[i64,i64,u32]
def oX:List EK:=[i64,i64,i64,u32,i64,i64]
def DZ (U:Nat):Nat×AO:=(U,.mp It true [i64] false)
def Q2 (x y:Nat):A:=.ag [I x,Uu y]
def zM (x y z:Nat):A:=.ag [I x,I y,Uu z]
def uL (x y z:Nat):List (LE×LE):=anyI x++anyI y++AU z
def lt0 (x y:Nat):List (LE×LE):=[((0,0),(x,0)),((x,1),(y,0))]
def pt (ni nb:Nat)(mem:List (Nat×AO))(fs:List (LE×LE)):PT:=⟨ni,0,nb,[],mem,fs⟩
def mdC (ob rt ds rs:A):List A:=[I 29,I 1,I 5,I 6,I 7,I 8,I 9,I 10,I 11,Uu 12,ob,rt,I 13,I 14,I 15,I 16,I 17,I 18,I 19,I 20,P 3,ds,rs,.b (.lt (0,0) (21,0)),.b (.lt (0,0) (22,0)),I 23,I 24,I 25,I 26,I 27]
def below (x y:Nat)(lo:Int):List (LE×LE):=[((0,lo),(x,0)),((x,1),(y,0))]
def mdF:List (LE×LE):=rg 29 1 256++rg 4 0 2400++rg 1 1 4++rg 5 1 64++rg 6 1 64++rg 7 1 64++rg 8 1 256++rg 9 1 64++anyI 10++anyI 11++rg 12 1 4294967295++rg 2 1 10000 ++
 ik (fun x=>below x 2 0) [13,14,15,16,17,18,19,20]++ik anyI [23,24,25,26,27]
def mdO:Nat×AO:=(1,.rr 254 3 [.int .i64 (some (0,0)) (some (2,-1))] (0,4) (2,0) (2,0) none)
def mdR:Nat×AO:=(2,.rr 27 3 [.int .i64 (some (0,0)) (some (2,-1))] (4,0) (1,0) (1,0) none)
def UY:List EK:=[.int .i64 (some (0,0)) (some (28,-1)),.int .i64 (some (0,0)) (some (2,-1)),.bool,.bool]
def UZ:List EK:=[.bool,.bool,.bool,.bool,.bool,.bool,i64,i64,u32,i64,i64,i64,i64,.str]
def shA (U x:Nat)(al:Bool):A:=.sl U oz (x,0) (match al with
 |true=>.al (x,0) 1
 |false=>.kn (x,0))
def md (al:Bool):PT:=pt 25 3 [st 0 162 (mdC (shA 1 2 al) (shA 2 1 al) (.k .nils) (.k .nils)),mdO,mdR,ob 3 8 []] (mdF++[((0,0),(3,0)),((3,0),(0,0))])
def mdD:PT:=pt 25 5 [st 0 162 (mdC (shA 1 2 true) (shA 2 1 true) (sl 4 3 4) (sl 5 28 14)),mdO,mdR,ob 3 8 [],row 4 3 260 UY,row 5 28 267 UZ] (mdF++rg 3 1 8000++rg 28 1 8000)
def inv (τ:Nat):Nat×List PT:=match τ with
 |9=>(4,[md true,mdD])
 |10=>(4,[md false])
 |1=>(1,[pt 0 0 [st 0 324 [I 1,.rw [i64,u32] (0,256) none]] (rg 1 1 256)])
 |2=>(0,[pt 1 2 [st 0 326 [P 1,.m 2],ob 1 1 [1],DZ 2] (rg 1 1 256)])
 |3=>(0,[pt 3 1 [st 0 328 [P 1,I 1,I 2,.rw [i64] (0,64) none],ob 1 1 [3]] (anyI 1++anyI 2++rg 3 1 64)])
 |4=>(0,[pt 1 1 [st 0 331 [P 1,.rw [i64] (0,64) none],ob 1 1 [1]] (rg 1 1 64)])
 |5=>(0,[pt 0 0 [st 0 333 [.k (.bool true),.k .nils]] [],pt 2 1 [st 0 333 [.k (.bool true),.su 1 1 (1,0) (2,0)],row 1 1 3 [iR 0 3]] (rg 1 0 100000++rg 2 0 2000)])
 |6=>(1,[pt 0 1 [st 0 336 [.k .nils,.m 1],(1,.ob 7 [(0,0)])] [((1,0),(0,0)),((0,0),(1,0))],pt 0 2 [st 0 336 [sl 2 1 6,.m 1],ob 1 7 [1],row 2 1 53 oX] (rg 1 0 10000),pt 0 2 [st 0 336 [.sl 2 oz (1,0) (.kn (0,0)),.m 1],ob 1 7 [1],(2,.cl false (some 53) [.rw oX (0,0) none])] [((1,0),(0,0)),((0,0),(1,0))]])
 |7=>(1,[])
 |99=>(50,[])
 |8=>(0,[pt 2 5 [st 0 238 [.k .nili,.ifc 221 (P 1),.ifc 224 (P 2),.ifc 227 (P 3),P 4,P 5,I 2],ob 1 2 [],ob 2 3 [],ob 3 4 [],ob 4 5 [],ob 5 6 [1]] (rg 1 0 10000++anyI 2)])
 |_=>(0,[])
def o0 (r:A)(mem:List (Nat×AO)):OUT:=⟨0,0,0,r,mem,[]⟩
def o1 (ni:Nat)(r:A)(mem:List (Nat×AO))(fs:List (LE×LE)):OUT:=⟨ni,0,0,r,mem,fs⟩
def c1 (ni nb:Nat)(args:List A)(mem:List (Nat×AO))(fs:List (LE×LE))(outs:List OUT):CN:=⟨ni,0,nb,args,mem,fs,outs⟩
def cpy (τ:Nat):List CN:=[c1 0 1 [P 0] [ob 0 τ []] [] [⟨0,0,1,P 1,[ob 0 τ [],ob 1 τ []],[]⟩]]
def SW (τ:Nat):List CN:=[c1 0 1 [P 0] [ob 0 τ []] [] [o0 (.k .nils) [ob 0 τ []],⟨1,0,1,sl 1 1 3,[ob 0 τ [],row 1 1 51 It],rg 1 0 256⟩]]
def opK (k:Int)(l:List (Nat×Int×Int)):OUT:=o1 0 e0 [] ([((1,0),(0,k)),((0,k),(1,0))]++ik (fun p=>rg p.1 p.2.1 p.2.2) l)
def mR:Nat×Int×Int:=(2,0,3)
def P2:List OUT:=[opK 1 [mR,(3,0,4)],opK 2 [mR,(3,0,31),(4,0,3)],opK 3 [mR,(3,0,31),(4,0,3),(5,-1,31)],opK 4 [mR,(3,0,31)],opK 5 [mR,(3,-1,31),(4,0,7)],opK 6 [mR,(4,0,7)],opK 7 [mR],
 opK 8 [mR,(3,1,3),(4,0,1048576)],opK 9 [mR,(3,0,1999)],opK 10 [mR,(3,0,1999)],opK 11 [mR,(3,0,1999),(4,1,1048576)],opK 12 [mR,(3,0,1999)],opK 13 [(3,1,10000)],opK 14 [],opK 15 [(3,1,1048576)],opK 16 [],opK 17 []]
def opA:A:=.ag [I 1,I 2,I 3,I 4,I 5,.s 0 6]
def opF:List (LE×LE):=anyI 1++anyI 2++anyI 3++anyI 4++anyI 5++rg 6 0 lA
def mO:Nat×AO:=ob 0 9 [1,2,3,4]
def xk:List (LE×LE):=[((2,0),(0,9000)),((3,0),(0,7000)),((4,0),(0,2300))]
def mOg (x:Nat):Nat×AO:=ob 0 9 [1,x,x+1,x+2]
def D1 (x y:Nat)(k:Int):List (LE×LE):=[((x,0),(y,0)),((y,0),(x,k))]
def Ez (x:Nat):List (LE×LE):=D1 2 x 1++D1 3 (x+1) 1++D1 4 (x+2) 1
def opN (x:Nat):A:=.ag [I x,I (x+1),I (x+2),I (x+3),I (x+4),.s 0 (x+5)]
def EA (x:Nat):List (LE×LE):=anyI x++anyI (x+1)++anyI (x+2)++anyI (x+3)++anyI (x+4)++rg (x+5) 0 lA
def opC (l:List (LE×LE))(outs:List OUT):List CN:=[⟨10,1,1,[P 0,opN 5],[mO],EA 5++xk++l,outs⟩]
def isE (x:Nat)(k:Int):List (LE×LE):=[((x,0),(0,k)),((0,k),(x,0))]
def opW (k:Int)(l:List (Nat×Int×Int))(b:List (LE×LE)):List (LE×LE):=isE 5 k++ik (fun p=>rg p.1 p.2.1 p.2.2) l++b
def mB:List (LE×LE):=below 6 1 0
def EB (k:Nat):List (LE×LE):=match k with
 |1=>opW 1 [(7,0,4)] mB
 |2=>opW 2 [(7,0,31),(8,0,3)] mB
 |3=>opW 3 [(7,0,31),(8,0,3),(9,-1,31)] mB
 |4=>opW 4 [(7,0,31)] mB
 |5=>opW 5 [(7,-1,31),(8,0,7)] mB
 |6=>opW 6 [(8,0,7)] mB
 |7=>opW 7 [] mB
 |8=>opW 8 [(7,1,3),(8,0,1048576)] mB
 |9=>opW 9 [] (mB++below 7 3 0)
 |10=>opW 10 [] (mB++below 7 3 0)
 |11=>opW 11 [(8,1,1048576)] (mB++below 7 3 0)
 |12=>opW 12 [] (mB++below 7 3 0)
 |13=>opW 13 [(7,1,10000)] []
 |14=>opW 14 [] []
 |15=>opW 15 [(7,1,1048576)] []
 |16=>opW 16 [] []
 |_=>opW 17 [] []
def T9:A:=.ag [I 1,I 2,I 3,I 4,I 5,I 6,I 7,I 8,I 9,Uu 10]
def Ua:List (LE×LE):=anyI 1++anyI 2++anyI 3++anyI 4++anyI 5++anyI 6++anyI 7++anyI 8++anyI 9++AU 10
def SX:List (LE×LE):=rg 1 1 256++rg 6 1 256++rg 2 1 4++rg 3 1 64++rg 4 1 64++rg 5 1 64++rg 7 1 64++rg 10 1 4294967295++[((0,1),(8,0)),((8,0),(9,0)),((9,0),(0,1048576))]
def P3:List (List (LE×LE)):=ik (fun(p:Nat×Int)=>[[((p.1,0),(0,0))],[((0,p.2+1),(p.1,0))]]) [(1,256),(6,256),(2,4),(3,64),(4,64),(5,64),(7,64)]++[[((8,0),(0,0))],[((9,1),(8,0))],[((0,1048577),(9,0))],[((10,0),(0,0))]]
def JJ:OUT:=o1 4 (I 11) [mOg 12] (er 11++Ez 12)
def P4 (r:A)(x:Nat)(l:List (List (LE×LE))):List OUT:=l.map fun b=>o1 1 (.tp [r,I x]) [] (rg x 1 17++b)
def D2:List EK:=[i64,i64,i64,i64,i64,.stb 200]
def D3:List EK:=[i64,i64]
def yA:List EK:=[.str,i64,i64,u32,i64,i64]
def lP (U x:Nat)(ks:List EK):Nat×AO:=(U,.cl true none [.rw ks (x,0) none])
def slK (U x c:Nat):A:=.sl U oz (x,0) (.kn (c,0))
def suN (U x w:Nat):A:=.su U w (x,0) (x,0)
def D4 (o r t l k:A):A:=.ag [o,r,t,l,k,I 11,I 12,I 13,I 14,I 15]
def D5:List (LE×LE):=rg 1 0 80++rg 2 0 80++rg 3 0 80++rg 4 0 150++rg 5 0 40++[((1,0),(6,0)),((2,0),(7,0)),((3,0),(8,0)),((4,0),(9,0)),((5,0),(10,0))]++ik anyI [11,12,13,14,15]
def D6 (x:Nat):A:=.ag [I x,I (x+1),I (x+2),I (x+3),I (x+4),I (x+5),I (x+6),I (x+7),I (x+8),Uu (x+9)]
def jC (x:Nat):List (LE×LE):=ik anyI [x,x+1,x+2,x+3,x+4,x+5,x+6,x+7,x+8]++AU (x+9)
def eqF (x y:Nat):List (LE×LE):=[((x,0),(y,0)),((y,0),(x,0))]
def Nl (U:Nat):Nat×AO:=(U,.so true none (3,0) (0,0) (some (0,0)) (some (4,0)) [])
def SY:List (A×List (Nat×AO)×List (LE×LE)):=[(.k .nils,[],eqF 4 0),(slK 3 4 9,[lP 3 4 oX],[])]
def Q3 (k:A×List (Nat×AO)×List (LE×LE)):List (A×List (Nat×AO)×List (LE×LE)):=SY.map (fun p=>(D4 (suN 0 1 6) (suN 1 2 2) (suN 2 3 1) p.1 k.1,p.2.1++k.2.1,p.2.2++eqF 1 0++eqF 2 0++eqF 3 0++k.2.2)) ++
 SY.map (fun p=>(D4 (slK 0 1 6) (slK 1 2 7) (slK 2 3 8) p.1 k.1,[lP 0 1 D2,lP 1 2 D3,Nl 2]++p.2.1++k.2.1,p.2.2++eqF 1 2++eqF 1 3++[((0,1),(1,0))]++k.2.2))
def zau:List (A×List (Nat×AO)×List (LE×LE)):=Q3 (suN 4 5 6,[],[])
def JK (ni:Nat)(more:List A)(fs:List (LE×LE))(out:List (Nat×AO)->List OUT):List CN:=zau.map fun p=>⟨15+ni,0,5,p.1 :: more,p.2.1,D5++p.2.2++fs,out p.2.1⟩
def Nn (ni:Nat)(more:List A)(fs:List (LE×LE))(out:List (Nat×AO)->List OUT):List CN:=[⟨2+ni,0,1,more++[.k .nils],[],fs++rg 1 0 0++rg 2 0 0,out []⟩,⟨2+ni,0,1,more++[slK 0 1 2],[lP 0 1 oX],fs++rg 1 0 150++[((1,0),(2,0))],out [lP 0 1 oX]⟩]
def Oq:List (LE×LE):=[((0,0),(1,0)),((0,0),(2,0)),((0,0),(3,0)),((0,0),(4,0)),((0,0),(5,0)),((1,0),(6,0))]++ik anyI [11,12,13,14,15]
def Ot (m:List (Nat×AO)):List OUT:=[o1 0 (.b (.not (.lt (0,40) (5,0)))) m [((1,0),(0,80)),((2,0),(0,80)),((3,0),(0,80)),((4,0),(0,150))],o1 0 (.k (.bool false)) m []]
def Q4:Nat×AO:=(0,.tl none [i64,i64,i64,i64,i64,.str] (1,0) (16,0) 5 200)
def spec (f:FuncId):List CN:=match f with
 |4=>(fun(l:List (A×List (Nat×AO)×List (LE×LE)×List OUT))=>l.map fun p=>⟨16,0,5,[D4 p.1 (suN 1 2 2) (suN 2 3 1) (suN 3 4 6) (suN 4 5 6)],p.2.1,Oq++p.2.2.1,p.2.2.2⟩)
   [(.k .nils,[],eqF 1 0,Ot []),(slK 0 1 6,[lP 0 1 D2],[],Ot [lP 0 1 D2]),
    (slK 0 1 6,[Q4],lt0 16 1,[o0 (.k (.bool false)) []])]
 |20=>JK 1 [I 16] (anyI 16) fun m=>[o1 1 (I 17) m [((0,-1),(17,0)),((17,1),(1,0))],o0 (.k (.int .i64 (-1))) m]
 |21=>JK 0 [] [] fun m=>[o1 1 (I 16) m [((0,-1),(16,0)),((16,1),(1,0))],o0 (.k (.int .i64 (-1))) m]
 |22=>ik (fun k=>(Q3 k).map fun p=>⟨15,0,5,[p.1],p.2.1,D5++p.2.2,[o1 1 (.b (.lt (0,0) (16,0))) p.2.1 []]⟩) [(.k .nils,[],eqF 5 0),(slK 4 5 10,[lP 4 5 yA],[])]
 |39=>JK 0 [] [] fun m=>[o1 1 (.b (.lt (0,0) (16,0))) m []]
 |30=>JK 10 [D6 16] (jC 16) fun m=>[o1 1 (.b (.lt (0,0) (26,0))) m []]
 |43=>[⟨1,0,0,[.k .nils,I 1],[],anyI 1,[o1 1 (I 2) [] [((0,0),(2,0))]]⟩,⟨4,0,1,[.su 0 6 (1,0) (2,0),I 3],[lP 0 1 oX],rg 1 0 150++rg 2 0 150++anyI 3,[o1 1 (I 5) [lP 0 1 oX] [((0,0),(5,0))]]⟩]
 |33=>Nn 0 [] [] fun m=>[o1 3 (.tp [.b (.lt (0,0) (3,0)),I 4,I 5]) m (rg 5 0 17)]
 |35=>Nn 0 [] [] fun m=>[o1 3 (.tp [.b (.lt (0,0) (3,0)),I 4,I 5]) m (rg 5 0 17)]
 |37=>Nn 0 [] [] fun m=>[o1 3 (.tp [.b (.lt (0,0) (3,0)),I 4,I 5]) m (rg 5 0 17)]
 |38=>Nn 10 [D6 3] (jC 3) fun m=>[o1 3 (.tp [.b (.lt (0,0) (13,0)),I 14,I 15]) m (rg 15 0 17)]
 |16=>[⟨25,0,5,[D4 (suN 0 1 6) (suN 1 2 2) (.k .nils) (suN 3 4 6) (suN 4 5 6),D6 16],[],D5++jC 16++eqF 3 0,[o1 1 (I 26) [] (rg 26 1 17),o1 0 e0 [] (eqF 1 3++eqF 2 3)]⟩,
   ⟨25,0,5,[D4 (suN 0 1 6) (suN 1 2 2) (slK 2 3 8) (suN 3 4 6) (suN 4 5 6),D6 16],[lP 2 3 [i64]],D5++jC 16++[((0,1),(3,0))],[o1 1 (I 26) [lP 2 3 [i64]] (rg 26 1 17),o1 0 e0 [Nl 2] (eqF 1 3++eqF 2 3)]⟩,
   ⟨25,0,5,[D4 (suN 0 1 6) (suN 1 2 2) (slK 2 3 8) (suN 3 4 6) (suN 4 5 6),D6 16],[lP 2 3 [i64]],D5++jC 16++eqF 3 0,[o1 1 (I 26) [lP 2 3 [i64]] (rg 26 1 17),o1 0 e0 [lP 2 3 [i64]] (eqF 1 3++eqF 2 3)]⟩]
 |244=>[⟨1,1,0,[.s 0 1],[],rg 1 0 lA,[o1 1 (I 2) [] (er 2)]⟩]
 |172=>[⟨6,1,0,[opA],[],opF,o1 1 (I 7) [] (rg 7 1 17) :: P2⟩]
 |173000=>[⟨1,0,0,[I 1],[],anyI 1,[o1 1 (.b (.lt (0,0) (2,0))) [] []]⟩]
 |155=>[⟨6,0,0,[.ag [I 1,I 2,I 3,Uu 4,I 5,I 6]],[],anyI 1++uL 2 3 4++anyI 5++anyI 6,[o0 e0 [],o0 (.k (.int .i64 2)) []]⟩]
 |64=>[⟨5,0,0,[.ag [I 1,I 2,I 3,I 4,I 5]],[],anyI 1++anyI 2++anyI 3++anyI 4++anyI 5,[o0 e0 [],o0 (.k (.int .i64 2)) []]⟩]
 |63=>[⟨3,0,0,[I 1,I 2,I 3],[],anyI 1++anyI 2++anyI 3,[o1 2 (.tp [I 4,I 5]) [] (anyI 4++er 5)]⟩]
 |100=>[c1 2 0 [I 1,Uu 2] [] (anyI 1++AU 2) (P4 nP 3 [[((1,0),(0,0))],[((0,257),(1,0))],[((2,0),(0,0))]]++[⟨0,0,1,.tp [P 0,e0],[ob 0 1 [1]],rg 1 1 256++[((0,1),(2,0))]⟩])]
 |212=>[c1 1 1 [P 0] [ob 0 1 [1]] [] [⟨0,0,1,P 1,[ob 0 1 [1],ob 1 1 [1]],[]⟩]]
 |265=>[c1 1 1 [P 0] [ob 0 1 [1]] [] [o1 3 (.tp [Q2 2 3,I 4]) [ob 0 1 [1]] (lt0 2 1++AU 3++er 4)]]
 |269=>[c1 2 0 [nP,Q2 1 2] [] [] [o0 (.k (.int .i64 1)) []],
   c1 3 1 [P 0,Q2 2 3] [ob 0 1 [1]] (anyI 2++AU 3) [o1 0 e0 [ob 0 1 [1]] (lt0 2 1),o1 1 (I 4) [ob 0 1 [1]] (rg 4 1 7)]]
 |281=>[c1 3 1 [P 0,Q2 2 3] [ob 0 1 [1]] (anyI 2++AU 3) [o1 1 (I 4) [ob 0 1 [1]] (er 4)]]
 |286=>[c1 1 1 [P 0] [ob 0 1 [1]] [] [o0 (.k .nils) [ob 0 1 [1]],⟨1,0,1,sl 1 2 2,[ob 0 1 [1],row 1 2 278 (SV 1)],rg 2 0 256⟩]]
 |242=>[c1 0 1 [.ifc 114 (.m 0)] [DZ 0] [] [⟨0,0,1,.ifc 114 (.m 1),[DZ 0,DZ 1],[]⟩]]
 |213=>[c1 0 1 [.m 0] [DZ 0] [] [⟨0,0,1,.m 1,[DZ 0,DZ 1],[]⟩]]
 |102=>[c1 2 0 [I 1,Uu 2] [] (anyI 1++AU 2) (P4 nP 3 [[((1,0),(0,0))],[((0,65),(1,0))],[((2,0),(0,0))]]++[⟨0,0,1,.tp [P 0,e0],[ob 0 2 []],[]⟩])]
 |169=>cpy 2
 |247=>[c1 1 1 [P 0,I 1] [ob 0 2 []] (anyI 1) [o1 4 (.tp [zM 2 3 4,I 5]) [ob 0 2 []] (uL 2 3 4++er 5)]]
 |271=>[c1 3 1 [P 0,zM 1 2 3] [ob 0 2 []] (uL 1 2 3) [o1 1 (I 4) [ob 0 2 []] (er 4)]]
 |361=>SW 2
 |103=>[c1 3 0 [I 1,I 2,Uu 3] [] (anyI 1++anyI 2++AU 3) (P4 nP 4 [[((1,0),(0,0))],[((0,65),(1,0))],[((2,0),(0,0))],[((0,16777217),(2,0))],[((3,0),(0,0))]]++[⟨0,0,1,.tp [P 0,e0],[ob 0 3 []],[]⟩])]
 |170=>cpy 3
 |267000=>[c1 0 1 [P 0] [ob 0 3 []] [] [o1 1 (I 1) [ob 0 3 []] (anyI 1)]]
 |248=>[c1 1 1 [P 0,I 1] [ob 0 3 []] (anyI 1) [o1 4 (.tp [zM 2 3 4,I 5]) [ob 0 3 []] (uL 2 3 4++er 5)]]
 |272=>[c1 3 1 [P 0,zM 1 2 3] [ob 0 3 []] (uL 1 2 3) [o1 1 (I 4) [ob 0 3 []] (er 4)]]
 |363=>SW 3
 |104=>[c1 2 0 [I 1,Uu 2] [] (anyI 1++AU 2) (P4 nP 3 [[((1,0),(0,0))],[((0,65),(1,0))],[((2,0),(0,0))]]++[⟨0,0,1,.tp [P 0,e0],[ob 0 4 []],[]⟩])]
 |171=>cpy 4
 |249=>[c1 2 1 [P 0,I 1,I 2] [ob 0 4 []] (anyI 1++anyI 2) [o1 4 (.tp [zM 3 4 5,I 6]) [ob 0 4 []] (uL 3 4 5++er 6)]]
 |229=>[c1 5 1 [P 0,zM 1 2 3,I 4,I 5] [ob 0 4 []] (uL 1 2 3++anyI 4++anyI 5) [o1 1 (I 6) [ob 0 4 []] (er 6)]]
 |273=>[c1 3 1 [P 0,zM 1 2 3] [ob 0 4 []] (uL 1 2 3) [o1 1 (I 4) [ob 0 4 []] (er 4)]]
 |236=>[c1 3 1 [P 0,zM 1 2 3] [ob 0 4 []] (uL 1 2 3) [o1 2 (.tp [I 4,I 5]) [ob 0 4 []] (anyI 4++er 5)]]
 |364=>SW 4
 |105=>[c1 0 0 [] [] [] [⟨0,0,1,P 0,[ob 0 5 []],[]⟩]]
 |167=>cpy 5
 |224=>[c1 0 1 [P 0] [ob 0 5 []] [] [o1 1 (I 1) [ob 0 5 []] (rg 1 0 3)]]
 |275=>[c1 1 0 [.k (.slice 2 1 3 (.known 3)),.i .u8 (1,0)] [] (rg 1 0 255) [o1 1 (I 2) [] (rg 2 (-1) 2)]]
 |237=>[⟨1,1,0,[.s 0 1],[],rg 1 0 lA,[o1 1 (.tp [.k .nils,I 2]) [] (rg 2 1 17),o0 (.tp [.k .nils,e0]) [],⟨1,0,1,.tp [sl 0 2 1,e0],[row 0 2 3 [iR 1 3]],rg 2 0 2000⟩]⟩]
 |204=>[⟨1,1,1,[P 0,.s 0 1],[ob 0 5 []],rg 1 0 lA,[o1 1 (I 2) [ob 0 5 []] (er 2)]⟩]
 |106=>[c1 0 0 [] [] [] [⟨0,0,1,P 0,[(0,.ob 6 [(0,0)])],[]⟩]]
 |198=>[c1 1 1 [P 0] [ob 0 6 [1]] [] [o1 0 (I 1) [ob 0 6 [1]] (rg 1 0 10000)]]
 |168=>[c1 1 1 [P 0] [ob 0 6 [1]] [] [⟨0,0,1,P 1,[ob 0 6 [1],ob 1 6 [1]],rg 1 0 10000⟩]]
 |258=>[c1 7 1 [P 0,.ag [I 2,I 3,I 4,Uu 5,I 6,I 7]] [ob 0 6 [1]] (anyI 2++uL 3 4 5++anyI 6++anyI 7) [o1 1 (I 8) [ob 0 6 [1]] (rg 8 1 17),o0 e0 [(0,.ob 6 [(1,1)])]]]
 |140=>[⟨11,1,1,[P 0,opN 5,I 11],[mO],EA 5++anyI 11++EB 9++xk,[o1 4 (.b (.lt (0,0) (12,0))) [mOg 13] (Ez 13)]⟩]
 |142=>[⟨11,1,1,[P 0,opN 5,I 11],[mO],EA 5++anyI 11++EB 10++xk,[o1 4 (.b (.lt (0,0) (12,0))) [mOg 13] (Ez 13)]⟩]
 |144=>[⟨11,1,1,[P 0,opN 5,I 11],[mO],EA 5++anyI 11++EB 11++xk,[o1 4 (.b (.lt (0,0) (12,0))) [mOg 13] (Ez 13)]⟩]
 |146=>[⟨11,1,1,[P 0,opN 5,I 11],[mO],EA 5++anyI 11++EB 12++xk,[o1 4 (.b (.lt (0,0) (12,0))) [mOg 13] (Ez 13)]⟩]
 |151=>[⟨11,1,1,[P 0,opN 5,I 11],[mO],EA 5++anyI 11++EB 15++xk,[o1 1 (.b (.lt (0,0) (12,0))) [mO] []]⟩]
 |82=>[⟨12,1,1,[P 0,opN 5,.ag [I 11,I 12],.k .nils],[mO],EA 5++anyI 11++anyI 12++xk,[o1 4 (.b (.lt (0,0) (13,0))) [mOg 14] (Ez 14)]⟩,
   ⟨14,1,2,[P 0,opN 5,.ag [I 11,I 12],.su 1 6 (13,0) (14,0)],[mO,lP 1 13 oX],EA 5++anyI 11++anyI 12++rg 13 0 100000++rg 14 0 10000++xk,[o1 4 (.b (.lt (0,0) (15,0))) [mOg 16,lP 1 13 oX] (Ez 16)]⟩]
 |25=>[⟨10,0,0,[T9],[],Ua,P3.map (fun b=>o1 1 (I 11) [] (rg 11 1 17++b))++[o1 0 e0 [] SX]⟩]
 |56=>[⟨10,0,0,[T9],[],Ua,[o1 1 (.tp [nP,I 11]) [] (rg 11 1 17),⟨1,0,1,.tp [P 0,e0],[(0,.ob 10 [(11,0),(0,1),(0,0),(0,0)])],rg 11 1 4⟩]⟩]
 |57=>ik (fun τ=>[⟨12,1,1,[P 0,opN 5,.ag [I 11,I 12],.k .nils],[ob 0 τ [1,2,3,4]],EA 5++anyI 11++anyI 12++xk,[o1 1 (I 13) [ob 0 τ [1,2,3,4]] (rg 13 1 17),o1 3 e0 [mOg 13] (Ez 13)]⟩,
   ⟨14,1,2,[P 0,opN 5,.ag [I 11,I 12],.su 1 6 (13,0) (14,0)],[ob 0 τ [1,2,3,4],lP 1 13 oX],EA 5++anyI 11++anyI 12++rg 13 0 100000++rg 14 0 10000++xk,[o1 1 (I 15) [ob 0 τ [1,2,3,4],lP 1 13 oX] (rg 15 1 17),o1 3 e0 [mOg 15,lP 1 13 oX] (Ez 15)]⟩]) [9,10]
 |149=>[c1 5 1 [P 0,I 5,.k .nils] [mO] (anyI 5++xk) [o1 1 (.b (.lt (0,0) (6,0))) [mO] []],
   c1 7 2 [P 0,I 5,.su 1 6 (6,0) (7,0)] [mO,lP 1 6 oX] (anyI 5++xk++rg 6 0 100000++rg 7 0 10000) [o1 1 (.b (.lt (0,0) (8,0))) [mO,lP 1 6 oX] []]]
 |196=>(fun(m:PT) (b:Nat)=>⟨35,0,Nat.succ b,[P 0,.ag [I 30,I 31,I 32,Uu 33,I 34,I 35],.sl b oz (2,0) (.kn (2,0))],m.mem++[row b 2 4 [.bool]],m.fs++xk++anyI 30++uL 31 32 33++anyI 34++anyI 35,[o1 1 (.tp [I 36,.k (.bool false)]) (m.mem++[row b 2 4 [.bool]]) (anyI 36),o1 1 (.tp [I 36,.k (.bool true)]) (m.mem++[row b 2 4 [.bool]]) (below 36 28 0)]⟩) mdD 6 ::
   [(fun(m:PT) (b:Nat)=>⟨35,0,Nat.succ b,[P 0,.ag [I 30,I 31,I 32,Uu 33,I 34,I 35],.sl b oz (2,0) (.kn (2,0))],m.mem++[row b 2 4 [.bool]],m.fs++xk++anyI 30++uL 31 32 33++anyI 34++anyI 35,[o1 1 (.tp [I 36,.k (.bool false)]) (m.mem++[row b 2 4 [.bool]]) (anyI 36)]⟩) (md true) 4]
 |174=>[c1 5 1 [P 0,I 5] [mO] (below 5 1 0) [o1 1 (.b (.lt (0,0) (6,0))) [mO] []]]
 |175=>[c1 4 1 [P 0] [mO] [] [o1 1 (.b (.lt (0,0) (5,0))) [mO] []]]
 |176=>[c1 5 1 [P 0,I 5] [mO] (below 5 1 0) [o1 1 (.b (.lt (0,0) (6,0))) [mO] []]]
 |177001=>[c1 6 1 [P 0,I 5,I 6] [mO] (below 5 1 0++rg 6 0 4++xk) [o0 (I 2) [(0,.ob 9 [(1,0),(2,1),(3,0),(4,0)])],o0 (I 2) [(0,.ob 9 [(1,0),(2,1),(3,0),(4,1)])]]]
 |181000=>[c1 4 1 [P 0] [mO] [] [o1 1 (I 5) [mO] (rg 5 0 8000)]]
 |184000=>[c1 4 1 [P 0] [mO] [] [o1 1 (I 5) [mO] (rg 5 0 8000)]]
 |182=>[c1 5 1 [P 0,I 5] [mO] (anyI 5) [o1 1 (.b (.lt (0,0) (6,0))) [mO] []]]
 |138=>[⟨11,1,1,[P 0,opN 5,I 11],[mO],EA 5++anyI 11++EB 8++xk,[o1 4 (.b (.lt (0,0) (12,0))) [mOg 13] (Ez 13)]⟩]
 |135=>[c1 6 1 [P 0,I 5,I 6] [mO] (below 5 1 0++below 6 2 0++xk) [o1 4 (I 7) [mOg 8] (er 7++Ez 8)]]
 |194=>[c1 4 1 [P 0] [mO] [] [⟨1,0,1,.tp [.sl 1 oz (2,0) (.kn (2,0)),I 5],[mO,row 1 2 4 [.bool]],anyI 5⟩]]
 |125=>[⟨11,1,1,[P 0,opN 5,I 11],[mO],EA 5++anyI 11++EB 1++xk,[o1 4 (.b (.lt (0,0) (12,0))) [mOg 13] (Ez 13)]⟩]
 |81=>[c1 4 1 [P 0] [mO] [] [⟨0,0,1,P 1,[mO,ob 1 9 [1,2,3,4]],[]⟩],c1 4 1 [P 0] [ob 0 10 [1,2,3,4]] [] [⟨0,0,1,P 1,[ob 0 10 [1,2,3,4],ob 1 9 [1,2,3,4]],[]⟩]]
 |123=>opC [] (o1 1 (I 11) [mO] (rg 11 1 17) :: [1,2,3,4,5,6,7,8,9,10,11,12,13,14,15,16,17].map fun k=>o1 0 e0 [mO] (EB k))
 |127=>opC (EB 2) [JJ]
 |129=>opC (EB 3) [JJ]
 |131=>opC (EB 4) [JJ]
 |133=>opC (EB 5) [JJ]
 |74=>[c1 1 0 [Uu 1] [] (AU 1) (P4 nP 2 [[((1,0),(0,0))]]++[⟨0,0,1,.tp [P 0,e0],[ob 0 8 []],[]⟩])]
 |120=>cpy 8
 |183=>[c1 2 1 [P 0,I 1,I 2] [ob 0 8 []] (anyI 1++anyI 2) [o1 4 (.tp [zM 3 4 5,I 6]) [ob 0 8 []] (uL 3 4 5++er 6)]]
 |190=>[c1 4 1 [P 0,zM 1 2 3,I 4] [ob 0 8 []] (uL 1 2 3++anyI 4) [o1 1 (I 5) [ob 0 8 []] (er 5)]]
 |201=>[c1 1 1 [P 0,I 1] [ob 0 8 []] (anyI 1) [o1 1 (I 2) [ob 0 8 []] (er 2)]]
 |202=>[c1 3 1 [P 0,zM 1 2 3] [ob 0 8 []] (uL 1 2 3) [o1 2 (.tp [I 4,I 5]) [ob 0 8 []] (anyI 4++er 5)]]
 |235=>[c1 4 1 [P 0,zM 1 2 3,I 4] [ob 0 8 []] (uL 1 2 3++anyI 4) [o1 2 (.tp [I 5,I 6]) [ob 0 8 []] (rg 5 0 3++er 6)]]
 |200=>[c1 0 1 [P 0] [ob 0 8 []] [] [o1 1 (I 1) [ob 0 8 []] (anyI 1)]]
 |154=>[⟨1,1,1,[P 0,.s 0 1],[ob 0 8 []],rg 1 0 lA,[o1 1 (I 2) [ob 0 8 []] (er 2)]⟩]
 |197=>[c1 0 1 [P 0] [ob 0 8 []] [] [⟨1,0,1,P 1,[ob 0 8 [],ob 1 6 [1]],rg 1 0 10000⟩]]
 |250000=>[c1 3 1 [P 0,zM 1 2 3] [ob 0 8 []] (uL 1 2 3) [o1 1 (.b (.lt (0,0) (4,0))) [ob 0 8 []] []]]
 |_=>[]
def JL (J:AS)(t n U:Nat)(tb te:TypeId)(ks:List EK):LA:=hd J 2 0 1 [(t,.i .i64 (J.nx,0))] [(U,.cl false (some tb) [.sl J.nb oz (J.nx+1,0) (.al (J.nx+1,0) ks.length)]),(J.nb,.cl false (some te) [.rw ks (J.nx+1,0) none])] [((0,0),(J.nx,0)),((J.nx,0),tI J n),((0,0),(J.nx+1,0)),((J.nx+1,0),(J.nx,0))] (tI J n) (J.nx,0)
def La (J:AS)(t:Nat)(u:Nat):Option (FuncId×Nat):=match J.tm.get t with
 |some (.yd Ul)=>match J.mem.get Ul with
  |some (_,.lp lp)=>match lp.tm.get u with
   |some (.p U _)=>some (lp.fn,U)
   |_=>some (lp.fn,0)
  |_=>none
 |_=>none
def zav (J:AS):List LA:=match La J 0 3 with
 |some (286,U)=>match J.mem.get 0 with
  |some (_,.ob ..)=>[up J 18 17 [],JL J 18 17 U 455 278 (SV 1)]
  |_=>[up J 18 17 [],JL J 18 17 U 455 278 (SV 1)]
 |_=>[up J 18 17 []]
def U3 (J:AS):List LA:=match La J 0 3 with
 |some (267,U)=>[hd J 2 0 0 [(14,.i .i64 (J.nx,0))] [st U 3 [I (J.nx+1)]] (rg (J.nx+1) nX lA++[((0,0),(J.nx,0)),((J.nx,0),tI J 13)]) (tI J 13) (J.nx,0)]
 |some (363,U)=>[up J 14 13 [],JL J 14 13 U 436 51 It]
 |_=>[]
def U4 (J:AS)(t w:Nat):List (Nat×AO):=match J.tm.get t with
 |some (.sl U _ _ _)=>match J.mem.get U with
  |some (_,.cl ro ty l)=>match l with
   |[.rw ..]=>[]
   |l=>match rowOf J.z w l with
    |some r=>[(U,.cl ro ty [.rw r.1 r.2 none])]
    |none=>[]
  |_=>[]
 |_=>[]
def cellsOf (J:AS)(t:Nat):Option (Nat×AO):=match J.tm.get t with
 |some (.p U _)=>match J.mem.get U with
  |some (_,ao)=>some (U,ao)
  |none=>none
 |_=>none
def Lc (J:AS)(t:Nat):List A:=match J.tm.get t with
 |some (.sl U _ _ _)=>match J.mem.get U with
  |some (_,.cl _ _ l)=>l
  |_=>[]
 |_=>[]
def Q5 (a:A):LE:=match a with
 |.sl _ _ n _=>n
 |.su _ _ _ n=>n
 |_=>(0,0)
def SZ (z:ZN)(p:Option LE)(q:LE):Option LE:=match p with
 |none=>none
 |some p=>match Nat.beq q.1 0,Nat.beq p.1 0 with
  |true,_=>some (plus p q.2)
  |_,true=>some (plus q p.2)
  |_,_=>N7 p q z.sm
def JM (z:ZN):List A->Option LE->List (Option LE)
 |[],s=>[s]
 |a :: l,s=>s :: JM z l (SZ z s (Q5 a))
def kI (n:Nat):A:=.k (.int .i64 (Int.ofNat n))
def S5 (J:AS):List A->List EK->List EK
 |[],ks=>ks
 |a :: l,ks=>match OK a 1 [] J with
  |some p=>match mQ J.z ks p.1 with
   |some ks=>S5 J l ks
   |none=>ks
  |none=>S5 J l ks
def P5 {α:Type}:Nat->List α->List α
 |0,_=>[]
 |_,[]=>[]
 |n+1,a :: l=>a :: P5 n l
def slB (J:AS)(t:Nat):List Nat:=match J.tm.get t with
 |some (.sl U _ _ _)=>[U]
 |_=>[]
def No:List A->Bool
 |[]=>false
 |.re .. :: _=>true
 |_ :: l=>No l
def S6 (J:AS):List LA:=let l:=Lc J 9;match No l with
 |true=>[]
 |false=>ik (fun p=>[match p.2 with
   |some e=>hd J 0 0 0 [(11,kI p.1),(3,.i .i64 e)] [] [] (0,Int.ofNat l.length) (0,Int.ofNat p.1)
   |none=>hd J 1 0 0 [(11,kI p.1),(3,I J.nx)] [] (rg J.nx 0 (Int.ofNat (p.1 * 100000))++(P5 p.1 l).map fun a=>(Q5 a,(J.nx,0))) (0,Int.ofNat l.length) (0,Int.ofNat p.1)]) (DB 0 (JM J.z l (some (0,0))))
def S7 (J:AS):List LA:=let l:=Lc J 25;let x:=J.nx;match No l with
 |true=>[]
 |false=>match slB J 6 with
  |[]=>(DB 0 (JM J.z l (some (0,0)))).map fun p=>hd J 0 0 0 [(27,kI p.1),(6,.k .nils)] [] [] (0,Int.ofNat l.length) (0,Int.ofNat p.1)
  |g=>let K:=S5 J l [.cst (.int .i64 0)];(DB 0 (JM J.z l (some (0,0)))).map fun p=>{ (match p.2 with
   |some e=>hd J 1 0 1 [(27,kI p.1),(6,.sl J.nb oz e (.al (x,0) 1))] [row J.nb x 3 K] [(e,(x,0)),((0,0),(x,0)),((x,0),(0,100000))] (0,Int.ofNat l.length) (0,Int.ofNat p.1)
   |none=>hd J 2 0 1 [(27,kI p.1),(6,.sl J.nb oz (x+1,0) (.al (x,0) 1))] [row J.nb x 3 K] [((0,0),(x+1,0)),((x+1,0),(x,0)),((x,0),(0,Int.ofNat ((p.1+1) * 10000)))] (0,Int.ofNat l.length) (0,Int.ofNat p.1)) with gone:=g }
def U5 (J:AS):List LA:=match cellsOf J 3 with
 |some (U,.cl ro ty [_,_,_,_,a,b,c])=>let x:=J.nb;let z:=A.k .nili;let h:=fun(k nb:Nat) (l:List A) (mem:List (Nat×AO))=>hd J 0 0 nb [(32,kI k)] ((U,.cl ro ty (l++[a,b,c])) :: mem) [] (0,4) (0,Int.ofNat k)
  let f:=A.ifc 221 (P x);let g:=A.ifc 224 (P (x+1));let d:=A.ifc 227 (P (x+2))
  [h 0 0 [z,z,z,z] [],h 1 0 [z,z,z,z] [],h 2 1 [z,f,z,z] [ob x 2 []],h 3 2 [z,f,g,z] [ob x 2 [],ob (x+1) 3 []],h 4 3 [z,f,g,d] [ob x 2 [],ob (x+1) 3 [],ob (x+2) 4 []]]
 |_=>[]
def itL (J:AS)(t c:Nat):List LA:=match J.tm.get t with
 |some (.p U _)=>match J.mem.get U with
  |some (_,.it a _)=>match a with
   |.s _ n=>[hd J 2 0 0 [(c,I (J.nx+1))] [(U,.it a (J.nx,0))] (rg J.nx 0 lA++[((0,0),(J.nx+1,0)),((J.nx+1,0),(J.nx,0))]) (n,0) (J.nx,0)]
   |_=>[]
  |_=>[]
 |_=>[]
def D7 (J:AS)(ex:Nat):Nat->List (Nat×AO)
 |0=>[]
 |n+1=>match J.mem.get n with
  |some (_,.rr t te ks B m N none)=>match Nat.beq n ex with
   |true=>D7 J ex n
   |false=>(n,.rr t te ks B m N none) :: D7 J ex n
  |_=>D7 J ex n
def P6 (J:AS)(t c i n:Nat):List LA:=match cellsOf J t with
 |some (_,.cl _ _ l)=>match nth l c with
  |some (.sl U _ _ _)=>match J.mem.get U with
   |some (_,.rr ty te ks B _ N none)=>[up J i n ((U,.rr ty te ks B (J.nx,0) N none) :: D7 J U J.nb)]
   |some (_,.cl _ _ [.rw [.re E _ _] N none])=>match J.mem.get E with
    |some (_,.rr ty te ks B _ _ none)=>[up J i n ((U,.rr ty te ks B (J.nx,0) N none) :: D7 J U J.nb)]
    |_=>[]
   |_=>[]
  |_=>[]
 |_=>[]
def upC (J:AS)(t n c:Nat):List LA:=[hd J 2 0 0 [(t,I J.nx),(c,I (J.nx+1))] [] [((0,0),(J.nx,0)),((J.nx,0),tI J n),((0,0),(J.nx+1,0)),((J.nx+1,0),(J.nx,0))] (tI J n) (J.nx,0)]
def pF (J:AS)(ty:TypeId):Nat->List (Nat×AO)
 |0=>[]
 |n+1=>match J.mem.get n with
  |some (_,.cl ro t [.rw ks N _])=>match t with
   |some t'=>match Nat.beq t' ty with
    |true=>(n,.cl ro t [.rw ks N none]) :: pF J ty n
    |false=>pF J ty n
   |none=>pF J ty n
  |_=>pF J ty n
def JN (J:AS):Nat->List (Nat×AO)
 |0=>[]
 |n+1=>match J.mem.get n with
  |some (_,.cl false (some 162) l)=>(n,.cl false (some 162) l) :: JN J n
  |some (_,.rr a b c d e f none)=>(n,.rr a b c d e f none) :: JN J n
  |_=>JN J n
def P7 (p:Nat×AO):Nat×AO:=match p.2 with
 |.cl ro t [.rw _ N _]=>(p.1,.cl ro t [.rw [.bool] N none])
 |_=>p
def U6 (J:AS):List LA:=match La J 0 8,La J 0 9 with
 |some (192,b8),some (_,b9)=>let x:=J.nx;[hd J 3 0 0 [(11,I x)] [st b8 3 [I (x+1)],st b9 4 [.b (.lt (0,0) (x+2,0))]] [((0,0),(x,0)),((x,0),tI J 10),((0,0),(x+1,0)),((x+1,0),(x,0))] (tI J 10) (x,0)]
 |_,_=>[up J 11 10 (pF J 260 J.nb)]
def U7 (J:AS):List EK:=match slB J 4 with
 |U :: _=>match J.mem.get U with
  |some (_,.cl _ _ l)=>match rowOf J.z 1 l with
   |some r=>r.1
   |none=>[]
  |_=>[]
 |[]=>[]
def U8 (a:Option A):List Nat:=match a with
 |some (.sl U _ _ _)=>[U]
 |_=>[]
def cell0 (J:AS)(U:Nat):Option A:=match J.mem.get U with
 |some (_,.cl _ _ (a :: _))=>some a
 |_=>none
def U9 (J:AS):List LA:=let x:=J.nx;match slB J 3,La J 0 4,La J 0 5 with
 |[Us],some (194,b4),some (_,b5)=>match J.mem.get Us,D7 J 0 J.nb with
  |some (_,.bc t w mx n _ _),rrs=>match U8 (cell0 J b4) with
   |[Ui]=>match pF J 4 J.nb with
    |rs=>[{ hd J 4 0 1 [(4,.sl J.nb oz (x,0) (.al (x+1,0) 1))] ([(J.nb,.cl false (some 3) [.rw (U7 J) (x+1,0) none]),(Us,.bc t w mx n (x+2,0) none),st b5 3 [I (x+3)]]++((rs.filter fun q=>Nat.beq q.1 Ui).map P7)++rrs) ([((0,0),(x,0)),((x,0),(x+1,0)),((x+1,0),(0,100000)),((x,0),(x+2,20000)),((0,0),(x+2,0)),((x+2,0),(0,40000))]++anyI (x+3)) (0,40000) (x+2,0) with hi2:=(x,0),lo2:=(0,0),gone:=slB J 4 }]
   |_=>[]
  |_,_=>[]
 |_,_,_=>[]
def h26 (J:AS):List LA:=let x:=J.nx;match slB J 0 with
 |[U]=>match J.mem.get U with
  |some (_,.sp E ro t tT v n _ _)=>[hd J 1 0 0 [(3,I x)] [(U,.sp E ro t tT v n (x,0) [((0,0),(0,v))])] [((0,0),(x,0)),((x,0),n)] (x,0) (0,0)]
  |some (_,.cl ..)=>[hd J 1 0 0 [(3,I x)] [] [((0,-1),(x,0)),((x,1),(match J.tm.get 0 with
   |some a=>Q5 a
   |none=>(0,0)))] (x,1) (0,0)]
  |_=>[]
 |_=>[]
def lpB (J:AS)(g u:Nat):List Nat:=match La J 0 u with
 |some (h,U)=>match Nat.beq h g with
  |true=>[U]
  |false=>[]
 |none=>[]
def S8 (k:EK):EK:=match k with
 |.cst (.int k _)=>.int k none none
 |.int k _ _=>.int k none none
 |.cst (.bool _)=>.bool
 |.cst (.str _)=>.str
 |k=>k
def Np (J:AS)(U:Nat):List (Nat×AO):=match J.mem.get U with
 |some (_,.mp kk ka vk va)=>[(U,.mp kk ka (vk.map S8) va)]
 |_=>[]
def S9 (a:Option A):List Nat:=match a with
 |some (.m U)=>[U]
 |_=>[]
def Va (J:AS)(x:Nat):Nat×List (Nat×AO)×List (LE×LE):=
 match lpB J 20 5,lpB J 20 6,lpB J 21 3,lpB J 39 3 with
 |[b5],[b6],_,_=>(2,[st b5 3 [I x],st b6 4 [.b (.lt (0,0) (x+1,0))]],anyI x)
 |_,_,[b3],_=>(0,ik (Np J) (S9 (cell0 J b3)),[])
 |_,_,_,[b3]=>(1,[st b3 3 [I x]],anyI x)
 |_,_,_,_=>(0,[],[])
def Ta (J:AS)(a:A):List (Nat×AO):=match a with
 |.sl U _ _ _=>match J.mem.get U with
  |some (_,.cl true t [.rw ks N _])=>[(U,.cl true t [.rw ks N none])]
  |_=>[]
 |_=>[]
def Tb (J:AS)(f:Option A):List (Nat×AO):=match f with
 |some (.fn _ _ (.p U _ :: _))=>match J.mem.get U with
  |some (_,.cl _ _ (_ :: _ :: t :: l :: _))=>(match t with
   |.sl E _ _ _=>match J.mem.get E with
    |some (_,.so ro ty n k lo hi _)=>[(E,.so ro ty n k lo hi [])]
    |_=>[]
   |_=>[])++Ta J l
  |_=>[]
 |_=>[]
def fol (J:AS)(x y:Nat):Nat×List (Nat×AO)×List (LE×LE):=match lpB J 30 5 with
 |[b]=>match cell0 J b with
  |some (.p U _)=>match J.mem.get U with
   |some (_,.ob _ (c :: _))=>(3,[(U,.ob 9 [c,(y,0),(y+1,0),(y+2,0)])],[((0,1),(y,0)),((y,0),(x,1)),((0,0),(y+1,0)),((y+1,0),(x,0)),((0,0),(y+2,0)),((y+2,0),(x,0))])
   |_=>(0,[],[])
  |_=>(0,[],[])
 |_=>(0,[],[])
def h65 (J:AS):List LA:=
 let p0:=Va J J.nx;let p:Nat×List (Nat×AO)×List (LE×LE):=match cellsOf J 1 with
  |some (_,.cl _ _ (_ :: _ :: _ :: l :: _))=>(p0.1,Ta J l++p0.2.1,p0.2.2)
  |_=>p0
 let x:=J.nx+p.1;let len:=tI J 8;match cellsOf J 1 with
 |some (_,.cl _ _ (_ :: _ :: t :: _))=>match t with
  |.sl U _ _ _=>match J.mem.get U with
   |some (_,.so ro ty n k lo hi _)=>[hd J p.1 0 0 [(9,e0),(3,e0)] ((U,.so ro ty n k lo hi []) :: p.2.1) p.2.2 len (0,0),
     hd J (p.1+2+(fol J 0 0).1) 0 0 [(9,I x),(3,I (x+1))] ((U,.so ro ty n k lo hi [((x,-1),(x+1,0))]) :: p.2.1++(fol J x (x+2)).2.1) (p.2.2++(fol J x (x+2)).2.2++[((0,1),(x,0)),((x,0),len),((0,0),(x+1,0))]++(BJ hi).map fun h=>((x+1,0),h)) len (x,0)]
   |_=>[]
  |_=>[hd J p.1 0 0 [(9,e0),(3,e0)] p.2.1 p.2.2 len (0,0)]
 |_=>[]
def Ou (J:AS):List A->Nat->Nat×List (Nat×AO)×List (LE×LE)
 |[],_=>(0,[],[])
 |.p U _ :: l,x=>match J.mem.get U with
  |some (_,.cl ro t [a])=>match a with
   |.m E=>let r:=Ou J l x;(r.1,Np J E++r.2.1,r.2.2)
   |a=>match toI a with
    |some _=>let r:=Ou J l (x+1);(r.1+1,(U,.cl ro t [I x]) :: r.2.1,anyI x++r.2.2)
    |none=>Ou J l x
  |_=>Ou J l x
 |_ :: l,x=>Ou J l x
def Ub (J:AS)(t:Nat):LE:=match J.tm.get t with
 |some a=>Q5 a
 |none=>(0,0)
def h11 (J:AS):List LA:=let go:=fun(e:LE)=>[hd J 2 0 0 [(6,I J.nx),(5,I (J.nx+1))] [] (anyI (J.nx+1)++[((0,0),(J.nx,0)),((J.nx,0),e)]) e (J.nx,0)]
 match slB J 0 with
 |U :: _=>match J.mem.get U with
  |some (_,.tl _ _ _ e _ _)=>go e
  |_=>go (Ub J 0)
 |[]=>go (Ub J 0)
def ann (f:FuncId)(b:Nat)(J:AS):List LA:=match f,b with
 |11,0=>h11 J
 |65,0=>h65 J
 |83,0=>[up J 10 9 []]
 |58,0=>match J.tm.get 1 with
  |some (.fn _ _ cs)=>let p:=Ou J cs J.nx;let x:=J.nx+p.1;[hd J (p.1+1) 0 0 [(17,I x)] p.2.1 (p.2.2++[((0,0),(x,0)),((x,0),tI J 16)]) (tI J 16) (x,0)]
  |_=>[]
 |46,0=>match S9 (J.tm.get 4) with
  |[U]=>match J.mem.get U with
   |some (_,.mp kk ka _ va)=>let x:=J.nx;[hd J 1 0 0 [(13,I x),(3,.k .nils)] [(U,.mp kk ka [iR (-1) (-1)] va)] [((0,0),(x,0)),((x,0),tI J 12)] (tI J 12) (x,0),
    hd J 2 0 1 [(13,I x),(3,.sl J.nb oz (x+1,0) (.al (x+1,0) 6))] [(U,.mp kk ka [.int .i64 (some (0,-1)) (some (x+1,-1))] va),(J.nb,.cl false (some 88) [.rw yA (x+1,0) none])] [((0,0),(x,0)),((x,0),tI J 12),((0,1),(x+1,0)),((x+1,0),(x,0))] (tI J 12) (x,0)]
   |_=>[]
  |_=>[]
 |45,0=>[up J 17 16 (ik (Ta J) (BJ (J.tm.get 15))++Tb J (J.tm.get 2))]
 |43,0=>match S9 (J.tm.get 5) with
  |[U]=>[up J 11 10 (Np J U)]
  |_=>[]
 |26,0=>h26 J
 |257,0=>U9 J
 |256,0=>U6 J
 |151,0=>[up J 25 24 (pF J 267 J.nb++pF J 260 J.nb)]
 |149,0=>[up J 48 47 ((pF J 4 J.nb).map P7++pF J 267 J.nb++pF J 260 J.nb++JN J J.nb)]
 |149,2=>[up J 93 92 (pF J 267 J.nb)]
 |149,5=>[up J 181 180 (pF J 260 J.nb)]
 |232,0=>[up J 8 7 []]
 |181,0=>upC J 11 10 3
 |184,0=>upC J 11 10 3
 |246,0=>[up J 8 7 []]
 |81,0=>P6 J 3 10 27 26
 |81,2=>P6 J 3 11 48 47
 |263,0=>itL J 10 6
 |206,0=>[hd J 2 0 0 [(5,I J.nx),(4,I (J.nx+1))] [] (rg J.nx 1 65++anyI (J.nx+1)) (0,65) (J.nx,0)]
 |284,0=>zav J
 |100,0=>match cellsOf J 6 with
  |some (U,.cl ro ty (c :: _))=>[up J 23 22 [(U,.cl ro ty [c,.rw [i64,u32] (0,256) none])]]
  |_=>[]
 |290,0=>[up J 12 11 (U4 J 10 1)]
 |364,0=>upG J 15 14 3 51 It []
 |120,0=>U5 J
 |278,0=>[up J 8 7 []]
 |238,0=>S6 J
 |238,2=>S7 J
 |275,0=>[up J 8 7 []]
 |274,0=>match La J 0 4 with
  |some (237,U)=>[up J 7 6 [],JL J 7 6 U 27 3 [iR 1 3]]
  |_=>[]
 |361,0=>upG J 15 14 3 51 It []
 |285,0=>U3 J
 |_,_=>[]
def uk (a b:A)(r:List (Nat×AO)):CN:=⟨5,0,6,[P 0,P 1],[st 0 336 [a,.m 2],ob 2 7 [1],st 1 336 [b,.m 3],(3,.ob 7 [(0,0)])]++r,[((1,0),(0,10000))],[o0 (.tp []) ([st 0 336 [a,.m 2],ob 2 7 [1],st 1 336 [b,.m 3],ob 3 7 [1]]++r)]⟩
def slA (U x y:Nat):A:=.sl U oz (x,0) (.al (y,0) 6)
def slN (U x y:Nat):A:=.sl U oz (x,0) (.kn (y,0))
def JO:List (LE×LE):=[((1,0),(0,10000))]++rg 2 0 10000++anyI 5++uL 6 7 8++anyI 9++anyI 10
def Nq (x:LE):List (Nat×AO):=[st 0 336 [.sl 3 oz (3,0) (.al (4,0) 6),.m 2],(2,.ob 7 [x]),st 1 53 [I 5,I 6,I 7,Uu 8,I 9,I 10],row 3 4 53 oX]
def hand (f:FuncId)(c:Code):Option HD:=match f with
 |168=>match c with
  |.seq (.region 5 _ _) (.block 0 _)=>some ⟨[0,3],36,[uk (.k .nils) (.k .nils) [],uk (slA 4 2 3) (slA 5 4 5) [row 4 3 53 oX,row 5 5 53 oX],uk (slA 4 2 3) (slN 5 4 5) [row 4 3 53 oX],uk (slN 4 2 3) (slA 5 4 5) [row 5 5 53 oX],uk (slN 4 2 3) (slN 5 4 5) []]⟩
  |_=>none
 |258=>match c with
  |.region 3 _ _=>some ⟨[0,3,5],58,[⟨10,0,4,[P 0,P 1,I 2],Nq (1,0),JO,[o0 (.tp []) (Nq (1,1))]⟩]⟩
  |_=>none
 |_=>none
def Tc (τ:Nat):Bool:=Nat.beq τ 9
def gl (f:FuncId)(b:Nat)(J:AS):List GX:=match uH J J.nb with
 |h :: r=>h :: r
 |[]=>match f,b with
  |257,0=>match slB J 3 with
   |[U]=>match J.mem.get U with
    |some (_,.cl ..)=>[.cnt U 4 10000]
    |_=>[]
   |_=>[]
  |_,_=>[]
end
end Go.Ae.C
namespace Go.Ae.CL
open Go Go.Ev Go.Ae Go.Ae.C
noncomputable section
def iG:List LE:=(List.range 50).map fun i=>(i+1,0)
def ob9:Nat×AO:=(0,.ob 99 iG)
def snB (U x:Nat):A:=.sn U (x,0) (x+1,0) (x+2,0)
def snA (x:Nat):A:=snB 0 x
def Nj (U:Nat):A:=.ag [snB U 16,snB U 19,snB U 22,snB U 25,snB U 28,I 11,I 12,I 13,I 14,I 15]
def acc:A:=Nj 0
def cfg:A:=D6 1
def tru (x:Nat):A:=.b (.lt (0,0) (x,0))
def JI:List (LE×LE):=[((0,1),(31,0))]
def okT:List (LE×LE):=JI++rg 32 0 0
def cl (args:List A)(fs:List (LE×LE))(r:A)(o:List (LE×LE)):List CN:=[⟨50,0,1,args,[ob9],fs,[⟨0,0,0,r,[ob9],o⟩]⟩]
def le1 (x:Nat):List (LE×LE):=[((0,1),(x,0))]
def le0 (x:Nat):List (LE×LE):=[((x,0),(0,0))]
def aud (x:Nat)(args:List A)(fs t f:List (LE×LE)):List CN:=[⟨50,0,1,args,[ob9],okT++fs,[⟨0,0,0,.tp [.k (.bool true),I (x+1),.k (.int .i64 0)],[ob9],le1 x++t⟩,⟨0,0,0,.tp [.k (.bool false),I (x+1),I (x+2)],[ob9],le0 x++f⟩,⟨0,0,0,.tp [.k (.bool true),I (x+1),I (x+2)],[ob9],[((0,1),(x+2,0))]++le0 x++f⟩]⟩]
def Nk:List A:=[snA 16,snA 19,snA 22,snA 25,snA 28,I 11,I 12,I 13,I 14,I 15]
def SS:List A:=[I 1,I 2,I 3,I 4,I 5,I 6,I 7,I 8,I 9,Uu 10]
def SU (k:Nat)(args:List A)(m:List (Nat×AO))(x:Nat):List CN:=[⟨50,0,k,args,ob9 :: m,okT,[⟨0,0,0,.k (.bool true),ob9 :: m,le1 x⟩,⟨0,0,0,.k (.bool false),ob9 :: m,le0 x⟩]⟩]
def clo (a:A):List (Int×A):=[(1,.fn 29 [] [P 2,P 3]),(2,.fn 31 [] [P 2]),(3,.fn 34 [] [P 2]),(4,.fn 36 [] [P 2,P 3]),(7,.fn 39 [a] []),(8,.fn 40 [] [P 2,P 3]),(9,.fn 41 [] [P 2]),(10,.fn 22 [a] [])]
def kI (n:Nat):A:=.k (.int .i64 (Int.ofNat n))
def K8 (fs:List (LE×LE))(r:A)(o:List (LE×LE)):CN:=⟨50,0,1,[cfg,acc],[ob9],C.jC 1++fs,[⟨0,0,0,r,[ob9],o⟩]⟩
def k0:A:=.k (.int .i64 0)
def kB (b:Bool):A:=.k (.bool b)
def K9 (x:Nat):List CN:=[K8 (JI++le1 32) (.tp [kB false,k0,I 32]) [],K8 (okT++[((x,1),(0,0))]) (.tp [.b (.lt (x,0) (0,0)),k0,k0]) [],K8 (okT++[((0,0),(x,0))]) (.tp [.b (.lt (x,0) (0,0)),I x,k0]) [((x,1),(17,0))]]
def up1 (m:Nat):List (LE×LE):=(List.range m).map fun i=>if i=0 then ((0,1),(51,0)) else ((50+i,1),(51+i,0))
def UT (m:Nat):List (LE×LE):=if m=0 then [] else [((50+m,0),(0,4))]
def UU (m:Nat)(q:List Nat×List (LE×LE)):OUT:=
 let n:=m+q.1.length;match n with
 |0=>⟨0,0,0,.tp [.k .nils,k0],[ob9],q.2⟩
 |_=>⟨m,0,1,.tp [.sl 1 oz (0,Int.ofNat n) (.al (0,Int.ofNat n) 1),k0],[ob9,(1,.cl false (some 3) ((List.range m).map (fun i=>I (51+i))++q.1.map kI))],up1 m++UT m++q.2⟩
def T8 (x k:Nat):List (LE×LE):=if k=0 then [((x,1),(0,0))] else [((0,0),(x,0))]
def UW (k j l:Nat):List (LE×LE):=T8 33 k++T8 34 j++(if l=0 then le1 35 else le0 35)
def UX (k j l:Nat):List (List Nat×List (LE×LE)):=[[],[7]].map fun p=>(p++(if k=0 then [] else [8])++(if j=0 then [] else [9])++(if l=0 then [] else [10]),[])
def lists (k j l:Nat):List OUT:=((List.range 5).map fun m=>(UX k j l).map fun q=>UU m q).flatten
def rB (k j l:Nat):CN:=⟨50,0,1,[cfg,acc],[ob9],C.jC 1++okT++UW k j l,lists k j l⟩
def spec (f:FuncId):List CN:=match f with
 |6=>[K8 (JI++le1 32) (.tp [.k .nils,I 32]) [],rB 0 0 0,rB 0 0 1,rB 0 1 0,rB 0 1 1,rB 1 0 0,rB 1 0 1,rB 1 1 0,rB 1 1 1]
 |7=>K9 33
 |8=>K9 34
 |9=>[K8 (JI++le1 32) (.tp [kB false,I 32]) [],K8 okT (.tp [tru 35,k0]) []]
 |4=>cl [acc] [] (tru 31) []
 |5=>cl [] [] (.k (.bool true)) []
 |16=>cl [acc,cfg] JI (I 32) (rg 32 0 17)
 |20=>cl [acc,I 6] okT (I 33) [((0,-1),(33,0)),((33,1),(17,0))]
 |21=>cl [acc] okT (I 34) [((0,-1),(34,0)),((34,1),(17,0))]
 |22=>cl [acc] okT (tru 35) []
 |30=>cl [acc,cfg] okT (tru 36) []
 |39=>cl [acc] okT (tru 37) []
 |33=>aud 38 [snA 25] [] [] []
 |35=>aud 41 [snA 25] [] [] []
 |37=>aud 44 [snA 25] [] [] (le0 50)
 |38=>aud 47 [cfg,snA 25] (le1 44) (le1 50) (le0 50)
 |31=>SU 2 [P 1] [st 1 33 Nk] 38
 |34=>SU 2 [P 1] [st 1 33 Nk] 41
 |36=>SU 3 [P 1,P 2] [st 1 33 Nk,st 2 24 SS] 50
 |27=>[⟨50,0,5,[.fn 55 [] [P 0]],[st 0 59 [.m 1],(1,.mx (clo (Nj 4)))],[],[⟨0,0,1,.sl 5 oz (0,8) (.al (0,8) 1),[st 0 59 [.m 1],(1,.mx (clo (Nj 4))),st 5 3 [kI 1,kI 2,kI 3,kI 4,kI 7,kI 8,kI 9,kI 10]],[]⟩]⟩]
 |3=>[⟨50,0,1,[cfg,acc],[ob9],jC 1,[⟨0,0,0,.k (.bool true),[ob9],[]⟩]⟩]
 |_=>[]
def ann (f:FuncId)(b:Nat)(J:AS):List LA:=[]
def Hg (fs:List (LE×LE)):CN:=⟨50,0,1,[cfg,acc],[ob9],jC 1++fs,[⟨0,0,0,.k (.bool true),[ob9],[]⟩]⟩
end
end Go.Ae.CL

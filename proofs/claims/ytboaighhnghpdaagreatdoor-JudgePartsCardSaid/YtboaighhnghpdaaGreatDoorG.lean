/- The program's tables; the levels of its contracts. -/
import Derived.Test.YtboaighhnghpdaaGreatDoorF
import Derived.Test.YtboaighhnghpdaaGreatDoorY
import Derived.Test.YtboaighhnghpdaaGreatDoorProg
import Derived.KernelRfl
set_option linter.unusedVariables false
set_option linter.unusedSimpArgs false
set_option maxHeartbeats 1000000
namespace Go.Proofs.YtboaighhnghpdaaGreatDoor.S
set_option maxRecDepth 100000
open Go.Ev Go.RowKit
def eqs:List TypeId:=[7,8,23,24,30,31,32,33,48,49,50,51,52,53,64,65,68,82,83,87,88,93,94,117,118,129,130,134,135,136,155,158,159,160,161,162,170,171,178,179,184,185,189,190,191,199,200,209,210,211,212,218,219,240,241,253,254,259,260,262,263,264,265,266,267,277,278,279,280,281,282,283,284,285,286,287,288,289,290,291,296,297,307,308,309,310,313,314,315,316,317,318,319,320,321,322,323,324,325,326,327,328,329,330,331,332,333,335,336,366,367,368,369,370,371,372,373,374,375,376,377,384,385,411,412,441,467,477,478,501,502,503,504]
def rows:List (FuncId×Row):=[(242,.clone),(88,.same)]
noncomputable def G0:Γ:=mkG Tryz.prog eqs rows fun _ _ _=>.none
theorem Ve:oS Tryz.prog.funcs.toList=true:=by kernel_rfl
theorem Vf:iq G0 Tryz.prog.types.toList 0=true:=by kernel_rfl
theorem Vg:zu Tryz.prog eqs=true:=by kernel_rfl
theorem mixed:Tryz.prog.follows .mixedOrders=true:=by kernel_rfl
theorem Kb:∃ fn,Tryz.prog.funcs[242]?=some fn/\fn.name ≠ "runtime.NumGoroutine"/\fn.body=.none/\Extern.findNext fn=.none/\Extern.find fn=some (zF .clone):=
 ⟨Tryz.f242,Tryz.func242,fun h=>absurd (show(Tryz.f242.name == "runtime.NumGoroutine")=false by kernel_rfl) (by rw[h];decide),by kernel_rfl,by kernel_rfl,by kernel_rfl⟩
theorem NK:∃ fn,Tryz.prog.funcs[88]?=some fn/\fn.name ≠ "runtime.NumGoroutine"/\fn.body=.none/\Extern.findNext fn=.none/\Extern.find fn=some (zF .same):=
 ⟨Tryz.f88,Tryz.func88,fun h=>absurd (show(Tryz.f88.name == "runtime.NumGoroutine")=false by kernel_rfl) (by rw[h];decide),by kernel_rfl,by kernel_rfl,by kernel_rfl⟩
theorem jl (ext:FuncId->List V->H->Option (V×H)):GOk Tryz.prog (mkG Tryz.prog eqs rows ext)/\pH (mkG Tryz.prog eqs rows ext):=
 Qz Ve Vf Vg (fun r hr=>by
  simp only[rows,aq,aA,or_false] at hr;rcases hr with rfl|rfl
  .exact Kb
  .exact NK) mixed
def Vh:FuncId:=265
def Ud:FuncId:=286
def iIn:FuncId:=284
def Ue:FuncId:=212
def Tl:FuncId:=269
def Uf:FuncId:=281
def Ug:TypeId:=324
def Vi:TypeId:=321
def Wr:TypeId:=278
end Go.Proofs.YtboaighhnghpdaaGreatDoor.S
namespace Go.Proofs.YtboaighhnghpdaaGreatDoor
open Go Go.Ev Go.Ae Go.RowKit
variable {low:List Nat}{f:FuncId}{cn:CN}{B:TH}
noncomputable def TL (low:List Nat)(f:FuncId):List CN:=@Bool.rec (fun _=>List CN) [] (C.spec f) (Ey f low)
noncomputable def cfL (low:List Nat):CF:=RY C.Tc S.G0 C.inv C.spec (TL low) C.gl C.ann C.hand
def Kept (B:TH)(low:List Nat):Prop:=∀ f,f∈low->∀ cn,cn∈C.spec f->fP Tryz.prog (Th B C.inv) f cn
theorem Ih {n:Nat}:∀ {l:List Nat},Ey n l=true->n∈l
 |[],h=>by cases h
 |x :: l,h=>by
  unfold Ey at h;cases hx:Nat.beq n x with
  |true=>exact aq.2 (.inl (Nat.eq_of_beq_eq_true hx))
  |false=>rw[hx] at h;exact aB _ (Ih h)
theorem Kj (h:cn∈TL low f):f∈low/\cn∈C.spec f:=by
 unfold TL at h;cases hm:Ey f low with
 |false=>rw[hm] at h;cases h
 |true=>rw[hm] at h;exact⟨Ih hm,h⟩
theorem gJ (hh:fR B Tryz.prog (cfL []))(k:Kept B low)(h:fq (cfL low) f cn=true):fP Tryz.prog (Th B C.inv) f cn:=
 Fb (cf:=cfL low) (P:=Tryz.prog) (S.jl _).1 (S.jl _).2 (fun f cn h=>let ⟨a,b⟩:=Kj h;k f a cn b) hh h
theorem Ii {α:Type}{p:α->Bool}:∀ {l:List α},Go.Ae.fm p l=true->∀ x,x∈l->p x=true
 |[],_,x,h=>by cases h
 |y :: l,h,x,hx=>by
  unfold Go.Ae.fm at h;cases hp:p y with
  |false=>rw[hp] at h;cases h
  |true=>
   rw[hp] at h;rcases aq.1 hx with rfl|hx
   .exact hp
   .exact Ii h x hx
theorem eN (hh:fR B Tryz.prog (cfL []))(k:Kept B low)(h:Go.Ae.fm (fq (cfL low) f) (C.spec f)=true):∀ cn,cn∈C.spec f->fP Tryz.prog (Th B C.inv) f cn:=
 fun cn q=>gJ hh k (Ii h cn q)
theorem eM {f:Nat}(k:Kept B low)(h:∀ cn,cn∈C.spec f->fP Tryz.prog (Th B C.inv) f cn):Kept B (f :: low):=fun g hg=>by
 rcases aq.1 hg with rfl|hg;·exact h
 .exact k g hg
def cnN:Nat->List CN->CN
 |_,[]=>⟨0,0,0,[],[],[],[]⟩
 |0,x :: _=>x
 |n+1,_ :: l=>cnN n l
def fU (cn:CN)(g:LE×LE):CN:={ cn with fs:=cn.fs++[g] }
theorem vt (g:LE×LE):∀ (l:List (LE×LE)) (z:ZN),ie (l++[g]) z=(ie l z).add g.1 g.2
 |[],_=>rfl
 |p :: l,z=>vt g l (z.add p.1 p.2)
theorem Ij {P:Program}{M:TH}{g:LE×LE}(h:fP P M f (fU cn g))(Z:NV)(vs:List V)(hh:H)(n:Nat)(hl:vs.length=cn.args.length)(hM:Mem M (lB Z (fA cn n).mem hh) Z (fA cn n) ⟨⟨n,fT 0 vs .leaf⟩,hh,[]⟩){a b:Int}(ha:Num Z g.1 a)(hb:Num Z g.2 b)(hab:a<=b):
  ∃ v h',iW P (.fn f vs) hh v h'/\∃ o,o∈cn.outs/\∃ Zo,Z.le Zo/\Mem M (lB Z (fA cn n).mem hh) Zo (Fc cn o) ⟨⟨1,T.leaf.put 0 (some v)⟩,h',[]⟩/\(∀ g,g∈o.fs->Holds Zo g)/\AV Zo o.res v:=
 h Z vs hh n hl ⟨⟨hM.vr.ni,hM.vr.ns,hM.vr.nb,hM.vr.no,hM.vr.z0,by show ZR Z (ie (cn.fs++[g]) ⟨.leaf,.leaf,[]⟩);rw[vt];exact hM.vr.zr.add ha hb hab⟩,hM.sz,hM.er,hM.hr,hM.df⟩
theorem gP {P:Program}{M:TH}(x:Nat)(c:Int)(hx:Nat.blt x (Nat.succ cn.ni)=true)(h1:fP P M f (fU cn ((x,0),(0,c))))(h2:fP P M f (fU cn ((0,c+1),(x,0)))):fP P M f cn:=fun Z vs h n hl hM=>by
 have hn:Z.ints.length=Nat.add 1 cn.ni:=hM.vr.ni;have hx:x<Z.ints.length:=by have:x<cn.ni+1:=az hx;rw[hn];show x<1+cn.ni;omega
 obtain⟨y,hy⟩:∃ y,Z.ints[x]?=some y:=⟨_,ah hx⟩;have z0:=hM.vr.z0;by_cases hc:y<=c;·exact Ij h1 Z vs h n hl hM (a:=y) (b:=c) ⟨y,hy,by simp⟩ ⟨0,z0,by simp⟩ hc
 .exact Ij h2 Z vs h n hl hM (a:=c+1) (b:=y) ⟨0,z0,by simp⟩ ⟨y,hy,by simp⟩ (by omega)
end Go.Proofs.YtboaighhnghpdaaGreatDoor
namespace Go.Proofs.YtboaighhnghpdaaGreatDoor
open Go Go.Ev Go.Ae Go.RowKit
def mP:List Nat:=106 :: 242 :: []
def oY:List Nat:=4 :: 213 :: 21 :: 22 :: 43 :: 63 :: 64 :: 100 :: 105 :: 129 :: 131 :: 133 :: 142 :: 146 :: 155 :: 167 :: 174 :: 175 :: 182 :: 194 :: 198 :: 200 :: 201 :: 212 :: 224 :: 244 :: 265 :: 269 :: 275 :: 286 :: mP
def zK:List Nat:=20 :: 33 :: 35 :: 37 :: 39 :: 102 :: 103 :: 104 :: 135 :: 168 :: 169 :: 170 :: 171 :: 176 :: 229 :: 236 :: 237 :: 247 :: 248 :: 249 :: 258 :: 281 :: 361 :: 363 :: 364 :: oY
def zL:List Nat:=74 :: 120 :: 125 :: 127 :: 140 :: 172 :: 183 :: 190 :: 197 :: 202 :: 204 :: 271 :: 272 :: 273 :: zK
def NZ:List Nat:=25 :: 81 :: 123 :: 138 :: 144 :: 151 :: 154 :: 235 :: zL
def Rc:List Nat:=16 :: 38 :: 56 :: 196 :: NZ
def zO:List Nat:=149 :: Rc
def Rd:List Nat:=82 :: zO
def Re:List Nat:=57 :: Rd
def lz:List Nat:=30 :: Re
variable {low:List Nat}{f:FuncId}{B:TH}
noncomputable def TM (low:List Nat)(f:FuncId):List CN:=@Bool.rec (fun _=>List CN) [] (CL.spec f) (Ey f low)
noncomputable def cfW (low:List Nat):CF:=RY C.Tc S.G0 C.inv CL.spec (TM low) C.gl CL.ann (fun _ _=>none)
def uq (B:TH)(low:List Nat):Prop:=∀ f,f∈low->∀ cn,cn∈CL.spec f->fP Tryz.prog (Th B C.inv) f cn
theorem Kk {cn:CN}(h:cn∈TM low f):f∈low/\cn∈CL.spec f:=by
 unfold TM at h;cases hm:Ey f low with
 |false=>rw[hm] at h;cases h
 |true=>rw[hm] at h;exact⟨Ih hm,h⟩
theorem QG:fR B Tryz.prog (cfW low):=by intro k b hd h;cases h
theorem fL (k:uq B low){cn:CN}(h:fq (cfW low) f cn=true):fP Tryz.prog (Th B C.inv) f cn:=
 Fb (cf:=cfW low) (P:=Tryz.prog) (S.jl _).1 (S.jl _).2 (fun f cn h=>let ⟨a,b⟩:=Kk h;k f a cn b) QG h
theorem kE (k:uq B low)(h:Go.Ae.fm (fq (cfW low) f) (CL.spec f)=true):∀ cn,cn∈CL.spec f->fP Tryz.prog (Th B C.inv) f cn:=
 fun cn q=>fL k (Ii h cn q)
theorem jA {f:Nat}(k:uq B low)(h:∀ cn,cn∈CL.spec f->fP Tryz.prog (Th B C.inv) f cn):uq B (f :: low):=fun g hg=>by
 rcases aq.1 hg with rfl|hg;·exact h
 .exact k g hg
def Ik:List Nat:=[4,5,16,20,21,22,27,30,33,35,37,38,39]
def xg:List Nat:=7 :: 8 :: 9 :: 31 :: 34 :: 36 :: Ik
def Il:List Nat:=6 :: xg
end Go.Proofs.YtboaighhnghpdaaGreatDoor

/- An account that is given; what its parts answer. -/
import Derived.Test.YtboaighhnghpdaaGreatDoorH
set_option linter.unusedVariables false
set_option linter.unusedSimpArgs false
set_option maxHeartbeats 1000000
namespace Go.Proofs.YtboaighhnghpdaaGreatDoor
open Go Go.Ev Go.Ae Go.Ae.C Go.RowKit
set_option maxRecDepth 100000
variable {b:Nat}
abbrev SD:=Option (List V×Nat×Nat)
noncomputable section
def sdV (b:Nat):SD->V
 |none=>.nils
 |some p=>.slice b 0 p.2.1 (.known p.2.2)
def sdN:SD->Nat
 |none=>0
 |some p=>p.2.1
def sdC:SD->Nat
 |none=>0
 |some p=>p.2.2
structure Acc where
 o:SD
 r:SD
 t:SD
 l:SD
 k:SD
 s:List Int
 c:List Int
 u:Int
def Au:List EK:=[i64,i64,i64,i64,i64,.str]
def MM (ks:List EK)(L:List V):Prop:=∀ i,i<L.length->∃ v k,L[i]?=some v/\ks[i % ks.length]?=some k/\∀ Z,KV Z k v
structure Jo (ks:List EK)(S:SD):Prop where
 at':∀ L n c,S=some (L,n,c)->L.length=ks.length * n/\n<=c/\MM ks L
def I64 (z:Int):Prop:=nX<=z/\z<=lA
structure Acc.Ok (d:Acc):Prop where
 o:Jo Au d.o
 r:Jo D3 d.r
 t:Jo [i64] d.t
 l:Jo oX d.l
 k:Jo yA d.k
 s5:d.s.length=5
 s:∀ z,z∈d.s->I64 z
 c9:d.c.length=9
 c:∀ z,z∈d.c->I64 z
 u:0<=d.u/\d.u<=4294967295
def Gd:List V:=[.int .u8 0,.int .u8 111,.int .u8 108,.int .u8 102]
variable (wd:List V)(d:Acc)
def Acc.kh:V:=.agg 10 ([sdV 1000 d.o,sdV 1001 d.r,sdV 1002 d.t,sdV 1003 d.l,sdV 1004 d.k]++d.s.map (V.int .i64)) .leaf
def Acc.qI:V:=.agg 10 (d.c.map (V.int .i64)++[.int .u32 d.u]) .leaf
def MN (b:Nat)(S:SD)(t:T O):T O:=match S with
 |none=>t
 |some p=>t.put b (some (.ro none p.1.length p.1 .leaf))
def Acc.mem:H:=⟨MN 1004 d.k (MN 1003 d.l (MN 1002 d.t (MN 1001 d.r (MN 1000 d.o ((T.leaf.put 2 (some (.ro (some 0) 4 Gd .leaf))).put 0 (some (.ro (some 0) wd.length wd .leaf))))))),1005⟩
end
theorem vZ {S:SD}{t:T O}{x:Nat}:(MN b S t).get x=if x=b then (match S with
  |none=>t.get b
  |some p=>some (.ro none p.1.length p.1 .leaf)) else t.get x:=by
 cases S with
 |none=>
  show t.get x=_;split;·rename_i e;rw[e]
  .rfl
 |some p=>exact T.eL ..
section
variable {wd:List V}{d:Acc}
theorem uE {S:SD}(hb:(b=1000/\S=d.o)\/(b=1001/\S=d.r)\/(b=1002/\S=d.t)\/(b=1003/\S=d.l)\/(b=1004/\S=d.k)){p:List V×Nat×Nat}(hS:S=some p):(d.mem wd).tr.get b=some (.ro none p.1.length p.1 .leaf):=by unfold Acc.mem;simp only[vZ];rcases hb with⟨rfl,rfl⟩|⟨rfl,rfl⟩|⟨rfl,rfl⟩|⟨rfl,rfl⟩|⟨rfl,rfl⟩<;>simp[hS]
theorem Av:(d.mem wd).tr.get 2=some (.ro (some 0) 4 Gd .leaf):=by unfold Acc.mem;simp only[vZ,T.eL,T.eR];simp
theorem Pb:(d.mem wd).tr.get 0=some (.ro (some 0) wd.length wd .leaf):=by unfold Acc.mem;simp only[vZ,T.eL,T.eR];simp
theorem sD {o:O}(h:(d.mem wd).tr.get b=some o):(b=0/\o=.ro (some 0) wd.length wd .leaf)\/(b=2/\o=.ro (some 0) 4 Gd .leaf)\/∃ S p,((b=1000/\S=d.o)\/(b=1001/\S=d.r)\/(b=1002/\S=d.t)\/(b=1003/\S=d.l)\/(b=1004/\S=d.k))/\S=some p/\o=.ro none p.1.length p.1 .leaf:=by
 unfold Acc.mem at h;have key:∀ {x:Nat} {S:SD} {t:T O},(MN x S t).get b=some o->(b=x/\∃ p,S=some p/\o=.ro none p.1.length p.1 .leaf)\/t.get b=some o:=fun {x S t} q=>by
  cases S with
  |none=>exact .inr q
  |some p=>
   have q:(t.put x _).get b=some o:=q;rw[T.eL] at q;split at q;·rename_i e;cases q;exact .inl ⟨e,p,rfl,rfl⟩
   .exact .inr q
 rcases key h with⟨e,p,q1,q2⟩|h;·exact .inr (.inr ⟨_,p,.inr (.inr (.inr (.inr ⟨e,rfl⟩))),q1,q2⟩)
 rcases key h with⟨e,p,q1,q2⟩|h;·exact .inr (.inr ⟨_,p,.inr (.inr (.inr (.inl ⟨e,rfl⟩))),q1,q2⟩)
 rcases key h with⟨e,p,q1,q2⟩|h;·exact .inr (.inr ⟨_,p,.inr (.inr (.inl ⟨e,rfl⟩)),q1,q2⟩)
 rcases key h with⟨e,p,q1,q2⟩|h;·exact .inr (.inr ⟨_,p,.inr (.inl ⟨e,rfl⟩),q1,q2⟩)
 rcases key h with⟨e,p,q1,q2⟩|h;·exact .inr (.inr ⟨_,p,.inl ⟨e,rfl⟩,q1,q2⟩)
 rw[T.eL,T.eL,T.eR] at h;split at h;·rename_i e;cases h;exact .inl ⟨e,rfl⟩
 .split at h;·rename_i e;cases h;exact .inr (.inl ⟨e,rfl⟩)
  .cases h
end
theorem Jp {Z:NV}:∀ {l:List A} {L:List V},AVs Z l L->l.all plain=true->AV Z (.ag l) (.agg L.length L .leaf):=fun {l L} h hp=>by
 have one:∀ {a:A},plain a=true->WV Z a 1:=fun q=>.one fun _ _ _ e=>by rw[e] at q;cases q
 have lc:∀ {l:List A} {L:List V},AVs Z l L->l.all plain=true->gp Z l L.length:=fun {l}=>by
  induction l with
  |nil=>intro L h _;cases h;exact .nil
  |cons a l ih=>
   intro L h hp;cases h with
   |cons q r=>simp only[dO,ae] at hp;have:=gp.cons (one hp.1) (ih r hp.2);rw[bp] at this;exact this
 have at':∀ {l:List A} {L:List V},AVs Z l L->l.all plain=true->∀ (i:Nat) (v:V),L[i]?=some v->CA Z l i v:=fun {l}=>by
  induction l with
  |nil=>intro L h _ i v hv;cases h;simp at hv
  |cons a l ih=>
   intro L h hp i v hv;cases h with
   |cons q r=>
    simp only[dO,ae] at hp;cases i with
    |zero=>simp at hv;subst hv;exact .here hp.1 q
    |succ i=>have:=CA.skip (w:=1) (i:=i) (one hp.1) (ih r hp.2 i v (by simpa using hv));rw[bp] at this;exact this
 refine .ag (lc h hp) (fun i hi=>?_) fun i c hc=>at' h hp i c (oM hc);rw[nO (by omega) (ah hi)];rfl
theorem we:∀ (l:List A) (k:Nat) (t:T A),lJ (DB k l) t=xQ k l t
 |[],_,_=>rfl
 |a :: l,k,t=>we l (Nat.succ k) (t.put k (some a))
theorem ou {P:Program}{M:TH}{f:FuncId}{cn:CN}(hc:fP P M f cn){h:H}{ints:List Int}{bl:List Nat}{vs:List V}(hi:ints.length=Nat.add 1 cn.ni)(hz:ints[0]?=some 0)(hns:cn.ns=0)(hb:bl.length=cn.nb)(hf:HB ints cn.fs)(hargs:∀ Z:NV,Z.ints=ints->Z.blks=bl->AVs Z cn.args vs)
  (nd:(cn.mem.map Prod.fst).Nodup)(hm:∀ (i U:Nat) (ao:AO),cn.mem[i]?=some (U,ao)->∃ b O,bl[U]?=some b/\h.tr.get b=some O/\b<h.next/\b≠2/\∀ Z:NV,Z.ints=ints->Z.blks=bl->AOR M Z ao b [(b,O)])(hinj:bl.Nodup)(g2:h.tr.get 2=some (.ro (some 0) 4 Gd .leaf))(l2:2<h.next):
  ∃ v h1,iW P (.fn f vs) h v h1/\∃ o,o∈cn.outs/\∃ Zo fr,(∀ {x:Nat} {z:Int},ints[x]?=some z->Zo.ints[x]?=some z)/\(∀ {x z:Nat},bl[x]?=some z->Zo.blks[x]?=some z)/\Mem M fr Zo (Fc cn o) ⟨⟨1,T.leaf.put 0 (some v)⟩,h1,[]⟩/\(∀ g,g∈o.fs->Holds Zo g)/\AV Zo o.res v:=by
 classical
 have ch:∀ p,p∈cn.mem->∃ q:Nat×O,bl[p.1]?=some q.1/\h.tr.get q.1=some q.2/\q.1<h.next/\q.1≠2/\∀ Z:NV,Z.ints=ints->Z.blks=bl->AOR M Z p.2 q.1 [q]:=fun p hp=>by obtain⟨i,hi⟩:=aX.1 hp;obtain⟨b,O,r⟩:=hm i p.1 p.2 hi;exact⟨(b,O),r⟩
 obtain⟨l,hl1,hl2⟩:∃ l:List (Nat×O),l.length=cn.mem.length/\∀ (i:Nat) (p:Nat×AO) (q:Nat×O),cn.mem[i]?=some p->l[i]?=some q->bl[p.1]?=some q.1/\h.tr.get q.1=some q.2/\q.1<h.next/\q.1≠2/\∀ Z:NV,Z.ints=ints->Z.blks=bl->AOR M Z p.2 q.1 [q]:=by
  have:∀ m:List (Nat×AO),(∀ p,p∈m->p∈cn.mem)->∃ l:List (Nat×O),l.length=m.length/\∀ (i:Nat) (p:Nat×AO) (q:Nat×O),m[i]?=some p->l[i]?=some q->bl[p.1]?=some q.1/\h.tr.get q.1=some q.2/\q.1<h.next/\q.1≠2/\∀ Z:NV,Z.ints=ints->Z.blks=bl->AOR M Z p.2 q.1 [q]:=by
   intro m;induction m with
   |nil=>exact fun _=>⟨[],rfl,fun i p q h=>by simp at h⟩
   |cons p m ih=>
    intro hs;obtain⟨l,e1,e2⟩:=ih fun p hp=>hs p (by simp[hp]);obtain⟨q,hq⟩:=ch p (hs p (by simp));refine⟨q :: l,by simp[e1],fun i p' q' h1 h2=>?_⟩;cases i with
    |zero=>simp at h1 h2;subst h1 h2;exact hq
    |succ i=>exact e2 i p' q' (by simpa using h1) (by simpa using h2)
  exact this cn.mem fun _ h=>h
 have ndl:(l.map Prod.fst).Nodup:=by rw[List.Nodup,dM];intro i j h1 h2 h3 e;simp only[cM] at h1 h2;simp only[List.getElem_map] at e;have a1:=hl2 i _ _ (ah (by omega)) (ah h1);have a2:=hl2 j _ _ (ah (by omega)) (ah h2);have b1:=a1.1;have b2:=a2.1;rw[<- e] at b2;obtain⟨c1,d1⟩:=ai.1 b1;obtain⟨c2,d2⟩:=ai.1 b2;have e3:=(List.getElem_inj hinj).1 (d1.trans d2.symm);rw[List.Nodup,dM] at nd;exact nd i j (by simp;omega) (by simp;omega) h3 (by simp only[List.getElem_map];exact e3)
 obtain⟨Z,hZ⟩:∃ Z:NV,Z=⟨ints,[],bl,l.map fun p=>[p]⟩:=⟨_,rfl⟩;have e1:Z.ints=ints:=by rw[hZ]
 have e2:Z.blks=bl:=by rw[hZ]
 have e3:Z.objs=l.map fun p=>[p]:=by rw[hZ]
 have hM:Mem M (lB Z (gq 0 cn.mem .leaf) h) Z ⟨vs.length,lJ (DB 0 cn.args) .leaf,gq 0 cn.mem .leaf,Nat.add 1 cn.ni,0,cn.nb,cn.mem.length,ie cn.fs ⟨.leaf,.leaf,[]⟩,[]⟩ ⟨⟨vs.length,fT 0 vs .leaf⟩,h,[]⟩:=by
  refine xU (by rw[e1];exact hi) (by rw[e1];exact hz) (by rw[hZ];rfl) (by rw[e2];exact hb) (by rw[e3];simp[hl1]) (O9 (by rw[e1];exact hf)) (by rw[we];exact oq (hargs Z e1 e2) ER.nil) nd (fun i U ao q=>?_) (by rw[e3];exact lH ndl) fun q hq=>?_;·have hil:=(ai.1 q).1;obtain⟨q1,q2,q3,q4,q5⟩:=hl2 i _ _ q (ah (by omega));refine⟨_,[l[i]],by rw[e2];exact q1,by rw[e3,aL,ah (by omega)];rfl,q5 Z e1 e2,fun p hp=>?_⟩;rw[aj.1 hp];exact⟨q2,q3⟩
  .rw[aj.1 hq];refine⟨l2,fun hp hh p hp'=>?_,g2⟩;rw[e3] at hh;obtain⟨x,x1,rfl⟩:=aJ.1 hh;rw[aj.1 hp'];obtain⟨i,hi'⟩:=aX.1 x1;have hil:=(ai.1 hi').1;exact(hl2 i _ _ (ah (by omega)) hi').2.2.2.1
 obtain⟨v,h1,c1,o,o1,Zo,le,mo,fo,ao⟩:=hc Z vs h vs.length (by have:=(hargs Z e1 e2).len;exact this) (by
  have:fA cn vs.length=⟨vs.length,lJ (DB 0 cn.args) .leaf,gq 0 cn.mem .leaf,Nat.add 1 cn.ni,0,cn.nb,cn.mem.length,ie cn.fs ⟨.leaf,.leaf,[]⟩,[]⟩:=by show vQ _ _ _ _ _ _ _ _ (uc cn)=_;unfold vQ uc;simp only[hns];show(⟨_,_,_,_,_,Nat.add 0 cn.nb,Nat.add 0 cn.mem.length,_,_⟩:AS)=_;rw[show Nat.add 0 cn.nb=cn.nb from aI _,show Nat.add 0 cn.mem.length=cn.mem.length from aI _]
  rw[this];exact hM)
 exact⟨v,h1,c1,o,o1,Zo,_,fun q=>le.i (by rw[e1];exact q),fun q=>le.b (by rw[e2];exact q),mo,fo,ao⟩
end Go.Proofs.YtboaighhnghpdaaGreatDoor
namespace Go.Proofs.YtboaighhnghpdaaGreatDoor
open Go Go.Ev Go.Ae Go.Ae.C Go.RowKit
set_option maxRecDepth 100000
variable {ks:List EK}{S:SD}{Z:NV}{x U b:Nat}{p:List V×Nat×Nat}
noncomputable section
def bl5:List Nat:=[1000,1001,1002,1003,1004]
def i15 (d:Acc)(ex:List Int):List Int:=0 :: (sdN d.o:Int) :: (sdN d.r:Int) :: (sdN d.t:Int) :: (sdN d.l:Int) :: (sdN d.k:Int) :: (sdC d.o:Int) :: (sdC d.r:Int) :: (sdC d.t:Int) :: (sdC d.l:Int) :: (sdC d.k:Int) :: (d.s++ex)
def rq (d:Acc):List Int:=d.c++[d.u]
end
structure Few (d:Acc):Prop where
 o:sdN d.o<=80
 r:sdN d.r<=80
 t:sdN d.t<=80
 l:sdN d.l<=150
 k:sdN d.k<=40
 txt:∀ L n c,d.o=some (L,n,c)->MM D2 L
structure Chk (d:Acc):Prop where
 r:sdN d.r=sdN d.o
 t:sdN d.t=sdN d.o
 srt:∀ L n c,d.t=some (L,n,c)->∃ f:Nat->Int,(∀ i,i<n->L[i]?=some (.int .i64 (f i)))/\(∀ i j,i<=j->j<n->f i<=f j)/\∀ i,i<n->0<=f i/\f i<=sdN d.l
theorem uF {d:Acc}(ok:d.Ok):∃ z1 z2 z3 z4 z5,d.s=[z1,z2,z3,z4,z5]:=by
 have:=ok.s5;match d.s,this with
 |[a,b,c,e,f],_=>exact⟨_,_,_,_,_,rfl⟩
theorem uG {d:Acc}(ok:d.Ok):∃ c1 c2 c3 c4 c5 c6 c7 c8 c9,d.c=[c1,c2,c3,c4,c5,c6,c7,c8,c9]:=by
 have:=ok.c9;match d.c,this with
 |[a,b,c,e,f,g,h,i,j],_=>exact⟨_,_,_,_,_,_,_,_,_,rfl⟩
theorem DL (h:Jo ks S):(sdN S:Int)<=sdC S:=by
 cases S with
 |none=>exact bY _
 |some p=>obtain⟨L,n,c⟩:=p;exact Int.ofNat_le.2 (h.at' L n c rfl).2.1
theorem MO {L:List V}{n:Nat}(hl:L.length=ks.length * n)(h:MM ks L):tS Z ks n L.length L .leaf:=⟨hl,fun i hi=>by obtain⟨v,k,h1,h2,h3⟩:=h i hi;exact⟨v,k,nO (by omega) h1,h2,h3 Z⟩⟩
section
variable (wd:List V)(d:Acc)
structure Part (a:A)(m:List (Nat×AO))(fs:List (LE×LE))(b:Nat)(S:SD):Prop where
 av:∀ (Z:NV) ex,Z.ints=i15 d ex->Z.blks=bl5->AV Z a (sdV b S)
 pl:plain a=true
 fs:∀ ex,HB (i15 d ex) fs
 mem:∀ q,q∈m->∃ bb O,bl5[q.1]?=some bb/\(d.mem wd).tr.get bb=some O/\bb<1005/\bb≠2/\∀ M (Z:NV) ex,Z.ints=i15 d ex->Z.blks=bl5->AOR M Z q.2 bb [(bb,O)]
structure Jq (p:A×List (Nat×AO)×List (LE×LE)):Prop where
 av:∀ (Z:NV) ex,Z.ints=i15 d ex->Z.blks=bl5->AV Z p.1 d.kh
 fs:∀ ex,HB (i15 d ex) p.2.2
 mem:∀ q,q∈p.2.1->∃ bb O,bl5[q.1]?=some bb/\(d.mem wd).tr.get bb=some O/\bb<1005/\bb≠2/\∀ M (Z:NV) ex,Z.ints=i15 d ex->Z.blks=bl5->AOR M Z q.2 bb [(bb,O)]
 nd:(p.2.1.map Prod.fst).Nodup
end
section
variable {wd:List V}{d:Acc}
theorem ov {ex:List Int}(h:Z.ints=i15 d ex){z:Int}(hx:(i15 d ex)[x]?=some z):Num Z (x,0) z:=⟨z,by rw[h];exact hx,(bG _).symm⟩
theorem jQ {w:Nat}(h:Jo ks S)(hb:bl5[U]?=some b)(hx:∀ ex,(i15 d ex)[x]?=some (sdN S:Int)):Part wd d (suN U x w) [] [] b S:=by
 refine⟨fun Z ex h1 h2=>?_,rfl,fun _=>trivial,fun q hq=>by cases hq⟩;have hn:=ov h1 (hx ex);cases S with
 |none=>exact .su0 hn
 |some p=>exact .su (m:=0) (by rw[h2];exact hb) hn hn (Nat.zero_mul _).symm (by show 0+p.2.1<=p.2.1;omega) (h.at' _ _ _ rfl).2.1
theorem Cx {c:Nat}(hb:Z.blks[U]?=some b)(hn:Num Z (x,0) (p.2.1:Int))(hc:Num Z (c,0) (p.2.2:Int)):AV Z (slK U x c) (sdV b (some p)):=.sl hb ⟨0,fun q=>absurd rfl q,rfl⟩ hn (.kn hc)
theorem mC {ks':List EK}{c:Nat}(h:Jo ks S)(hS:S=some p)(hr:MM ks' p.1)(hk:ks'.length=ks.length)(hb:bl5[U]?=some b)(hD:(b=1000/\S=d.o)\/(b=1001/\S=d.r)\/(b=1002/\S=d.t)\/(b=1003/\S=d.l)\/(b=1004/\S=d.k))(hx:∀ ex,(i15 d ex)[x]?=some (sdN S:Int))(hc:∀ ex,(i15 d ex)[c]?=some (sdC S:Int)):Part wd d (slK U x c) [lP U x ks'] [] b S:=by
 refine⟨fun Z ex h1 h2=>?_,rfl,fun _=>trivial,fun q hq=>?_⟩;·have hn:=ov h1 (hx ex);have hc:=ov h1 (hc ex);subst hS;exact Cx (by rw[h2];exact hb) hn hc
 .rw[aj.1 hq];refine⟨b,_,hb,uE hD hS,by omega,by omega,fun M Z ex h1 h2=>.ro ?_⟩;have hn:=ov h1 (hx ex);subst hS;obtain⟨L,n,cc⟩:=p;exact(MO (n:=n) (by rw[hk];exact(h.at' _ _ _ rfl).1) hr).cr hn
theorem ry (hS:S=none){fs:List (LE×LE)}(hf:∀ ex,HB (i15 d ex) fs):Part wd d (.k .nils) [] fs b S:=by subst hS;exact⟨fun Z ex _ _=>.k _,rfl,hf,fun q hq=>by cases hq⟩
theorem MP (ok:d.Ok)(hS:d.t=some p)(ch:Chk d):Part wd d (slK 2 3 8) [Nl 2] [] 1002 d.t:=by
 refine⟨fun Z ex h1 h2=>?_,rfl,fun _=>trivial,fun q hq=>?_⟩;·rw[hS];exact Cx (by rw[h2];rfl) (ov h1 (by show some (sdN d.t:Int)=_;rw[hS];rfl)) (ov h1 (by show some (sdC d.t:Int)=_;rw[hS];rfl))
 .rw[aj.1 hq];obtain⟨L,n,c⟩:=p;obtain⟨f,f1,f2,f3⟩:=ch.srt L n c hS;have hl:L.length=n:=by
   have:=(ok.t.at' L n c hS).1;simpa using this
  refine⟨1002,_,rfl,uE (.inr (.inr (.inl ⟨rfl,rfl⟩))) hS,by omega,by omega,fun M Z ex h1 h2=>?_⟩;have z0:Z.ints[0]?=some 0:=by rw[h1];rfl
  have hn:Num Z (3,0) (L.length:Int):=ov h1 (by show some (sdN d.t:Int)=_;rw[hS,hl];rfl);have n4:Num Z (4,0) (sdN d.l:Int):=ov h1 rfl;refine .so (f:=f) (cnt:=L.length) ⟨hn,fun i hi=>?_,⟨0,eO z0 0,fun i j _ h3 h4=>f2 i j h3 (by omega),fun i _ hi=>⟨fun e he=>?_,fun e he=>?_⟩⟩,fun q hq=>by cases hq⟩ (fun i hi=>nO (by omega) (f1 i (by omega))) rfl
  .obtain⟨v,k,e1,e2,e3⟩:=(ok.t.at' L n c hS).2.2 i hi;rw[f1 i (by omega)] at e1;cases e1;have e2:k=i64:=by simpa [dB] using e2.symm
   subst e2;cases e3 Z with
   |int r _ _=>exact r
  .cases he;exact⟨0,eO z0 0,(f3 i (by omega)).1⟩
  .cases he;exact⟨_,n4,(f3 i (by omega)).2⟩
theorem nw (ok:d.Ok){ao ar at' al ak:A}{mo mr mt ml mk:List (Nat×AO)}{fo fr ft fl fk:List (LE×LE)}(po:Part wd d ao mo fo 1000 d.o)(pr:Part wd d ar mr fr 1001 d.r)(pt:Part wd d at' mt ft 1002 d.t)(pl:Part wd d al ml fl 1003 d.l)(pk:Part wd d ak mk fk 1004 d.k)
  {m:List (Nat×AO)}{fs:List (LE×LE)}(hm:∀ q,q∈m->q∈mo\/q∈mr\/q∈mt\/q∈ml\/q∈mk)(hf:∀ ex,HB (i15 d ex) fs)(nd:(m.map Prod.fst).Nodup):Jq wd d (D4 ao ar at' al ak,m,fs):=by
 obtain⟨z1,z2,z3,z4,z5,hs⟩:=uF ok;refine⟨fun Z ex h1 h2=>?_,hf,fun q hq=>?_,nd⟩
 .have n:∀ {x:Nat} {z:Int},(i15 d ex)[x]?=some z->AV Z (I x) (.int .i64 z):=fun q=>.i (ov h1 q);have e:d.kh=.agg 10 [sdV 1000 d.o,sdV 1001 d.r,sdV 1002 d.t,sdV 1003 d.l,sdV 1004 d.k,.int .i64 z1,.int .i64 z2,.int .i64 z3,.int .i64 z4,.int .i64 z5] .leaf:=by
   unfold Acc.kh;rw[hs];rfl
  rw[e];refine Jp (l:=[ao,ar,at',al,ak,I 11,I 12,I 13,I 14,I 15]) (.cons (po.av Z ex h1 h2) (.cons (pr.av Z ex h1 h2) (.cons (pt.av Z ex h1 h2) (.cons (pl.av Z ex h1 h2) (.cons (pk.av Z ex h1 h2) (.cons (n (by unfold i15;rw[hs];rfl)) (.cons (n (by unfold i15;rw[hs];rfl)) (.cons (n (by unfold i15;rw[hs];rfl)) (.cons (n (by unfold i15;rw[hs];rfl)) (.cons (n (by unfold i15;rw[hs];rfl)) .nil)))))))))) ?_;simp only[dO,po.pl,pr.pl,pt.pl,pl.pl,pk.pl];rfl
 .rcases hm q hq with h|h|h|h|h;·exact po.mem q h
  .exact pr.mem q h
  .exact pt.mem q h
  .exact pl.mem q h
  .exact pk.mem q h
theorem zac (ok:d.Ok)(fw:Few d)(ex:List Int):HB (i15 d ex) D5:=by obtain⟨z1,z2,z3,z4,z5,hs⟩:=uF ok;have hz:=ok.s;rw[hs] at hz;have r1:=hz z1 (by simp);have r2:=hz z2 (by simp);have r3:=hz z3 (by simp);have r4:=hz z4 (by simp);have r5:=hz z5 (by simp);have l1:=DL ok.o;have l2:=DL ok.r;have l3:=DL ok.t;have l4:=DL ok.l;have l5:=DL ok.k;have f1:=fw.o;have f2:=fw.r;have f3:=fw.t;have f4:=fw.l;have f5:=fw.k;unfold I64 nX lA at *;unfold i15;rw[hs];simp only[D5,rg,anyI,ik,bM,cN,nX,lA,HB];repeat' first|exact trivial|exact⟨_,_,rfl,rfl,by omega⟩|apply And.intro
end
end Go.Proofs.YtboaighhnghpdaaGreatDoor
namespace Go.Proofs.YtboaighhnghpdaaGreatDoor
open Go Go.Ev Go.Ae Go.Ae.C Go.RowKit
set_option maxRecDepth 100000
variable {Z:NV}{a:Int}{x:Nat}{l ex:List Int}
theorem hle {e f:LE}{b:Int}(h:Holds Z (e,f))(ha:Num Z e a)(hb:Num Z f b):a<=b:=by obtain⟨a',b',x,y,w⟩:=h;have e1:=ha.fn x;have e2:=hb.fn y;omega
theorem wj {e:BE}{v:V}(h:AV Z (.b e) v):∃ b,v=.bool b:=by cases h;exact⟨_,rfl⟩
theorem Cy {v:V}(h:AV Z (I x) v):∃ z,v=.int .i64 z/\Num Z (x,0) z:=by
 cases h with
 |i q=>exact⟨_,rfl,q⟩
theorem ue {y:Nat}(hx:l[x]?=some a)(hy:l[y]?=some a):HB l (eqF x y):=by
 have e1:Ex l (x,0)=some (a+0):=by simp only[Ex,hx]
 have e2:Ex l (y,0)=some (a+0):=by simp only[Ex,hy]
 exact⟨⟨_,_,e1,e2,bY _⟩,⟨_,_,e2,e1,bY _⟩,trivial⟩
theorem pA {y:Nat}{p q b:Int}(hx:l[x]?=some a)(hy:l[y]?=some b)(h:a+p<=b+q):HB l [((x,p),(y,q))]:=by
 have e1:Ex l (x,p)=some (a+p):=by simp only[Ex,hx]
 have e2:Ex l (y,q)=some (b+q):=by simp only[Ex,hy]
 exact⟨⟨_,_,e1,e2,h⟩,trivial⟩
theorem Pf (h0:l[0]?=some 0)(hx:l[x]?=some a)(h:I64 a):HB l (anyI x):=by have h1:=h.1;have h2:=h.2;exact fV (a:=[((0,nX),(x,0))]) (pA h0 hx (by omega)) (pA hx h0 (by omega))
section
variable {wd:List V}{d:Acc}
theorem i0:(i15 d ex)[0]?=some 0:=rfl
theorem ixs (ok:d.Ok){j:Nat}:(i15 d ex)[16+j]?=ex[j]?:=by
 have:i15 d ex=([0,(sdN d.o:Int),(sdN d.r:Int),(sdN d.t:Int),(sdN d.l:Int),(sdN d.k:Int),(sdC d.o:Int),(sdC d.r:Int),(sdC d.t:Int),(sdC d.l:Int),(sdC d.k:Int)]++d.s)++ex:=by simp[i15]
 rw[this,zaw (by simp[ok.s5])];congr 1;simp[ok.s5]
theorem Pg (ok:d.Ok):(i15 d ex).length=16+ex.length:=by simp[i15,ok.s5];omega
theorem sF {P:Program}{M:TH}{f:FuncId}(ok:d.Ok){p:A×List (Nat×AO)×List (LE×LE)}(fp:Jq wd d p){ni:Nat}{more:List A}{ms:List V}{fs':List (LE×LE)}{outs:List OUT}(hc:fP P M f ⟨ni,0,5,p.1 :: more,p.2.1,fs',outs⟩)(hn:ni=15+ex.length)(hfs:HB (i15 d ex) fs')(hmore:∀ Z:NV,Z.ints=i15 d ex->Z.blks=bl5->AVs Z more ms):
  ∃ v h1,iW P (.fn f (d.kh :: ms)) (d.mem wd) v h1/\∃ o,o∈outs/\∃ Zo fr,(∀ {x:Nat} {z:Int},(i15 d ex)[x]?=some z->Zo.ints[x]?=some z)/\(∀ {x z:Nat},bl5[x]?=some z->Zo.blks[x]?=some z)/\Mem M fr Zo (Fc ⟨ni,0,5,p.1 :: more,p.2.1,fs',outs⟩ o) ⟨⟨1,T.leaf.put 0 (some v)⟩,h1,[]⟩/\(∀ g,g∈o.fs->Holds Zo g)/\AV Zo o.res v:=by
 refine ou hc (ints:=i15 d ex) (bl:=bl5) (by rw[Pg ok,hn];show _=1+(15+ex.length);omega) i0 rfl rfl hfs (fun Z h1 h2=>.cons (fp.av Z ex h1 h2) (hmore Z h1 h2)) fp.nd (fun i U ao q=>?_) (by decide) Av (by show 2<1005;omega);obtain⟨bb,O,x1,x2,x3,x4,x5⟩:=fp.mem (U,ao) (aC q);exact⟨bb,O,x1,x2,x3,x4,fun Z h1 h2=>x5 M Z ex h1 h2⟩
theorem Ge (ok:d.Ok)(fw:Few d)(ch:Chk d){k:A×List (Nat×AO)×List (LE×LE)}(pk:Part wd d k.1 k.2.1 k.2.2 1004 d.k)(hk:k.2.1=[]\/∃ ao,k.2.1=[(4,ao)]):∃ p,p∈Q3 k/\Jq wd d p:=by
 obtain⟨s,hs,pl,hs3⟩:∃ s,s∈SY/\Part wd d s.1 s.2.1 s.2.2 1003 d.l/\(s.2.1=[]\/∃ ao,s.2.1=[(3,ao)]):=by
  cases hl:d.l with
  |none=>exact⟨_,aE ..,ry rfl fun ex=>ue (x:=4) (y:=0) (a:=0) (by show some (sdN d.l:Int)=_;rw[hl];rfl) rfl,.inl rfl⟩
  |some q=>exact⟨_,aB _ (aE ..),by have:=mC (wd:=wd) (d:=d) (U:=3) (x:=4) (c:=9) (b:=1003) (ks':=oX) ok.l hl (ok.l.at' _ _ _ hl).2.2 rfl rfl (.inr (.inr (.inr (.inl ⟨rfl,rfl⟩)))) (fun _=>rfl) (fun _=>rfl);rw[hl] at this;exact this,.inr ⟨_,rfl⟩⟩
 have e12:sdN d.r=sdN d.o:=ch.r;have e13:sdN d.t=sdN d.o:=ch.t;have x1:∀ ex,(i15 d ex)[1]?=some (sdN d.o:Int):=fun _=>rfl;have x2:∀ ex,(i15 d ex)[2]?=some (sdN d.o:Int):=fun _=>by show some (sdN d.r:Int)=_;rw[e12]
 have x3:∀ ex,(i15 d ex)[3]?=some (sdN d.o:Int):=fun _=>by show some (sdN d.t:Int)=_;rw[e13]
 by_cases h0:sdN d.o=0
 .refine⟨_,aK.2 (.inl (aJ.2 ⟨s,hs,rfl⟩)),nw (mo:=[]) (mr:=[]) (mt:=[]) (fo:=[]) (fr:=[]) (ft:=[]) ok (jQ ok.o rfl fun _=>rfl) (jQ ok.r rfl fun _=>rfl) (jQ ok.t rfl fun _=>rfl) pl pk (fun q hq=>?_) (fun ex=>?_) ?_⟩
  .rcases aK.1 hq with h|h;·exact .inr (.inr (.inr (.inl h)))
   .exact .inr (.inr (.inr (.inr h)))
  .have z1:=x1 ex;have z2:=x2 ex;have z3:=x3 ex;rw[h0] at z1 z2 z3;exact fV (fV (fV (fV (pl.fs ex) (ue z1 i0)) (ue z2 i0)) (ue z3 i0)) (pk.fs ex)
  .rcases hs3 with e|⟨_,e⟩<;>rcases hk with e'|⟨_,e'⟩<;>simp[e,e']
 .have some':∀ {S:SD},sdN S≠0->∃ q,S=some q:=fun {S} h=>by
   cases S with
   |none=>exact absurd rfl h
   |some q=>exact⟨q,rfl⟩
  obtain⟨po,ho⟩:=some' h0;obtain⟨pr,hr⟩:=some' (S:=d.r) (by omega);obtain⟨pt,ht⟩:=some' (S:=d.t) (by omega);have q1:=mC (wd:=wd) (d:=d) (U:=0) (x:=1) (c:=6) (b:=1000) (ks':=D2) ok.o ho (fw.txt _ _ _ ho) rfl rfl (.inl ⟨rfl,rfl⟩) (fun _=>rfl) (fun _=>rfl);have q2:=mC (wd:=wd) (d:=d) (U:=1) (x:=2) (c:=7) (b:=1001) (ks':=D3) ok.r hr (ok.r.at' _ _ _ hr).2.2 rfl rfl (.inr (.inl ⟨rfl,rfl⟩)) (fun _=>rfl) (fun _=>rfl);have q3:=MP (wd:=wd) ok ht ch;refine⟨_,aK.2 (.inr (aJ.2 ⟨s,hs,rfl⟩)),nw ok q1 q2 q3 pl pk (fun q hq=>?_) (fun ex=>?_) ?_⟩
  .rcases aK.1 hq with h|h
   .rcases aK.1 h with h|h
    .simp only[aq,aA,or_false] at h ⊢;rcases h with h|h|h
     .exact .inl h
     .exact .inr (.inl h)
     .exact .inr (.inr (.inl h))
    .exact .inr (.inr (.inr (.inl h)))
   .exact .inr (.inr (.inr (.inr h)))
  .exact fV (fV (fV (fV (pl.fs ex) (ue (x1 ex) (x2 ex))) (ue (x1 ex) (x3 ex))) (pA i0 (x1 ex) (by omega))) (pk.fs ex)
  .rcases hs3 with e|⟨_,e⟩<;>rcases hk with e'|⟨_,e'⟩<;>simp[e,e',lP,Nl]
end
end Go.Proofs.YtboaighhnghpdaaGreatDoor
namespace Go.Proofs.YtboaighhnghpdaaGreatDoor
open Go Go.Ev Go.Ae Go.Ae.C Go.RowKit
set_option maxRecDepth 100000
variable {ex:List Int}{Zo:NV}
def ny (wd:List V)(d:Acc)(f:FuncId)(vs:List V)(v:V):Prop:=∃ h1,iW Tryz.prog (.fn f vs) (d.mem wd) v h1
structure Real (wd:List V)(d:Acc):Prop where
 at':∃ Y W cargs,Sim Y (d.mem wd) W/\fH Y [d.kh,d.qI] cargs
theorem Gf {f:FuncId}{fn:Func}{c:Code}(hf:S.G0.funcs.get f=some fn)(hb:fn.body=some c){vs:List V}{h h1:H}{v:V}(q:iW Tryz.prog (.fn f vs) h v h1){Y:Ren}{W:World}{cargs:List Value}(hS:Sim Y h W)(ha:fH Y vs cargs):∃ w' Y',Sim Y' h1 w'/\Ext Y h W Y' h1 w':=by obtain⟨g1,g2⟩:=(S.jl (fun _ _ _=>none)).1.funcs f fn hf;have:=q _ Y W ⟨cargs.toArray,by simpa using ha,rfl⟩ hS;rw[fE g1 g2 hb] at this;obtain⟨e,w',fr,r,_⟩:=(this 0).2 [] (room_wide _);obtain⟨_,_,Y',s1,s2,_⟩:=r;exact⟨w',Y',s1,s2⟩
theorem UK:∃ fn c,S.G0.funcs.get 16=some fn/\fn.body=some c:=by
 have:(match S.G0.funcs.get 16 with
  |some fn=>fn.body.isSome
  |none=>false)=true:=by kernel_rfl
 split at this;·rename_i fn h;obtain⟨c,hc⟩:=bu.1 this;exact⟨fn,c,h,hc⟩
 .cases this
section
variable {wd:List V}{d:Acc}
theorem yl {b:Nat}{o:O}(h:(d.mem wd).tr.get b=some o):o.rw=false:=by rcases sD h with⟨_,rfl⟩|⟨_,rfl⟩|⟨_,_,_,_,rfl⟩<;>rfl
theorem WC {h1:H}{Y Y':Ren}{W w':World}(hS:Sim Y (d.mem wd) W)(hS':Sim Y' h1 w')(hEe:Ext Y (d.mem wd) W Y' h1 w'){b n m:Nat}{e e':Option TypeId}{L pat:List V}{tr:T V}(hb:b<1005)(g:(d.mem wd).tr.get b=some (.ro e n L .leaf))(g1:h1.tr.get b=some (.ro e' m pat tr)):
  ∀ (i:Nat) (u v:V),cell n L .leaf i=some u->cell m pat tr i=some v->∃ c,Rel Y u c/\Rel Y' v c:=by
 obtain⟨P,c,x1,x2,x3⟩:=hS.live _ _ g;obtain⟨P',c',y1,y2,y3⟩:=hS'.live _ _ g1;rw[hEe.agree b hb,x1] at y1;cases y1;rw[hEe.frame P.1 (hS.wY g (Ren.uo x1)) (fun b' o' q q'=>by rw[yl q] at q';cases q'),x2] at y2;cases y2;obtain⟨cs,el,fr,rfl,s1,s2,_,s4⟩:=x3;obtain⟨cs',el',fr',e2,_,_,_,s5⟩:=y3;cases e2;intro i u v hu hv;have hi:i<n:=(jE hu).1;have hc:cs[P.2.1+i]?=some cs[P.2.1+i]:=bq (by omega);exact⟨_,s4.2 i u _ hu hc,s5.2 i v _ hv hc⟩
theorem Gg (ok:d.Ok)(ex:List Int):HB (i15 d ex) Oq:=by obtain⟨z1,z2,z3,z4,z5,hs⟩:=uF ok;have hz:=ok.s;rw[hs] at hz;have r1:=hz z1 (by simp);have r2:=hz z2 (by simp);have r3:=hz z3 (by simp);have r4:=hz z4 (by simp);have r5:=hz z5 (by simp);have l1:=DL ok.o;unfold I64 nX lA at *;unfold i15;rw[hs];simp only[Oq,rg,anyI,ik,bM,cN,nX,lA,HB];repeat' first|exact trivial|exact⟨_,_,rfl,rfl,by omega⟩|apply And.intro
theorem sG (le:∀ {x:Nat} {z:Int},(i15 d ex)[x]?=some z->Zo.ints[x]?=some z){x:Nat}{z:Int}(h:(i15 d ex)[x]?=some z):Num Zo (x,0) z:=⟨z,le h,by simp⟩
theorem uf (le:∀ {x:Nat} {z:Int},(i15 d ex)[x]?=some z->Zo.ints[x]?=some z)(c:Int):Num Zo (0,c) c:=⟨0,le i0,by simp⟩
theorem Gi (ok:d.Ok){m:List (Nat×AO)}{o:OUT}{v:V}(ho:o∈Ot m)(le:∀ {x:Nat} {z:Int},(i15 d ex)[x]?=some z->Zo.ints[x]?=some z)(fo:∀ g,g∈o.fs->Holds Zo g)(av:AV Zo o.res v)(txt:∀ L n c,d.o=some (L,n,c)->MM D2 L):∃ b,v=.bool b/\(b=true->Few d):=by
 unfold Ot at ho;simp only[aq,aA,or_false] at ho;rcases ho with rfl|rfl
 .have n5:Num Zo (5,0) (sdN d.k:Int):=sG le rfl;generalize hr:(o1 0 (.b (.not (.lt (0,40) (5,0)))) m [((1,0),(0,80)),((2,0),(0,80)),((3,0),(0,80)),((4,0),(0,150))]).res=r at av;have hr:r=.b (.not (.lt (0,40) (5,0))):=hr.symm;subst hr;cases av with
  |b q=>
   refine⟨_,rfl,fun e=>?_⟩;cases q with
   |not q=>
    cases q with
    |lt p1 p2=>
     have e1:=p1.fn (uf le 40);have e2:=p2.fn n5;subst e1;subst e2;have e:¬ ((40:Int)<sdN d.k):=by simpa using e
     have h1:=hle (fo _ (aE ..)) (sG le (x:=1) rfl) (uf le 80);have h2:=hle (fo _ (aB _ (aE ..))) (sG le (x:=2) rfl) (uf le 80);have h3:=hle (fo _ (aB _ (aB _ (aE ..)))) (sG le (x:=3) rfl) (uf le 80);have h4:=hle (fo _ (aB _ (aB _ (aB _ (aE ..))))) (sG le (x:=4) rfl) (uf le 150);exact⟨by omega,by omega,by omega,by omega,by omega,txt⟩
 .cases av with
  |k=>exact⟨false,rfl,fun e=>by cases e⟩
theorem Gj (ok:d.Ok):Part wd d (suN 4 5 6) [] [] 1004 d.k:=jQ ok.k rfl fun _=>rfl
theorem MR {B:TH}(K:Kept B lz)(ok:d.Ok):∃ b,ny wd d 4 [d.kh] (.bool b)/\(b=true->Few d):=by
 have e4:C.spec 4=[⟨16,0,5,[D4 (.k .nils) (suN 1 2 2) (suN 2 3 1) (suN 3 4 6) (suN 4 5 6)],[],Oq++eqF 1 0,Ot []⟩,⟨16,0,5,[D4 (slK 0 1 6) (suN 1 2 2) (suN 2 3 1) (suN 3 4 6) (suN 4 5 6)],[lP 0 1 D2],Oq++[],Ot [lP 0 1 D2]⟩,⟨16,0,5,[D4 (slK 0 1 6) (suN 1 2 2) (suN 2 3 1) (suN 3 4 6) (suN 4 5 6)],[Q4],Oq++lt0 16 1,[o0 (.k (.bool false)) []]⟩]:=by kernel_rfl
 have K4:=K 4 (by decide);rw[e4] at K4;have pr:Part wd d (suN 1 2 2) [] [] 1001 d.r:=jQ ok.r rfl fun _=>rfl;have pt:Part wd d (suN 2 3 1) [] [] 1002 d.t:=jQ ok.t rfl fun _=>rfl;have pl:Part wd d (suN 3 4 6) [] [] 1003 d.l:=jQ ok.l rfl fun _=>rfl;have pk:Part wd d (suN 4 5 6) [] [] 1004 d.k:=Gj ok;have ar:∀ Z:NV,∀ ex,Z.ints=i15 d ex->Z.blks=bl5->AVs Z [] []:=fun _ _ _ _=>.nil;cases ho:d.o with
 |none=>
  have f0:∀ ex,HB (i15 d ex) (eqF 1 0):=fun ex=>ue (a:=0) (by show some (sdN d.o:Int)=_;rw[ho];rfl) i0;have po:Part wd d (.k .nils) [] (eqF 1 0) 1000 d.o:=ry ho f0;have fp:=nw ok po pr pt pl pk (m:=[]) (fs:=eqF 1 0) (fun q hq=>by cases hq) f0 List.nodup_nil;obtain⟨v,h1,c1,o,o1,Zo,fr,le,_,_,fo,av⟩:=sF ok fp (ex:=[0]) (K4 _ (aE ..)) rfl (fV (Gg ok _) (f0 _)) fun Z _ _=>.nil;obtain⟨b,rfl,hb⟩:=Gi ok o1 le fo av fun L n c h=>by rw[ho] at h;cases h
  exact⟨b,⟨h1,c1⟩,hb⟩
 |some p=>
  obtain⟨L,n,c⟩:=p;obtain⟨hl,_,hR⟩:=ok.o.at' L n c ho;by_cases hr:MM D2 L
  .have po:=mC (wd:=wd) (d:=d) (U:=0) (x:=1) (c:=6) (b:=1000) (ks':=D2) ok.o ho hr rfl rfl (.inl ⟨rfl,rfl⟩) (fun _=>rfl) (fun _=>rfl);have fp:=nw ok po pr pt pl pk (m:=[lP 0 1 D2]) (fs:=[]) (fun q hq=>.inl hq) (fun _=>trivial) (by simp);obtain⟨v,h1,c1,o,o1,Zo,fr,le,_,_,fo,av⟩:=sF ok fp (ex:=[0]) (K4 _ (aB _ (aE ..))) rfl (fV (Gg ok _) trivial) fun Z _ _=>.nil;obtain⟨b,rfl,hb⟩:=Gi ok o1 le fo av fun L' n' c' h=>by rw[ho] at h;cases h;exact hr
   exact⟨b,⟨h1,c1⟩,hb⟩
  .
   have:∃ i,i<L.length/\∃ s:List UInt8,L[i]?=some (.str s)/\i % 6=5/\200<s.length:=Classical.byContradiction fun hn=>hr fun i hi=>by
    obtain⟨v,k,h1,h2,h3⟩:=hR i hi;by_cases h5:i % 6=5
    .have h2:Au[i % 6]?=some k:=h2;rw[h5] at h2;cases h2;obtain⟨s,rfl⟩:∃ s,v=.str s:=by
      cases h3 ⟨[],[],[],[]⟩ with
      |str s=>exact⟨s,rfl⟩
     refine⟨_,.stb 200,h1,?_,fun Z=>.stb ?_⟩;·show D2[i % 6]?=_;rw[h5];rfl
     .apply Classical.byContradiction;intro h;exact hn ⟨i,hi,s,h1,h5,by omega⟩
    .refine⟨v,k,h1,?_,h3⟩;have h2:Au[i % 6]?=some k:=h2;show D2[i % 6]?=_;rw[<- h2];have:i % 6<6:=dD _ (by decide);generalize i % 6=j at this h5;match j,this,h5 with
     |0,_,_=>rfl
     |1,_,_=>rfl
     |2,_,_=>rfl
     |3,_,_=>rfl
     |4,_,_=>rfl
     |5,_,h=>exact absurd rfl h
   obtain⟨i,hi,s,s1,s2,s3⟩:=this;have hl:L.length=6 * n:=hl;have hm:i / 6<n:=by omega
   have hL:6 * (i / 6)+5=i:=by omega
   have n1:sdN d.o=n:=by rw[ho];rfl
   have po:Part wd d (slK 0 1 6) [] [] 1000 d.o:=⟨fun Z ex h1 h2=>by have:=ov h1 (show(i15 d ex)[1]?=some (sdN d.o:Int) from rfl);have h3:=ov h1 (show(i15 d ex)[6]?=some (sdC d.o:Int) from rfl);rw[ho] at this h3 ⊢;exact Cx (by rw[h2];rfl) this h3,rfl,fun _=>trivial,fun q hq=>by cases hq⟩;obtain⟨av,_,_,_⟩:=nw ok po pr pt pl pk (m:=[]) (fs:=[]) (fun q hq=>by cases hq) (fun _=>trivial) (by simp);obtain⟨v,h1,c1,o,o1,Zo,fr,le,lb,mo,fo,ao⟩:=ou (K4 _ (aB _ (aB _ (aE ..)))) (h:=d.mem wd) (ints:=i15 d [((i / 6:Nat):Int)]) (bl:=bl5) (vs:=[d.kh]) (by rw[Pg ok];rfl) i0 rfl rfl (fV (Gg ok _) (fV (a:=[((0,0),(16,0))]) (pA i0 (ixs ok (j:=0)) (by omega)) (pA (y:=1) (b:=(sdN d.o:Int)) (ixs ok (j:=0)) rfl (by rw[n1];omega))))
    (fun Z h1 h2=>.cons (av Z _ h1 h2) .nil) (by simp[Q4]) (fun j U ao q=>by
      match j,q with
      |0,q=>cases q;refine⟨1000,_,rfl,uE (.inl ⟨rfl,rfl⟩) ho,by show 1000<1005;omega,by omega,fun Z h1 h2=>?_⟩;refine .tl (cnt:=n) (ov h1 (by show some (sdN d.o:Int)=_;rw[n1])) (MO (ks:=Au) hl hR) ⟨i / 6,s,ov h1 (ixs ok (j:=0)),hm,?_,s3⟩;show cell L.length L .leaf (i / 6 * 6+5)=_;rw[show i / 6 * 6+5=i by omega];exact nO (by omega) s1
      |j+1,q=>simp[Q4] at q) (by decide) Av (by show 2<1005;omega)
   rw[aj.1 o1] at ao;have ao:AV Zo (.k (.bool false)) v:=ao;have e:v=.bool false:=by cases ao;rfl
   rw[e] at c1;exact⟨false,⟨h1,c1⟩,fun e=>by cases e⟩
end
end Go.Proofs.YtboaighhnghpdaaGreatDoor
namespace Go.Proofs.YtboaighhnghpdaaGreatDoor
open Go Go.Ev Go.Ae Go.Ae.C Go.RowKit
set_option maxRecDepth 100000
section
variable {wd:List V}{d:Acc}
theorem KQ (ok:d.Ok):HB (i15 d (rq d)) (jC 16):=by obtain⟨z1,z2,z3,z4,z5,hs⟩:=uF ok;obtain⟨c1,c2,c3,c4,c5,c6,c7,c8,c9,hc⟩:=uG ok;have hz:=ok.c;rw[hc] at hz;have r1:=hz c1 (by simp);have r2:=hz c2 (by simp);have r3:=hz c3 (by simp);have r4:=hz c4 (by simp);have r5:=hz c5 (by simp);have r6:=hz c6 (by simp);have r7:=hz c7 (by simp);have r8:=hz c8 (by simp);have r9:=hz c9 (by simp);have r10:=ok.u;unfold I64 nX lA at *;unfold i15 rq;rw[hs,hc];simp only[jC,rg,anyI,AU,ik,bM,cN,nX,lA,HB];repeat' first|exact trivial|exact⟨_,_,rfl,rfl,by omega⟩|apply And.intro
theorem Aw (ok:d.Ok){x:Nat}(ints:List Int)(h:∀ j,ints[x+j]?=(rq d)[j]?\/10<=j){Z:NV}(hZ:Z.ints=ints):AV Z (D6 x) d.qI:=by
 obtain⟨c1,c2,c3,c4,c5,c6,c7,c8,c9,hc⟩:=uG ok;have e:d.qI=.agg 10 [.int .i64 c1,.int .i64 c2,.int .i64 c3,.int .i64 c4,.int .i64 c5,.int .i64 c6,.int .i64 c7,.int .i64 c8,.int .i64 c9,.int .u32 d.u] .leaf:=by unfold Acc.qI;rw[hc];rfl
 have hi:rq d=[c1,c2,c3,c4,c5,c6,c7,c8,c9,d.u]:=by unfold rq;rw[hc];rfl
 have n:∀ (j:Nat) (z:Int),j<10->(rq d)[j]?=some z->Num Z (x+j,0) z:=fun j z hj q=>⟨z,by
  rw[hZ];rcases h j with h|h
  .rw[h];exact q
  .omega,(bG _).symm⟩
 rw[hi] at n;rw[e];exact Jp (l:=[I x,I (x+1),I (x+2),I (x+3),I (x+4),I (x+5),I (x+6),I (x+7),I (x+8),Uu (x+9)]) (.cons (.i (n 0 _ (by omega) rfl)) (.cons (.i (n 1 _ (by omega) rfl)) (.cons (.i (n 2 _ (by omega) rfl)) (.cons (.i (n 3 _ (by omega) rfl)) (.cons (.i (n 4 _ (by omega) rfl)) (.cons (.i (n 5 _ (by omega) rfl)) (.cons (.i (n 6 _ (by omega) rfl)) (.cons (.i (n 7 _ (by omega) rfl)) (.cons (.i (n 8 _ (by omega) rfl)) (.cons (.i (n 9 _ (by omega) rfl)) .nil)))))))))) rfl
theorem MT (ok:d.Ok):(rq d).length=10:=by simp[rq,ok.c9]
theorem Js (ok:d.Ok){Z:NV}(h:Z.ints=i15 d (rq d)):AVs Z [D6 16] [d.qI]:=.cons (Aw ok _ (fun j=>.inl (ixs ok)) h) .nil
theorem Ay (ok:d.Ok){ex:List Int}{Zo:NV}{m m':List (Nat×AO)}{o:OUT}{v:V}(ho:o∈[o1 1 (I 26) m (rg 26 1 17),o1 0 e0 m' (eqF 1 3++eqF 2 3)])(le:∀ {x:Nat} {z:Int},(i15 d ex)[x]?=some z->Zo.ints[x]?=some z)(fo:∀ g,g∈o.fs->Holds Zo g)(av:AV Zo o.res v):
  ∃ z,v=.int .i64 z/\0<=z/\z<=17/\(z<=0->o=o1 0 e0 m' (eqF 1 3++eqF 2 3)/\sdN d.r=sdN d.o/\sdN d.t=sdN d.o):=by
 simp only[aq,aA,or_false] at ho;rcases ho with rfl|rfl
 .obtain⟨z,rfl,hz⟩:=Cy av;have h1:=hle (fo _ (aE ..)) (uf le 1) hz;have h2:=hle (fo _ (aB _ (aE ..))) hz (uf le 17);exact⟨z,rfl,by omega,h2,fun h=>by omega⟩
 .have av:AV Zo e0 v:=av;have e:v=.int .i64 0:=by cases av;rfl
  have n1:Num Zo (1,0) (sdN d.o:Int):=sG le rfl;have n2:Num Zo (2,0) (sdN d.r:Int):=sG le rfl;have n3:Num Zo (3,0) (sdN d.t:Int):=sG le rfl;have h1:=hle (fo ((1,0),(3,0)) (by simp[o1,eqF])) n1 n3;have h2:=hle (fo ((3,0),(1,0)) (by simp[o1,eqF])) n3 n1;have h3:=hle (fo ((2,0),(3,0)) (by simp[o1,eqF])) n2 n3;have h4:=hle (fo ((3,0),(2,0)) (by simp[o1,eqF])) n3 n2;exact⟨0,e,by omega,by omega,fun _=>⟨rfl,by omega,by omega⟩⟩
theorem Gk {B:TH}(K:Kept B lz)(ok:d.Ok)(fw:Few d)(R:Real wd d):∃ z,ny wd d 16 [d.kh,d.qI] (.int .i64 z)/\0<=z/\z<=17/\(z<=0->Chk d):=by
 have e16:C.spec 16=[⟨25,0,5,[D4 (suN 0 1 6) (suN 1 2 2) (.k .nils) (suN 3 4 6) (suN 4 5 6),D6 16],[],D5++jC 16++eqF 3 0,[o1 1 (I 26) [] (rg 26 1 17),o1 0 e0 [] (eqF 1 3++eqF 2 3)]⟩,
  ⟨25,0,5,[D4 (suN 0 1 6) (suN 1 2 2) (slK 2 3 8) (suN 3 4 6) (suN 4 5 6),D6 16],[lP 2 3 [i64]],D5++jC 16++[((0,1),(3,0))],[o1 1 (I 26) [lP 2 3 [i64]] (rg 26 1 17),o1 0 e0 [Nl 2] (eqF 1 3++eqF 2 3)]⟩,
  ⟨25,0,5,[D4 (suN 0 1 6) (suN 1 2 2) (slK 2 3 8) (suN 3 4 6) (suN 4 5 6),D6 16],[lP 2 3 [i64]],D5++jC 16++eqF 3 0,[o1 1 (I 26) [lP 2 3 [i64]] (rg 26 1 17),o1 0 e0 [lP 2 3 [i64]] (eqF 1 3++eqF 2 3)]⟩]:=by kernel_rfl
 have K16:=K 16 (by decide);rw[e16] at K16;have po:Part wd d (suN 0 1 6) [] [] 1000 d.o:=jQ ok.o rfl fun _=>rfl;have pr:Part wd d (suN 1 2 2) [] [] 1001 d.r:=jQ ok.r rfl fun _=>rfl;have pl:Part wd d (suN 3 4 6) [] [] 1003 d.l:=jQ ok.l rfl fun _=>rfl;have pk:Part wd d (suN 4 5 6) [] [] 1004 d.k:=Gj ok;have hn:25=15+(rq d).length:=by rw[MT ok]
 have base:HB (i15 d (rq d)) (D5++jC 16):=fV (zac ok fw _) (KQ ok);cases ht:d.t with
 |none=>have f0:∀ ex,HB (i15 d ex) (eqF 3 0):=fun ex=>ue (a:=0) (by show some (sdN d.t:Int)=_;rw[ht];rfl) i0;have pt:Part wd d (.k .nils) [] (eqF 3 0) 1002 d.t:=ry ht f0;have fp:=nw ok po pr pt pl pk (m:=[]) (fs:=eqF 3 0) (fun q hq=>by cases hq) f0 List.nodup_nil;obtain⟨v,h1,c1,o,o1,Zo,fr,le,_,_,fo,av⟩:=sF ok fp (K16 _ (aE ..)) hn (fV base (f0 _)) fun Z h _=>Js ok h;obtain⟨z,rfl,y1,y2,y3⟩:=Ay ok o1 le fo av;exact⟨z,⟨h1,c1⟩,y1,y2,fun q=>⟨(y3 q).2.1,(y3 q).2.2,fun L n c h=>by rw[ht] at h;cases h⟩⟩
 |some p=>
  obtain⟨L,n,c⟩:=p;obtain⟨hl,_,hR⟩:=ok.t.at' L n c ht;have hl:L.length=n:=by simpa using hl
  have n3:sdN d.t=n:=by rw[ht];rfl
  have pt:=mC (wd:=wd) (d:=d) (U:=2) (x:=3) (c:=8) (b:=1002) (ks':=[i64]) ok.t ht hR rfl rfl (.inr (.inr (.inl ⟨rfl,rfl⟩))) (fun _=>rfl) (fun _=>rfl);have fp:=nw ok po pr pt pl pk (m:=[lP 2 3 [i64]]) (fs:=[]) (fun q hq=>.inr (.inr (.inl hq))) (fun _=>trivial) (by simp);have x3:(i15 d (rq d))[3]?=some (n:Int):=by show some (sdN d.t:Int)=_;rw[n3]
  by_cases h0:n=0;·obtain⟨v,h1,c1,o,o1,Zo,fr,le,_,_,fo,av⟩:=sF ok fp (K16 _ (aB _ (aB _ (aE ..)))) hn (fV base (ue (a:=(n:Int)) x3 (by rw[h0];exact i0))) fun Z h _=>Js ok h;obtain⟨z,rfl,y1,y2,y3⟩:=Ay ok o1 le fo av;refine⟨z,⟨h1,c1⟩,y1,y2,fun q=>⟨(y3 q).2.1,(y3 q).2.2,fun L' n' c' h=>?_⟩⟩;rw[ht] at h;cases h;exact⟨fun _=>0,fun i hi=>by omega,fun _ _ _ _=>bY _,fun i hi=>by omega⟩
  .obtain⟨v,h1,c1,o,o1,Zo,fr,le,lb,mo,fo,av⟩:=sF ok fp (K16 _ (aB _ (aE ..))) hn (fV base (pA i0 x3 (by omega))) fun Z h _=>Js ok h;obtain⟨z,rfl,y1,y2,y3⟩:=Ay ok o1 le fo av;refine⟨z,⟨h1,c1⟩,y1,y2,fun q=>⟨(y3 q).2.1,(y3 q).2.2,fun L' n' c' h=>?_⟩⟩;rw[ht] at h;cases h;have eo:=(y3 q).1;subst eo;obtain⟨b,hp,w1,w2,w3,w4⟩:=mo.hr.at' 2 _ _ (show _=some (1,(Nl 2).2) from rfl);rw[lb (show bl5[2]?=some 1002 from rfl)] at w1;cases w1;generalize hso:(Nl 2).2=ao at w3;cases w3 with
   |@so ro t nn kk lo hi els b cnt pat tr f o hs hc ho=>
    cases hso;have g1:=(w4 _ (aj.2 rfl)).1;subst ho;obtain⟨fn,cc,q1,q2⟩:=UK;obtain⟨Y,W,cargs,sS,sA⟩:=R.at';obtain⟨w',Y',s1,s2⟩:=Gf q1 q2 c1 sS sA;have ecnt:cnt=n:=by have:=hs.hn.fn (sG le (x:=3) x3);omega
    subst ecnt;have cells:=WC sS s1 s2 (by omega) (uE (.inr (.inr (.inl ⟨rfl,rfl⟩))) ht) g1;obtain⟨k0,j1,j2,j3⟩:=hs.srt;have e0:=j1.fn (uf le 0);subst e0;refine⟨f,fun i hi=>?_,fun i j h1 h2=>j2 i j (by omega) h1 h2,fun i hi=>?_⟩;·obtain⟨x,k,r1,r2,r3⟩:=hR i (by omega);obtain⟨cv,t1,t2⟩:=cells i x _ (show cell L.length L .leaf i=some x from nO (by omega) r1) (hc i hi);rw[r1];cases t2;cases t1;rfl
    .obtain⟨l1,l2⟩:=j3 i (by omega) hi;obtain⟨a,a1,a2⟩:=l1 _ rfl;obtain⟨a',a1',a2'⟩:=l2 _ rfl;have e1:=a1.fn (uf le 0);have e2:=a1'.fn (sG le (x:=4) (z:=(sdN d.l:Int)) rfl);omega
   |_=>cases hso
end
variable {B:TH}{f:FuncId}{ni:Nat}{ex:List Int}
section
variable {wd:List V}{d:Acc}
theorem wm (K:Kept B lz)(ok:d.Ok)(fw:Few d)(ch:Chk d){more:List A}{fs:List (LE×LE)}{out:List (Nat×AO)->List OUT}(e:C.spec f=JK ni more fs out)(hf:f∈lz)(hn:ni=ex.length)(hfs:HB (i15 d ex) fs){ms:List V}(hm:∀ Z:NV,Z.ints=i15 d ex->AVs Z more ms):
  ∃ v,ny wd d f (d.kh :: ms) v/\∃ m o,o∈out m/\∃ Zo:NV,(∀ {x:Nat} {z:Int},(i15 d ex)[x]?=some z->Zo.ints[x]?=some z)/\(∀ g,g∈o.fs->Holds Zo g)/\AV Zo o.res v:=by
 obtain⟨p,hp,fp⟩:=Ge (wd:=wd) ok fw ch (k:=(suN 4 5 6,[],[])) (Gj ok) (.inl rfl);have hc:=K f hf;rw[e] at hc;obtain⟨v,h1,c1,o,o1,Zo,fr,le,_,_,fo,av⟩:=sF ok fp (hc _ (aJ.2 ⟨p,hp,rfl⟩)) (by omega) (fV (fV (zac ok fw _) (fp.fs _)) hfs) fun Z h _=>hm Z h;exact⟨v,⟨h1,c1⟩,_,o,o1,Zo,le,fo,av⟩
theorem Gl {Zo:NV}{m:List (Nat×AO)}{o:OUT}{v:V}{x n:Nat}(hn:(i15 d ex)[1]?=some (n:Int))(ho:o∈[o1 1 (I x) m [((0,-1),(x,0)),((x,1),(1,0))],o0 (.k (.int .i64 (-1))) m])(le:∀ {x:Nat} {z:Int},(i15 d ex)[x]?=some z->Zo.ints[x]?=some z)(fo:∀ g,g∈o.fs->Holds Zo g)(av:AV Zo o.res v):
  ∃ z,v=.int .i64 z/\-1<=z/\z+1<=n:=by
 simp only[aq,aA,or_false] at ho;rcases ho with rfl|rfl
 .obtain⟨z,rfl,hz⟩:=Cy av;have h1:=hle (fo _ (aE ..)) (uf le (-1)) hz;have h2:=hle (fo _ (aB _ (aE ..))) (hz.plus 1) (sG le (x:=1) hn);exact⟨z,rfl,h1,h2⟩
 .have av:AV Zo (.k (.int .i64 (-1))) v:=av;exact⟨-1,by cases av;rfl,by omega,by omega⟩
theorem Ph (ok:d.Ok):∃ z,d.c[5]?=some z/\I64 z:=by obtain⟨c1,c2,c3,c4,c5,c6,c7,c8,c9,hc⟩:=uG ok;exact⟨c6,by rw[hc];rfl,ok.c c6 (by rw[hc];simp)⟩
theorem Gm (K:Kept B lz)(ok:d.Ok)(fw:Few d)(ch:Chk d){c:Int}(hc:d.c[5]?=some c):∃ z,ny wd d 20 [d.kh,.int .i64 c] (.int .i64 z)/\-1<=z/\z+1<=sdN d.o:=by have hI:I64 c:=ok.c c (aC hc);have hx:(i15 d [c])[16]?=some c:=ixs ok (j:=0);obtain⟨v,c1,m,o,o1,Zo,le,fo,av⟩:=wm (wd:=wd) K ok fw ch (f:=20) (by kernel_rfl:C.spec 20=JK 1 [I 16] (anyI 16) fun m=>[o1 1 (I 17) m [((0,-1),(17,0)),((17,1),(1,0))],o0 (.k (.int .i64 (-1))) m]) (by decide) (ex:=[c]) rfl (Pf i0 hx hI) (ms:=[.int .i64 c]) fun Z h=>.cons (.i (ov h hx)) .nil;obtain⟨z,rfl,y1,y2⟩:=Gl rfl o1 le fo av;exact⟨z,c1,y1,y2⟩
theorem Gn (K:Kept B lz)(ok:d.Ok)(fw:Few d)(ch:Chk d):∃ z,ny wd d 21 [d.kh] (.int .i64 z)/\-1<=z/\z+1<=sdN d.o:=by obtain⟨v,c1,m,o,o1,Zo,le,fo,av⟩:=wm (wd:=wd) K ok fw ch (f:=21) (by kernel_rfl:C.spec 21=JK 0 [] [] fun m=>[o1 1 (I 16) m [((0,-1),(16,0)),((16,1),(1,0))],o0 (.k (.int .i64 (-1))) m]) (by decide) (ex:=[]) rfl trivial (ms:=[]) fun Z h=>.nil;obtain⟨z,rfl,y1,y2⟩:=Gl rfl o1 le fo av;exact⟨z,c1,y1,y2⟩
theorem DN (K:Kept B lz)(ok:d.Ok)(fw:Few d)(ch:Chk d):∃ b,ny wd d 39 [d.kh] (.bool b):=by obtain⟨v,c1,m,o,o1,Zo,le,fo,av⟩:=wm (wd:=wd) K ok fw ch (f:=39) (by kernel_rfl:C.spec 39=JK 0 [] [] fun m=>[o1 1 (.b (.lt (0,0) (16,0))) m []]) (by decide) (ex:=[]) rfl trivial (ms:=[]) fun Z h=>.nil;rw[aj.1 o1] at av;obtain⟨b,rfl⟩:=wj av;exact⟨b,c1⟩
theorem Az (K:Kept B lz)(ok:d.Ok)(fw:Few d)(ch:Chk d):∃ b,ny wd d 30 [d.kh,d.qI] (.bool b):=by obtain⟨v,c1,m,o,o1,Zo,le,fo,av⟩:=wm (wd:=wd) K ok fw ch (f:=30) (by kernel_rfl:C.spec 30=JK 10 [D6 16] (jC 16) fun m=>[o1 1 (.b (.lt (0,0) (26,0))) m []]) (by decide) (ex:=rq d) (MT ok).symm (KQ ok) (ms:=[d.qI]) fun Z h=>Js ok h;rw[aj.1 o1] at av;obtain⟨b,rfl⟩:=wj av;exact⟨b,c1⟩
theorem Gp (K:Kept B lz)(ok:d.Ok)(fw:Few d)(ch:Chk d):∃ b,ny wd d 22 [d.kh] (.bool b):=by
 have e:C.spec 22=ik (fun k=>(Q3 k).map fun p=>⟨15,0,5,[p.1],p.2.1,D5++p.2.2,[o1 1 (.b (.lt (0,0) (16,0))) p.2.1 []]⟩) [(.k .nils,[],eqF 5 0),(slK 4 5 10,[lP 4 5 yA],[])]:=by kernel_rfl
 have hc:=K 22 (by decide);rw[e] at hc;simp only[ik,cC] at hc;have fin:∀ p:A×List (Nat×AO)×List (LE×LE),Jq wd d p->fP Tryz.prog (Th B C.inv) 22 ⟨15,0,5,[p.1],p.2.1,D5++p.2.2,[o1 1 (.b (.lt (0,0) (16,0))) p.2.1 []]⟩->∃ b,ny wd d 22 [d.kh] (.bool b):=fun p fp q=>by obtain⟨v,h1,c1,o,o1,Zo,fr,le,_,_,fo,av⟩:=sF ok fp (ex:=[]) q rfl (fV (zac ok fw _) (fp.fs _)) (ms:=[]) fun Z h _=>.nil;rw[aj.1 o1] at av;obtain⟨b,rfl⟩:=wj av;exact⟨b,h1,c1⟩
 cases hk:d.k with
 |none=>obtain⟨p,hp,fp⟩:=Ge (wd:=wd) ok fw ch (k:=(.k .nils,[],eqF 5 0)) (ry hk fun ex=>ue (a:=0) (by show some (sdN d.k:Int)=_;rw[hk];rfl) i0) (.inl rfl);exact fin p fp (hc _ (aK.2 (.inl (aJ.2 ⟨p,hp,rfl⟩))))
 |some q=>obtain⟨p,hp,fp⟩:=Ge (wd:=wd) ok fw ch (k:=(slK 4 5 10,[lP 4 5 yA],[])) (mC ok.k hk (ok.k.at' _ _ _ hk).2.2 rfl rfl (.inr (.inr (.inr (.inr ⟨rfl,rfl⟩)))) (fun _=>rfl) (fun _=>rfl)) (.inr ⟨_,rfl⟩);exact fin p fp (hc _ (aK.2 (.inr (aJ.2 ⟨p,hp,rfl⟩))))
noncomputable def i2 (d:Acc)(ex:List Int):List Int:=0 :: (sdN d.l:Int) :: (sdC d.l:Int) :: ex
theorem Gq (K:Kept B lz)(ok:d.Ok)(fw:Few d){more:List A}{fs:List (LE×LE)}{out:List (Nat×AO)->List OUT}(e:C.spec f=Nn ni more fs out)(hf:f∈lz)(hn:ni=ex.length)(hfs:HB (i2 d ex) fs){ms:List V}(hm:∀ Z:NV,Z.ints=i2 d ex->AVs Z more ms):
  ∃ v,ny wd d f (ms++[sdV 1003 d.l]) v/\∃ m o,o∈out m/\∃ Zo:NV,(∀ {x:Nat} {z:Int},(i2 d ex)[x]?=some z->Zo.ints[x]?=some z)/\(∀ g,g∈o.fs->Holds Zo g)/\AV Zo o.res v:=by
 have hc:=K f hf;rw[e] at hc;cases hl:d.l with
 |none=>
  have e1:(sdN d.l:Int)=0:=by rw[hl];rfl
  have e2:(sdC d.l:Int)=0:=by rw[hl];rfl
  have h0:(i2 d ex)[0]?=some 0:=rfl;have h1:(i2 d ex)[1]?=some 0:=by show some (sdN d.l:Int)=_;rw[e1]
  have h2:(i2 d ex)[2]?=some 0:=by show some (sdC d.l:Int)=_;rw[e2]
  obtain⟨v,h1,c1,o,o1,Zo,fr,le,_,_,fo,av⟩:=ou (hc _ (aE ..)) (h:=d.mem wd) (ints:=i2 d ex) (bl:=[1003]) (vs:=ms++[.nils]) (by rw[hn];show ex.length+1+1+1=1+(2+ex.length);omega) h0 rfl rfl (fV (fV hfs (fV (a:=[((0,0),(1,0))]) (pA h0 h1 (by omega)) (pA h1 h0 (by omega)))) (fV (a:=[((0,0),(2,0))]) (pA h0 h2 (by omega)) (pA h2 h0 (by omega))))
   (fun Z q _=>(hm Z q).append (.cons (.k _) .nil)) List.nodup_nil (fun i U ao q=>by simp at q) (by simp) Av (by show 2<1005;omega)
  exact⟨v,⟨h1,c1⟩,_,o,o1,Zo,le,fo,av⟩
 |some p=>
  obtain⟨L,n,c⟩:=p;obtain⟨ll,lc,lr⟩:=ok.l.at' L n c hl;have n1:sdN d.l=n:=by rw[hl];rfl
  have n2:sdC d.l=c:=by rw[hl];rfl
  have f4:=fw.l;have h0:(i2 d ex)[0]?=some 0:=rfl;have h1:(i2 d ex)[1]?=some (n:Int):=by show some (sdN d.l:Int)=_;rw[n1]
  have h2:(i2 d ex)[2]?=some (c:Int):=by show some (sdC d.l:Int)=_;rw[n2]
  have num:∀ {Z:NV} {x:Nat} {z:Int},Z.ints=i2 d ex->(i2 d ex)[x]?=some z->Num Z (x,0) z:=fun q w=>⟨_,by rw[q];exact w,(bG _).symm⟩;obtain⟨v,h1,c1,o,o1,Zo,fr,le,_,_,fo,av⟩:=ou (hc _ (aB _ (aE ..))) (h:=d.mem wd) (ints:=i2 d ex) (bl:=[1003]) (vs:=ms++[sdV 1003 (some (L,n,c))]) (by rw[hn];show ex.length+1+1+1=1+(2+ex.length);omega) h0 rfl rfl (fV (fV hfs (fV (a:=[((0,0),(1,0))]) (pA h0 h1 (by omega)) (pA h1 h0 (by omega)))) (pA h1 h2 (by omega)))
   (fun Z q w=>(hm Z q).append (.cons (Cx (by rw[w];rfl) (num q h1) (num q h2)) .nil)) (by simp) (fun i U ao q=>by
     match i,q with
     |0,q=>cases q;exact⟨1003,_,rfl,uE (.inr (.inr (.inr (.inl ⟨rfl,rfl⟩)))) hl,by show 1003<1005;omega,by omega,fun Z q w=>.ro ((MO (n:=n) ll lr).cr (num q h1))⟩
     |i+1,q=>simp at q) (by simp) Av (by show 2<1005;omega)
  exact⟨v,⟨h1,c1⟩,_,o,o1,Zo,le,fo,av⟩
theorem Gr {Zo:NV}{m:List (Nat×AO)}{o:OUT}{v:V}{y x1 x2:Nat}(ho:o∈[o1 ni (.tp [.b (.lt (0,0) (y,0)),I x1,I x2]) m (rg x2 0 17)])(le:∀ {x:Nat} {z:Int},(i2 d ex)[x]?=some z->Zo.ints[x]?=some z)(fo:∀ g,g∈o.fs->Holds Zo g)(av:AV Zo o.res v):
  ∃ b e x,v=.tuple [.bool b,.int .i64 e,.int .i64 x]/\0<=x/\x<=17:=by
 rw[aj.1 ho] at fo av;have av:AV Zo (.tp [.b (.lt (0,0) (y,0)),I x1,I x2]) v:=av;have k:∀ c:Int,Num Zo (0,c) c:=fun c=>⟨0,le rfl,by simp⟩;cases av with
 |tp h=>
  cases h with
  |cons a h=>
   cases h with
   |cons a1 h=>
    cases h with
    |cons a2 h=>cases h;obtain⟨b,rfl⟩:=wj a;obtain⟨e,rfl,_⟩:=Cy a1;obtain⟨x,rfl,hx⟩:=Cy a2;have h1:=hle (fo _ (aE ..)) (k 0) hx;have h2:=hle (fo _ (aB _ (aE ..))) hx (k 17);exact⟨b,e,x,rfl,h1,h2⟩
theorem AA (K:Kept B lz)(ok:d.Ok)(fw:Few d)(e:C.spec f=Nn 0 [] [] fun m=>[o1 3 (.tp [.b (.lt (0,0) (3,0)),I 4,I 5]) m (rg 5 0 17)])(hf:f∈lz):∃ b e x,ny wd d f [sdV 1003 d.l] (.tuple [.bool b,.int .i64 e,.int .i64 x])/\0<=x/\x<=17:=by obtain⟨v,c1,m,o,o1,Zo,le,fo,av⟩:=Gq (wd:=wd) K ok fw e hf (ex:=[]) rfl trivial (ms:=[]) fun Z h=>.nil;obtain⟨b,e,x,rfl,y1,y2⟩:=Gr o1 le fo av;exact⟨b,e,x,c1,y1,y2⟩
theorem MU (ok:d.Ok):HB (i2 d (rq d)) (jC 3):=by obtain⟨c1,c2,c3,c4,c5,c6,c7,c8,c9,hc⟩:=uG ok;have hz:=ok.c;rw[hc] at hz;have r1:=hz c1 (by simp);have r2:=hz c2 (by simp);have r3:=hz c3 (by simp);have r4:=hz c4 (by simp);have r5:=hz c5 (by simp);have r6:=hz c6 (by simp);have r7:=hz c7 (by simp);have r8:=hz c8 (by simp);have r9:=hz c9 (by simp);have r10:=ok.u;unfold I64 nX lA at *;unfold i2 rq;rw[hc];simp only[jC,rg,anyI,AU,ik,bM,cN,nX,lA,HB];repeat' first|exact trivial|exact⟨_,_,rfl,rfl,by omega⟩|apply And.intro
theorem Gs (K:Kept B lz)(ok:d.Ok)(fw:Few d):∃ b e x,ny wd d 38 [d.qI,sdV 1003 d.l] (.tuple [.bool b,.int .i64 e,.int .i64 x])/\0<=x/\x<=17:=by obtain⟨v,c1,m,o,o1,Zo,le,fo,av⟩:=Gq (wd:=wd) K ok fw (by kernel_rfl:C.spec 38=Nn 10 [D6 3] (jC 3) fun m=>[o1 3 (.tp [.b (.lt (0,0) (13,0)),I 14,I 15]) m (rg 15 0 17)]) (by decide) (ex:=rq d) (MT ok).symm (MU ok) (ms:=[d.qI]) fun Z h=>.cons (Aw ok _ (fun j=>.inl (by have:i2 d (rq d)=[0,(sdN d.l:Int),(sdC d.l:Int)]++rq d:=rfl;rw[this,zaw (by simp)];simp)) h) .nil;obtain⟨b,e,x,rfl,y1,y2⟩:=Gr o1 le fo av;exact⟨b,e,x,c1,y1,y2⟩
end
end Go.Proofs.YtboaighhnghpdaaGreatDoor
namespace Go.Proofs.YtboaighhnghpdaaGreatDoor
open Go Go.Ev Go.Ae Go.Ae.C Go.RowKit
set_option maxRecDepth 100000
variable {b n:Nat}{L:List V}
def PV (v:V):Prop:=∀ (Y Y':Ren) (c:Value),Rel Y v c->Rel Y' v c
theorem kj {k:IntKind}{z:Int}:PV (.int k z):=fun _ _ _ h=>by cases h;exact .int _ _
theorem nB {b:Bool}:PV (.bool b):=fun _ _ _ h=>by cases h;exact .bool _
theorem KR {s:List UInt8}:PV (.str s):=fun _ _ _ h=>by cases h;exact .str _
theorem RZ {l:List V}(h:∀ v,v∈l->PV v):PV (.tuple l):=fun Y Y' c q=>by
 cases q with
 |tuple h1 h2=>exact .tuple h1 fun i v x a b=>h v (aC a) Y Y' x (h2 i v x a b)
theorem Pj {b:Bool}{e x:Int}:PV (.tuple [.bool b,.int .i64 e,.int .i64 x]):=RZ fun v h=>by
 simp only[aq,aA,or_false] at h;rcases h with rfl|rfl|rfl
 .exact nB
 .exact kj
 .exact kj
theorem ym {ks:List EK}(hk:∀ k,k∈ks->k=i64\/k=u32\/k=.str)(h:MM ks L){v:V}(hv:v∈L):PV v:=by
 obtain⟨i,hi⟩:=aX.1 hv;obtain⟨u,k,h1,h2,h3⟩:=h i (ai.1 hi).1;rw[hi] at h1;cases h1;rcases hk k (aC h2) with rfl|rfl|rfl<;>cases h3 ⟨[],[],[],[]⟩;·exact kj
 .exact kj
 .exact KR
theorem sH {e:Option TypeId}(h:∀ v,v∈L->PV v)(Y Y':Ren)(P:Nat×Nat×Nat)(c:Obj)(q:jD Y (.ro e L.length L .leaf) P c):jD Y' (.ro e L.length L .leaf) P c:=by obtain⟨cs,el,fr,h1,h2,h3,h4,h5⟩:=q;exact⟨cs,el,fr,h1,h2,h3,h4,h5.1,fun i v x a b=>h v (aC (oM a)) Y Y' x (h5.2 i v x a b)⟩
def GV (n:Nat)(v:V):Prop:=∀ (Y:Ren) (c:Value),Rel Y v c->Rel (below n Y) v c
theorem PV.gv {v:V}(h:PV v):GV n v:=fun Y c q=>h Y _ c q
theorem R1 {o len c:Nat}(h:b<n):GV n (.slice b o len (.known c)):=fun Y x q=>by
 cases q with
 |sliceK a=>exact .sliceK (by show(if b<n then Y.loc b else none)=_;rw[if_pos h];exact a)
theorem KS {m:Nat}(h:∀ v,v∈L->GV n v):GV n (.agg m L .leaf):=fun Y x q=>by
 cases q with
 |agg h1 h2 h3=>exact .agg h1 h2 fun i v y a b=>h v (aC (jE a).2) Y y (h3 i v y a b)
theorem Gt {vs:List V}(h:∀ v,v∈vs->GV n v)(Y:Ren)(l:List Value)(q:fH Y vs l):fH (below n Y) vs l:=⟨q.1,fun i v x a b=>h v (aC a) Y x (q.2 i v x a b)⟩
def plB (b:Nat):SD->Int
 |none=>0
 |some _=>b
def plC:SD->Int
 |none=>-1
 |some p=>p.2.2
noncomputable section
def iX (d:Acc)(q:Nat->Int):List Int:=d.c++d.u :: (d.s++[plB 1000 d.o,(sdN d.o:Int),plC d.o,plB 1001 d.r,(sdN d.r:Int),plC d.r,plB 1002 d.t,(sdN d.t:Int),plC d.t,plB 1003 d.l,(sdN d.l:Int),plC d.l,plB 1004 d.k,(sdN d.k:Int),plC d.k,
 q 31,q 32,q 33,q 34,q 35,q 36,q 37,q 38,q 39,q 40,q 41,q 42,q 43,q 44,q 45,q 46,q 47,q 48,q 49,q 50])
def hpS (b:Nat):SD->List (Nat×O)
 |none=>[]
 |some p=>[(b,.ro none p.1.length p.1 .leaf)]
def qJ (wd:List V)(d:Acc):List (Nat×O):=(0,.ro (some 0) wd.length wd .leaf) :: (hpS 1000 d.o++(hpS 1001 d.r++(hpS 1002 d.t++(hpS 1003 d.l++hpS 1004 d.k))))
end
section
variable {wd:List V}{d:Acc}{q:Nat->Int}
theorem Pk {S:SD}{p:List V×Nat×Nat}(b:Nat)(h:S=some p):(b,O.ro none p.1.length p.1 .leaf)∈hpS b S:=by rw[h];exact aj.2 rfl
theorem R3 {o:O}(h:(d.mem wd).tr.get b=some o):(b,o)∈qJ wd d\/∃ g,g∈gls/\b=g.1/\o=.ro (some 0) g.2.length g.2 .leaf:=by
 rcases sD h with⟨rfl,rfl⟩|⟨rfl,rfl⟩|⟨S,p,hb,hS,rfl⟩;·exact .inl (aE ..)
 .exact .inr ⟨_,aj.2 rfl,rfl,rfl⟩
 .refine .inl (aB _ ?_);simp only[aK];rcases hb with⟨rfl,rfl⟩|⟨rfl,rfl⟩|⟨rfl,rfl⟩|⟨rfl,rfl⟩|⟨rfl,rfl⟩
  .exact .inl (Pk _ hS)
  .exact .inr (.inl (Pk _ hS))
  .exact .inr (.inr (.inl (Pk _ hS)))
  .exact .inr (.inr (.inr (.inl (Pk _ hS))))
  .exact .inr (.inr (.inr (.inr (Pk _ hS))))
theorem AB {x:Nat×O}(h:x∈qJ wd d):(d.mem wd).tr.get x.1=some x.2:=by
 have one:∀ {b:Nat} {S:SD},((b=1000/\S=d.o)\/(b=1001/\S=d.r)\/(b=1002/\S=d.t)\/(b=1003/\S=d.l)\/(b=1004/\S=d.k))->x∈hpS b S->(d.mem wd).tr.get x.1=some x.2:=fun {b S} hb hx=>by
  cases hS:S with
  |none=>rw[hS] at hx;cases hx
  |some p=>have:=uE (wd:=wd) hb hS;rw[hS] at hx;rw[aj.1 hx];exact this
 unfold qJ at h;rcases aq.1 h with rfl|h
 .exact Pb
 .simp only[aK] at h;rcases h with h|h|h|h|h
  .exact one (.inl ⟨rfl,rfl⟩) h
  .exact one (.inr (.inl ⟨rfl,rfl⟩)) h
  .exact one (.inr (.inr (.inl ⟨rfl,rfl⟩))) h
  .exact one (.inr (.inr (.inr (.inl ⟨rfl,rfl⟩)))) h
  .exact one (.inr (.inr (.inr (.inr ⟨rfl,rfl⟩)))) h
theorem R4:((qJ wd d).map Prod.fst).Nodup:=by unfold qJ;cases d.o<;>cases d.r<;>cases d.t<;>cases d.l<;>cases d.k<;>simp[hpS]
theorem KT {o:O}(h:(d.mem wd).tr.get b=some o):b<1005:=by rcases sD h with⟨rfl,_⟩|⟨rfl,_⟩|⟨_,_,hb,_,_⟩<;>omega
theorem Jt (ok:d.Ok)(hw:∀ v,v∈wd->PV v):DD (d.mem wd):=by
 refine⟨fun b o h=>yl h,fun b o h=>KT h,fun b o h=>?_,fun b os h=>?_,by show 1000<=1005;omega⟩
 .rcases sD h with⟨_,rfl⟩|⟨_,rfl⟩|⟨S,p,hb,hS,rfl⟩;·exact sH hw
  .refine sH (L:=Gd) fun v hv=>?_;simp only[Gd,aq,aA,or_false] at hv;rcases hv with rfl|rfl|rfl|rfl<;>exact kj
  .refine sH fun v hv=>?_;obtain⟨L,n,c⟩:=p;rcases hb with⟨_,rfl⟩|⟨_,rfl⟩|⟨_,rfl⟩|⟨_,rfl⟩|⟨_,rfl⟩
   .exact ym (ks:=Au) (by simp[Au]) (ok.o.at' _ _ _ hS).2.2 hv
   .exact ym (ks:=D3) (by simp[D3]) (ok.r.at' _ _ _ hS).2.2 hv
   .exact ym (ks:=[i64]) (by simp) (ok.t.at' _ _ _ hS).2.2 hv
   .exact ym (ks:=oX) (by simp[oX]) (ok.l.at' _ _ _ hS).2.2 hv
   .exact ym (ks:=yA) (by simp[yA]) (ok.k.at' _ _ _ hS).2.2 hv
 .rcases sD h with⟨_,e⟩|⟨_,e⟩|⟨S,p,hb,hS,e⟩<;>cases e
theorem AD (S:SD)(h:b<1005):GV 1005 (sdV b S):=by
 cases S with
 |none=>exact fun Y c q=>by cases q;exact .nils
 |some p=>exact R1 h
theorem sI:GV 1005 d.kh:=KS fun v hv=>by
 simp only[aK,aq,aA,or_false,aJ] at hv;rcases hv with(rfl|rfl|rfl|rfl|rfl)|⟨z,_,rfl⟩
 .exact AD _ (by omega)
 .exact AD _ (by omega)
 .exact AD _ (by omega)
 .exact AD _ (by omega)
 .exact AD _ (by omega)
 .exact kj.gv
theorem Gu:GV 1005 d.qI:=KS fun v hv=>by
 simp only[aK,aq,aA,or_false,aJ] at hv;rcases hv with⟨z,_,rfl⟩|rfl
 .exact kj.gv
 .exact kj.gv
theorem Gv (ok:d.Ok):(∀ j,j<10->(0 :: iX d q)[1+j]?=(rq d)[j]?)/\(∀ j,j<5->(0 :: iX d q)[11+j]?=d.s[j]?)/\(∀ j,(0 :: iX d q)[16+j]?=[plB 1000 d.o,(sdN d.o:Int),plC d.o,plB 1001 d.r,(sdN d.r:Int),plC d.r,plB 1002 d.t,(sdN d.t:Int),plC d.t,plB 1003 d.l,(sdN d.l:Int),plC d.l,plB 1004 d.k,(sdN d.k:Int),plC d.k,
 q 31,q 32,q 33,q 34,q 35,q 36,q 37,q 38,q 39,q 40,q 41,q 42,q 43,q 44,q 45,q 46,q 47,q 48,q 49,q 50][j]?):=by
 obtain⟨z1,z2,z3,z4,z5,hs⟩:=uF ok;obtain⟨c1,c2,c3,c4,c5,c6,c7,c8,c9,hc⟩:=uG ok;unfold iX rq;rw[hs,hc];refine⟨fun j hj=>?_,fun j hj=>?_,fun j=>?_⟩
 .match j,hj with
  |0,_|1,_|2,_|3,_|4,_|5,_|6,_|7,_|8,_|9,_=>rfl
 .match j,hj with
  |0,_|1,_|2,_|3,_|4,_=>rfl
 .rw[bp];rfl
theorem Gw (ok:d.Ok):(iX d q).length=50:=by simp[iX,ok.s5,ok.c9]
theorem DO {Z:NV}{U x:Nat}{S:SD}(h1:Num Z (x,0) (plB b S))(h2:Num Z (x+1,0) (sdN S:Int))(h3:Num Z (x+2,0) (plC S)):AV Z (CL.snB U x) (sdV b S):=by
 cases S with
 |none=>exact .sn0 h2 h3
 |some p=>exact .sn h1 h2 h3
end
end Go.Proofs.YtboaighhnghpdaaGreatDoor
namespace Go.Proofs.YtboaighhnghpdaaGreatDoor
open Go Go.Ev Go.Ae Go.Ae.C Go.RowKit
set_option maxRecDepth 100000
variable {Z:NV}
structure Aud (wd:List V)(d:Acc)(q:Nat->Int)(f:FuncId)(vs:List V)(x:Nat):Prop where
 at':∃ b,ny wd d f vs (.tuple [.bool b,.int .i64 (q (x+1)),.int .i64 (q (x+2))])/\0<=q (x+2)/\((b=true/\q (x+2)=0/\q x=1)\/((b=false\/1<=q (x+2))/\q x=0))
structure Ans (wd:List V)(d:Acc)(q:Nat->Int):Prop where
 few:ny wd d 4 [d.kh] (.bool (decide (0<q 31)))
 fw:1<=q 31->Few d
 r32:0<=q 32/\q 32<=17
 chk:1<=q 31->ny wd d 16 [d.kh,d.qI] (.int .i64 (q 32))
 ch:1<=q 31->q 32<=0->Chk d
 quota:1<=q 31->q 32<=0->∀ c,d.c[5]?=some c->ny wd d 20 [d.kh,.int .i64 c] (.int .i64 (q 33))/\-1<=q 33/\q 33+1<=sdN d.o
 stale:1<=q 31->q 32<=0->ny wd d 21 [d.kh] (.int .i64 (q 34))/\-1<=q 34/\q 34+1<=sdN d.o
 leaks:1<=q 31->q 32<=0->ny wd d 22 [d.kh] (.bool (decide (0<q 35)))
 follows:1<=q 31->q 32<=0->ny wd d 30 [d.kh,d.qI] (.bool (decide (0<q 36)))
 counts:1<=q 31->q 32<=0->ny wd d 39 [d.kh] (.bool (decide (0<q 37)))
 a33:1<=q 31->q 32<=0->Aud wd d q 33 [sdV 1003 d.l] 38
 a35:1<=q 31->q 32<=0->Aud wd d q 35 [sdV 1003 d.l] 41
 a37:1<=q 31->q 32<=0->Aud wd d q 37 [sdV 1003 d.l] 44
 a38:1<=q 31->q 32<=0->Aud wd d q 38 [d.qI,sdV 1003 d.l] 47
 q50:(1<=q 44/\1<=q 47/\q 50=1)\/(¬ (1<=q 44/\1<=q 47)/\q 50=0)
theorem Pm (b:Bool):∃ z:Int,decide (0<z)=b:=by
 cases b;·exact⟨0,rfl⟩
 .exact⟨1,rfl⟩
theorem R5 {wd:List V}{d:Acc}{f:FuncId}{vs:List V}(h:∃ b e x,ny wd d f vs (.tuple [.bool b,.int .i64 e,.int .i64 x])/\0<=x/\x<=17):∃ y e x:Int,∃ b,ny wd d f vs (.tuple [.bool b,.int .i64 e,.int .i64 x])/\0<=x/\((b=true/\x=0/\y=1)\/((b=false\/1<=x)/\y=0)):=by
 obtain⟨b,e,x,h1,h2,_⟩:=h;by_cases hx:b=true/\x=0;·exact⟨1,e,x,b,h1,h2,.inl ⟨hx.1,hx.2,rfl⟩⟩
 .refine⟨0,e,x,b,h1,h2,.inr ⟨?_,rfl⟩⟩;cases b with
  |false=>exact .inl rfl
  |true=>exact .inr (by have:¬ x=0:=fun e=>hx ⟨rfl,e⟩;omega)
section
variable {wd:List V}{d:Acc}
theorem MV {B:TH}(K:Kept B lz)(ok:d.Ok)(R:Real wd d):∃ q,Ans wd d q:=by
 obtain⟨b,a4,fw⟩:=MR (wd:=wd) K ok;obtain⟨z31,h31⟩:=Pm b;have hb:1<=z31->b=true:=fun h=>by rw[<- h31];exact decide_eq_true (by omega)
 obtain⟨z32,r1,r2,h32⟩:∃ z:Int,0<=z/\z<=17/\(1<=z31->ny wd d 16 [d.kh,d.qI] (.int .i64 z)/\(z<=0->Chk d)):=by
  by_cases h:1<=z31;·obtain⟨z,a,b1,c,e⟩:=Gk (wd:=wd) K ok (fw (hb h)) R;exact⟨z,b1,c,fun _=>⟨a,e⟩⟩
  .exact⟨0,by omega,by omega,fun q=>absurd q h⟩
 have both:∀ {α:Type} {p:α->Prop} [Inhabited α],(Few d->Chk d->∃ a,p a)->∃ a,1<=z31->z32<=0->p a:=fun {α p} _ h=>by
  by_cases h1:1<=z31
  .by_cases h2:z32<=0;·obtain⟨a,ha⟩:=h (fw (hb h1)) ((h32 h1).2 h2);exact⟨a,fun _ _=>ha⟩
   .exact⟨default,fun _ q=>absurd q h2⟩
  .exact⟨default,fun q=>absurd q h1⟩
 obtain⟨c,hc,_⟩:=Ph ok;obtain⟨z33,h33⟩:=both fun fw ch=>Gm (wd:=wd) K ok fw ch hc;obtain⟨z34,h34⟩:=both fun fw ch=>Gn (wd:=wd) K ok fw ch;have bo:∀ {f:FuncId} {vs:List V},(Few d->Chk d->∃ b,ny wd d f vs (.bool b))->Few d->Chk d->∃ z:Int,ny wd d f vs (.bool (decide (0<z))):=fun {f vs} h fw ch=>by obtain⟨b,hb⟩:=h fw ch;obtain⟨z,hz⟩:=Pm b;exact⟨z,by rw[hz];exact hb⟩
 obtain⟨z35,h35⟩:=both (bo fun fw ch=>Gp (wd:=wd) K ok fw ch);obtain⟨z36,h36⟩:=both (bo fun fw ch=>Az (wd:=wd) K ok fw ch);obtain⟨z37,h37⟩:=both (bo fun fw ch=>DN (wd:=wd) K ok fw ch);have au:∀ {f:FuncId} {vs:List V},(Few d->∃ b e x,ny wd d f vs (.tuple [.bool b,.int .i64 e,.int .i64 x])/\0<=x/\x<=17)->∃ t:Int×Int×Int,1<=z31->z32<=0->∃ b,ny wd d f vs (.tuple [.bool b,.int .i64 t.2.1,.int .i64 t.2.2])/\0<=t.2.2/\((b=true/\t.2.2=0/\t.1=1)\/((b=false\/1<=t.2.2)/\t.1=0)):=fun {f vs} h=>both fun fw _=>by obtain⟨y,e,x,r⟩:=R5 (h fw);exact⟨(y,e,x),r⟩
 obtain⟨⟨y1,e1,x1⟩,g1⟩:=au fun fw=>AA (wd:=wd) K ok fw (f:=33) (by kernel_rfl) (by decide);obtain⟨⟨y2,e2,x2⟩,g2⟩:=au fun fw=>AA (wd:=wd) K ok fw (f:=35) (by kernel_rfl) (by decide);obtain⟨⟨y3,e3,x3⟩,g3⟩:=au fun fw=>AA (wd:=wd) K ok fw (f:=37) (by kernel_rfl) (by decide);obtain⟨⟨y4,e4,x4⟩,g4⟩:=au fun fw=>Gs (wd:=wd) K ok fw;obtain⟨z50,h50⟩:∃ z:Int,(1<=y3/\1<=y4/\z=1)\/(¬ (1<=y3/\1<=y4)/\z=0):=by
  by_cases h:1<=y3/\1<=y4;·exact⟨1,.inl ⟨h.1,h.2,rfl⟩⟩
  .exact⟨0,.inr ⟨h,rfl⟩⟩
 refine⟨fun n=>match n with
  |31=>z31|32=>z32|33=>z33|34=>z34|35=>z35|36=>z36|37=>z37
  |38=>y1|39=>e1|40=>x1|41=>y2|42=>e2|43=>x2|44=>y3|45=>e3|46=>x3|47=>y4|48=>e4|49=>x4|50=>z50|_=>0,?_⟩
 exact⟨by show ny wd d 4 [d.kh] (.bool (decide (0<z31)));rw[h31];exact a4,fun h=>fw (hb h),⟨r1,r2⟩,fun h=>(h32 h).1,fun h=>(h32 h).2,fun h h' c' hc'=>by rw[hc] at hc';cases hc';exact h33 h h',h34,h35,h36,h37,fun h h'=>⟨g1 h h'⟩,fun h h'=>⟨g2 h h'⟩,fun h h'=>⟨g3 h h'⟩,fun h h'=>⟨g4 h h'⟩,h50⟩
variable {q:Nat->Int}
theorem zn (ok:d.Ok)(h:Z.ints=0 :: iX d q){j:Nat}{z:Int}(hj:[plB 1000 d.o,(sdN d.o:Int),plC d.o,plB 1001 d.r,(sdN d.r:Int),plC d.r,plB 1002 d.t,(sdN d.t:Int),plC d.t,plB 1003 d.l,(sdN d.l:Int),plC d.l,plB 1004 d.k,(sdN d.k:Int),plC d.k,
 q 31,q 32,q 33,q 34,q 35,q 36,q 37,q 38,q 39,q 40,q 41,q 42,q 43,q 44,q 45,q 46,q 47,q 48,q 49,q 50][j]?=some z):Num Z (16+j,0) z:=⟨z,by rw[h,(Gv ok).2.2];exact hj,(bG _).symm⟩
theorem z0 (h:Z.ints=0 :: iX d q)(c:Int):Num Z (0,c) c:=⟨0,by rw[h];rfl,by simp⟩
theorem lO (ok:d.Ok)(h:Z.ints=0 :: iX d q):AV Z CL.acc d.kh:=by
 obtain⟨z1,z2,z3,z4,z5,hs⟩:=uF ok;have e:d.kh=.agg 10 [sdV 1000 d.o,sdV 1001 d.r,sdV 1002 d.t,sdV 1003 d.l,sdV 1004 d.k,.int .i64 z1,.int .i64 z2,.int .i64 z3,.int .i64 z4,.int .i64 z5] .leaf:=by unfold Acc.kh;rw[hs];rfl
 have n:∀ (j:Nat) (z:Int),j<5->d.s[j]?=some z->Num Z (11+j,0) z:=fun j z hj p=>⟨z,by rw[h,(Gv ok).2.1 j hj];exact p,(bG _).symm⟩;rw[hs] at n;rw[e];exact Jp (l:=[CL.snB 0 16,CL.snB 0 19,CL.snB 0 22,CL.snB 0 25,CL.snB 0 28,I 11,I 12,I 13,I 14,I 15])
  (.cons (DO (zn ok h (j:=0) rfl) (zn ok h (j:=1) rfl) (zn ok h (j:=2) rfl)) (.cons (DO (zn ok h (j:=3) rfl) (zn ok h (j:=4) rfl) (zn ok h (j:=5) rfl)) (.cons (DO (zn ok h (j:=6) rfl) (zn ok h (j:=7) rfl) (zn ok h (j:=8) rfl)) (.cons (DO (zn ok h (j:=9) rfl) (zn ok h (j:=10) rfl) (zn ok h (j:=11) rfl)) (.cons (DO (zn ok h (j:=12) rfl) (zn ok h (j:=13) rfl) (zn ok h (j:=14) rfl))
  (.cons (.i (n 0 _ (by omega) rfl)) (.cons (.i (n 1 _ (by omega) rfl)) (.cons (.i (n 2 _ (by omega) rfl)) (.cons (.i (n 3 _ (by omega) rfl)) (.cons (.i (n 4 _ (by omega) rfl)) .nil)))))))))) rfl
theorem rz (ok:d.Ok)(h:Z.ints=0 :: iX d q):AV Z CL.cfg d.qI:=Aw ok _ (fun j=>by
 by_cases hj:j<10;·exact .inl ((Gv ok).1 j hj)
 .exact .inr (by omega)) h
theorem Pn (ok:d.Ok)(h:Z.ints=0 :: iX d q):AV Z (CL.snA 25) (sdV 1003 d.l):=DO (zn ok h (j:=9) rfl) (zn ok h (j:=10) rfl) (zn ok h (j:=11) rfl)
theorem jR {M:TH}(hB:mL M 99 (iX d q) (qJ wd d))(ok:d.Ok)(hw:∀ v,v∈wd->PV v){f:FuncId}{args:List A}{fs:List (LE×LE)}{outs:List OUT}{vs0:List V}
  (hpin:args.all QZ=true)(hv0:∀ Z:NV,Z.ints=0 :: iX d q->AVs Z args vs0)(hg:∀ v,v∈vs0->GV 1005 v)(hfs:fs.all (fun g=>!(Nat.beq g.1.1 0&&Nat.beq g.2.1 0))=true)
  (hq:(∀ g,g∈fs->Holds ⟨0 :: iX d q,[],[],[]⟩ g)->∃ v,ny wd d f vs0 v/\PV v/\∃ r o,⟨0,0,0,r,[CL.ob9],o⟩∈outs/\∀ Z:NV,Z.ints=0 :: iX d q->(∀ g,g∈o->Holds Z g)/\AV Z r v):fP Tryz.prog M f ⟨50,0,1,args,[CL.ob9],fs,outs⟩:=by
 refine O6 (h0:=d.mem wd) (vs0:=vs0) hB rfl (Jt ok hw) (fun b o=>R3) (fun a ha=>bz.1 hpin a ha) hv0 (fun Y l=>Gt hg Y l) (fun g hg'=>by
  have:=bz.1 hfs g hg';cases h:(Nat.beq g.1.1 0&&Nat.beq g.2.1 0) with
  |false=>rfl
  |true=>rw[h] at this;cases this) fun hf=>?_
 obtain⟨v,⟨h1,c1⟩,pv,r,o,ho,hh⟩:=hq fun g hg'=>hf _ rfl g hg';exact⟨v,h1,c1,pv,_,ho,rfl,rfl,rfl,rfl,hh⟩
end
end Go.Proofs.YtboaighhnghpdaaGreatDoor
namespace Go.Proofs.YtboaighhnghpdaaGreatDoor
open Go Go.Ev Go.Ae Go.Ae.C Go.RowKit
set_option maxRecDepth 100000
variable {x:Nat}{M:TH}
section
variable {wd:List V}{d:Acc}{q:Nat->Int}
theorem f31 (ok:d.Ok)(h:∀ g,g∈CL.JI->Holds ⟨0 :: iX d q,[],[],[]⟩ g):1<=q 31:=
 hle (h _ (aE ..)) (z0 (d:=d) (q:=q) rfl 1) (zn ok rfl (j:=15) rfl)
theorem f32 (ok:d.Ok)(h:∀ g,g∈CL.okT->Holds ⟨0 :: iX d q,[],[],[]⟩ g):1<=q 31/\q 32<=0:=
 ⟨f31 ok fun g hg=>h g (dK _ hg),hle (h ((32,0),(0,0)) (by simp[CL.okT,rg])) (zn ok rfl (j:=16) rfl) (z0 (d:=d) (q:=q) rfl 0)⟩
theorem Cz (ok:d.Ok){Z:NV}(h:Z.ints=0 :: iX d q){z:Int}(hx:Num Z (x,0) z):AV Z (CL.tru x) (.bool (decide (0<z))):=.b (.lt (z0 h 0) hx)
theorem MW (hB:mL M 99 (iX d q) (qJ wd d))(ok:d.Ok)(hw:∀ v,v∈wd->PV v)(an:Ans wd d q):∀ cn,cn∈CL.spec 4->fP Tryz.prog M 4 cn:=fun cn h=>by rw[aj.1 (show cn∈[(⟨50,0,1,[CL.acc],[CL.ob9],[],[⟨0,0,0,CL.tru 31,[CL.ob9],[]⟩]⟩:CN)] from h)];refine jR hB ok hw (vs0:=[d.kh]) rfl (fun Z h=>.cons (lO ok h) .nil) (fun v hv=>by rw[aj.1 hv];exact sI) rfl fun _=>?_;exact⟨_,an.few,nB,_,_,aj.2 rfl,fun Z h=>⟨fun g hg=>(nomatch hg),Cz ok h (zn ok h (j:=15) rfl)⟩⟩
theorem MX (hB:mL M 99 (iX d q) (qJ wd d))(ok:d.Ok)(hw:∀ v,v∈wd->PV v)(an:Ans wd d q):∀ cn,cn∈CL.spec 16->fP Tryz.prog M 16 cn:=fun cn h=>by
 rw[aj.1 (show cn∈[(⟨50,0,1,[CL.acc,CL.cfg],[CL.ob9],CL.JI,[⟨0,0,0,I 32,[CL.ob9],rg 32 0 17⟩]⟩:CN)] from h)];refine jR hB ok hw (vs0:=[d.kh,d.qI]) rfl (fun Z h=>.cons (lO ok h) (.cons (rz ok h) .nil)) (fun v hv=>?_) (by decide) fun hf=>?_
 .simp only[aq,aA,or_false] at hv;rcases hv with rfl|rfl
  .exact sI
  .exact Gu
 .refine⟨_,an.chk (f31 ok hf),kj,_,_,aj.2 rfl,fun Z h=>⟨fun g hg=>?_,.i (zn ok h (j:=16) rfl)⟩⟩;simp only[rg,aq,aA,or_false] at hg;rcases hg with rfl|rfl
  .exact⟨_,_,z0 h 0,zn ok h (j:=16) rfl,an.r32.1⟩
  .exact⟨_,_,zn ok h (j:=16) rfl,z0 h 17,an.r32.2⟩
theorem Gx (ok:d.Ok){Z:NV}(h:Z.ints=0 :: iX d q){z:Int}(hx:Num Z (x,0) z)(h1 : -1<=z)(h2:z+1<=sdN d.o):∀ g,g∈[((0,-1),(x,0)),((x,1),(17,0))]->Holds Z g:=fun g hg=>by
 simp only[aq,aA,or_false] at hg;rcases hg with rfl|rfl
 .exact⟨_,_,z0 h (-1),hx,h1⟩
 .exact⟨_,_,hx.plus 1,zn ok h (j:=1) rfl,h2⟩
theorem Gy (hB:mL M 99 (iX d q) (qJ wd d))(ok:d.Ok)(hw:∀ v,v∈wd->PV v)(an:Ans wd d q):∀ cn,cn∈CL.spec 20->fP Tryz.prog M 20 cn:=fun cn h=>by
 rw[aj.1 (show cn∈[(⟨50,0,1,[CL.acc,I 6],[CL.ob9],CL.okT,[⟨0,0,0,I 33,[CL.ob9],[((0,-1),(33,0)),((33,1),(17,0))]⟩]⟩:CN)] from h)];obtain⟨c,hc,_⟩:=Ph ok;refine jR hB ok hw (vs0:=[d.kh,.int .i64 c]) rfl (fun Z h=>.cons (lO ok h) (.cons (.i ⟨c,?_,(bG _).symm⟩) .nil)) (fun v hv=>?_) (by decide) fun hf=>?_;·rw[h,(Gv ok).1 5 (by omega)];unfold rq;rw[dj (by rw[ok.c9];omega)];exact hc
 .simp only[aq,aA,or_false] at hv;rcases hv with rfl|rfl
  .exact sI
  .exact kj.gv
 .obtain⟨g1,g2⟩:=f32 ok hf;obtain⟨a,b,c⟩:=an.quota g1 g2 c hc;exact⟨_,a,kj,_,_,aj.2 rfl,fun Z h=>⟨Gx ok h (zn ok h (j:=17) rfl) b c,.i (zn ok h (j:=17) rfl)⟩⟩
theorem Gz (hB:mL M 99 (iX d q) (qJ wd d))(ok:d.Ok)(hw:∀ v,v∈wd->PV v)(an:Ans wd d q):∀ cn,cn∈CL.spec 21->fP Tryz.prog M 21 cn:=fun cn h=>by rw[aj.1 (show cn∈[(⟨50,0,1,[CL.acc],[CL.ob9],CL.okT,[⟨0,0,0,I 34,[CL.ob9],[((0,-1),(34,0)),((34,1),(17,0))]⟩]⟩:CN)] from h)];refine jR hB ok hw (vs0:=[d.kh]) rfl (fun Z h=>.cons (lO ok h) .nil) (fun v hv=>by rw[aj.1 hv];exact sI) (by decide) fun hf=>?_;obtain⟨g1,g2⟩:=f32 ok hf;obtain⟨a,b,c⟩:=an.stale g1 g2;exact⟨_,a,kj,_,_,aj.2 rfl,fun Z h=>⟨Gx ok h (zn ok h (j:=18) rfl) b c,.i (zn ok h (j:=18) rfl)⟩⟩
theorem GB (hB:mL M 99 (iX d q) (qJ wd d))(ok:d.Ok)(hw:∀ v,v∈wd->PV v)(an:Ans wd d q):∀ cn,cn∈CL.spec 22->fP Tryz.prog M 22 cn:=fun cn h=>by rw[aj.1 (show cn∈[(⟨50,0,1,[CL.acc],[CL.ob9],CL.okT,[⟨0,0,0,CL.tru 35,[CL.ob9],[]⟩]⟩:CN)] from h)];refine jR hB ok hw (vs0:=[d.kh]) rfl (fun Z h=>.cons (lO ok h) .nil) (fun v hv=>by rw[aj.1 hv];exact sI) (by decide) fun hf=>?_;obtain⟨g1,g2⟩:=f32 ok hf;exact⟨_,an.leaks g1 g2,nB,_,_,aj.2 rfl,fun Z h=>⟨fun g hg=>(nomatch hg),Cz ok h (zn ok h (j:=19) rfl)⟩⟩
theorem DP (hB:mL M 99 (iX d q) (qJ wd d))(ok:d.Ok)(hw:∀ v,v∈wd->PV v)(an:Ans wd d q):∀ cn,cn∈CL.spec 39->fP Tryz.prog M 39 cn:=fun cn h=>by rw[aj.1 (show cn∈[(⟨50,0,1,[CL.acc],[CL.ob9],CL.okT,[⟨0,0,0,CL.tru 37,[CL.ob9],[]⟩]⟩:CN)] from h)];refine jR hB ok hw (vs0:=[d.kh]) rfl (fun Z h=>.cons (lO ok h) .nil) (fun v hv=>by rw[aj.1 hv];exact sI) (by decide) fun hf=>?_;obtain⟨g1,g2⟩:=f32 ok hf;exact⟨_,an.counts g1 g2,nB,_,_,aj.2 rfl,fun Z h=>⟨fun g hg=>(nomatch hg),Cz ok h (zn ok h (j:=21) rfl)⟩⟩
theorem AE (hB:mL M 99 (iX d q) (qJ wd d))(ok:d.Ok)(hw:∀ v,v∈wd->PV v)(an:Ans wd d q):∀ cn,cn∈CL.spec 30->fP Tryz.prog M 30 cn:=fun cn h=>by
 rw[aj.1 (show cn∈[(⟨50,0,1,[CL.acc,CL.cfg],[CL.ob9],CL.okT,[⟨0,0,0,CL.tru 36,[CL.ob9],[]⟩]⟩:CN)] from h)];refine jR hB ok hw (vs0:=[d.kh,d.qI]) rfl (fun Z h=>.cons (lO ok h) (.cons (rz ok h) .nil)) (fun v hv=>?_) (by decide) fun hf=>?_
 .simp only[aq,aA,or_false] at hv;rcases hv with rfl|rfl
  .exact sI
  .exact Gu
 .obtain⟨g1,g2⟩:=f32 ok hf;exact⟨_,an.follows g1 g2,nB,_,_,aj.2 rfl,fun Z h=>⟨fun g hg=>(nomatch hg),Cz ok h (zn ok h (j:=20) rfl)⟩⟩
theorem GC (ok:d.Ok){f:FuncId}{vs:List V}{j:Nat}(a:Aud wd d q f vs x)(hx:x=16+j)(n0:∀ Z:NV,Z.ints=0 :: iX d q->Num Z (x,0) (q x))(n1:∀ Z:NV,Z.ints=0 :: iX d q->Num Z (x+1,0) (q (x+1)))(n2:∀ Z:NV,Z.ints=0 :: iX d q->Num Z (x+2,0) (q (x+2))){t f':List (LE×LE)}
  (ht:q x=1->∀ Z:NV,Z.ints=0 :: iX d q->∀ g,g∈t->Holds Z g)(hf:q x=0->∀ Z:NV,Z.ints=0 :: iX d q->∀ g,g∈f'->Holds Z g):
  ∃ v,ny wd d f vs v/\PV v/\∃ r o,(⟨0,0,0,r,[CL.ob9],o⟩:OUT)∈[(⟨0,0,0,.tp [.k (.bool true),I (x+1),.k (.int .i64 0)],[CL.ob9],CL.le1 x++t⟩:OUT),⟨0,0,0,.tp [.k (.bool false),I (x+1),I (x+2)],[CL.ob9],CL.le0 x++f'⟩,⟨0,0,0,.tp [.k (.bool true),I (x+1),I (x+2)],[CL.ob9],[((0,1),(x+2,0))]++CL.le0 x++f'⟩] /\
   ∀ Z:NV,Z.ints=0 :: iX d q->(∀ g,g∈o->Holds Z g)/\AV Z r v:=by
 obtain⟨b,a1,a2,a3⟩:=a.at';refine⟨_,a1,Pj,?_⟩;have l0:q x=0->∀ Z:NV,Z.ints=0 :: iX d q->∀ g,g∈CL.le0 x->Holds Z g:=fun e Z h g hg=>by rw[aj.1 hg];exact⟨_,_,n0 Z h,z0 h 0,by omega⟩
 rcases a3 with⟨rfl,e2,e3⟩|⟨hb,e3⟩
 .refine⟨_,_,aE ..,fun Z h=>⟨fun g hg=>?_,?_⟩⟩
  .rcases aK.1 hg with hg|hg;·rw[aj.1 hg];exact⟨_,_,z0 h 1,n0 Z h,by omega⟩
   .exact ht e3 Z h g hg
  .rw[e2];exact .tp (.cons (.k _) (.cons (.i (n1 Z h)) (.cons (.k _) .nil)))
 .cases b with
  |false=>
   refine⟨_,_,aB _ (aE ..),fun Z h=>⟨fun g hg=>?_,.tp (.cons (.k _) (.cons (.i (n1 Z h)) (.cons (.i (n2 Z h)) .nil)))⟩⟩;rcases aK.1 hg with hg|hg
   .exact l0 e3 Z h g hg
   .exact hf e3 Z h g hg
  |true=>
   refine⟨_,_,aB _ (aB _ (aE ..)),fun Z h=>⟨fun g hg=>?_,.tp (.cons (.k _) (.cons (.i (n1 Z h)) (.cons (.i (n2 Z h)) .nil)))⟩⟩;rcases aK.1 hg with hg|hg
   .rcases aK.1 hg with hg|hg;·rw[aj.1 hg];exact⟨_,_,z0 h 1,n2 Z h,by rcases hb with hb|hb;cases hb;exact hb⟩
    .exact l0 e3 Z h g hg
   .exact hf e3 Z h g hg
theorem UL:∀ v,v∈[sdV 1003 d.l]->GV 1005 v:=fun v hv=>by rw[aj.1 hv];exact AD _ (by omega)
theorem AF (hB:mL M 99 (iX d q) (qJ wd d))(ok:d.Ok)(hw:∀ v,v∈wd->PV v){f:FuncId}{j:Nat}{t f':List (LE×LE)}(a:1<=q 31->q 32<=0->Aud wd d q f [sdV 1003 d.l] x)(hx:x=16+j)(n0:∀ Z:NV,Z.ints=0 :: iX d q->Num Z (x,0) (q x))(n1:∀ Z:NV,Z.ints=0 :: iX d q->Num Z (x+1,0) (q (x+1)))(n2:∀ Z:NV,Z.ints=0 :: iX d q->Num Z (x+2,0) (q (x+2)))
  (ht:q x=1->∀ Z:NV,Z.ints=0 :: iX d q->∀ g,g∈t->Holds Z g)(hf:q x=0->∀ Z:NV,Z.ints=0 :: iX d q->∀ g,g∈f'->Holds Z g):∀ cn,cn∈CL.aud x [CL.snA 25] [] t f'->fP Tryz.prog M f cn:=fun cn h=>by
 rw[aj.1 h];refine jR hB ok hw (vs0:=[sdV 1003 d.l]) rfl (fun Z h=>.cons (Pn ok h) .nil) UL (by decide) fun hf0=>?_;obtain⟨g1,g2⟩:=f32 ok fun g hg=>hf0 g (dK _ hg);exact GC ok (a g1 g2) hx n0 n1 n2 ht hf
theorem Po (hB:mL M 99 (iX d q) (qJ wd d))(ok:d.Ok)(hw:∀ v,v∈wd->PV v)(an:Ans wd d q):∀ cn,cn∈CL.spec 33->fP Tryz.prog M 33 cn:=
 AF hB ok hw (t:=[]) (f':=[]) an.a33 (j:=22) rfl (fun Z h=>zn ok h (j:=22) rfl) (fun Z h=>zn ok h (j:=23) rfl) (fun Z h=>zn ok h (j:=24) rfl) (fun _ _ _ g hg=>nomatch hg) (fun _ _ _ g hg=>nomatch hg)
theorem Pp (hB:mL M 99 (iX d q) (qJ wd d))(ok:d.Ok)(hw:∀ v,v∈wd->PV v)(an:Ans wd d q):∀ cn,cn∈CL.spec 35->fP Tryz.prog M 35 cn:=
 AF hB ok hw (t:=[]) (f':=[]) an.a35 (j:=25) rfl (fun Z h=>zn ok h (j:=25) rfl) (fun Z h=>zn ok h (j:=26) rfl) (fun Z h=>zn ok h (j:=27) rfl) (fun _ _ _ g hg=>nomatch hg) (fun _ _ _ g hg=>nomatch hg)
theorem KU (ok:d.Ok)(e:q 50<=0)(Z:NV)(h:Z.ints=0 :: iX d q):∀ g,g∈CL.le0 50->Holds Z g:=fun g hg=>by rw[aj.1 hg];exact⟨_,_,zn ok h (j:=34) rfl,z0 h 0,e⟩
theorem Pq (hB:mL M 99 (iX d q) (qJ wd d))(ok:d.Ok)(hw:∀ v,v∈wd->PV v)(an:Ans wd d q):∀ cn,cn∈CL.spec 37->fP Tryz.prog M 37 cn:=
 AF hB ok hw (t:=[]) (f':=CL.le0 50) an.a37 (j:=28) rfl (fun Z h=>zn ok h (j:=28) rfl) (fun Z h=>zn ok h (j:=29) rfl) (fun Z h=>zn ok h (j:=30) rfl) (fun _ _ _ g hg=>nomatch hg) (fun e=>KU ok (by have e:q 44=0:=e;have:=an.q50;omega))
theorem Pr (hB:mL M 99 (iX d q) (qJ wd d))(ok:d.Ok)(hw:∀ v,v∈wd->PV v)(an:Ans wd d q):∀ cn,cn∈CL.spec 38->fP Tryz.prog M 38 cn:=fun cn h=>by
 rw[aj.1 (show cn∈CL.aud 47 [CL.cfg,CL.snA 25] (CL.le1 44) (CL.le1 50) (CL.le0 50) from h)];refine jR hB ok hw (vs0:=[d.qI,sdV 1003 d.l]) rfl (fun Z h=>.cons (rz ok h) (.cons (Pn ok h) .nil)) (fun v hv=>?_) (by decide) fun hf0=>?_
 .simp only[aq,aA,or_false] at hv;rcases hv with rfl|rfl
  .exact Gu
  .exact AD _ (by omega)
 .obtain⟨g1,g2⟩:=f32 ok fun g hg=>hf0 g (dK _ hg);have g3:1<=q 44:=hle (hf0 ((0,1),(44,0)) (List.mem_append_right _ (aE ..))) (z0 (d:=d) (q:=q) rfl 1) (zn ok rfl (j:=28) rfl);have h50:=an.q50;refine GC ok (an.a38 g1 g2) (x:=47) (j:=31) rfl (fun Z h=>zn ok h (j:=31) rfl) (fun Z h=>zn ok h (j:=32) rfl) (fun Z h=>zn ok h (j:=33) rfl) (fun e Z h g hg=>?_) (fun e=>KU ok (by omega));rw[aj.1 hg];exact⟨_,_,z0 h 1,zn ok h (j:=34) rfl,by omega⟩
end
end Go.Proofs.YtboaighhnghpdaaGreatDoor
namespace Go.Proofs.YtboaighhnghpdaaGreatDoor
open Go Go.Ev Go.Ae Go.Ae.C Go.RowKit
set_option maxRecDepth 100000
theorem CH:∀ {es:List (V×V×Nat)} {ks:List Int},es.map (fun e=>e.1)=ks.map (V.int .i64)->zx es=some ks
 |[],[],_=>rfl
 |e :: l,k :: ks,h=>by simp only[aS,eB] at h;simp only[zx,h.1,CH h.2]
 |[],_ :: _,h=>by simp at h
 |_ :: _,[],h=>by simp at h
theorem GU:∀ {es:List (V×V×Nat)} {clock lo:Nat},(∀ (i:Nat) (e:V×V×Nat),es[i]?=some e->e.2.2=lo+i)->lo+es.length<=clock->Ev.D1 clock lo es=true
 |[],_,_,_,_=>rfl
 |e :: l,clock,lo,h,hc=>by have e0:=h 0 e rfl;have hc:lo+(l.length+1)<=clock:=hc;have:=GU (es:=l) (clock:=clock) (lo:=lo+1) (fun i e' q=>by have:=h (i+1) e' q;omega) (by omega);have e0:e.2.2=lo:=e0;simp only[Ev.D1,e0,ae];exact⟨⟨aH (aF _),aH (by show lo+1<=clock;omega)⟩,this⟩
def Py:List Int:=[1,2,3,4,7,8,9,10]
noncomputable def Om:O:=.cells (some 3) 8 (Py.map (.int .i64)) .leaf
noncomputable def GW:CN:=⟨50,0,5,[.fn 55 [] [P 0]],[st 0 59 [.m 1],(1,.mx (CL.clo (CL.Nj 4)))],[],[⟨0,0,1,.sl 5 oz (0,8) (.al (0,8) 1),[st 0 59 [.m 1],(1,.mx (CL.clo (CL.Nj 4))),st 5 3 [CL.kI 1,CL.kI 2,CL.kI 3,CL.kI 4,CL.kI 7,CL.kI 8,CL.kI 9,CL.kI 10]],[]⟩]⟩
theorem UM:∃ fn c,S.G0.funcs.get 27=some fn/\fn.body=some c:=by
 have:(match S.G0.funcs.get 27 with
  |some fn=>fn.body.isSome
  |none=>false)=true:=by kernel_rfl
 split at this;·rename_i fn h;obtain⟨c,hc⟩:=bu.1 this;exact⟨fn,c,h,hc⟩
 .cases this
theorem UN {M:TH}(hS:kY Tryz.prog 27 55 3)(hu:Tryz.prog.underlying 3=some (.int .i64)):fP Tryz.prog M 27 GW:=fun Z vs h n hl hM=>by
 have at0:(fA GW n).mem.get 0=some (0,(st 0 59 [.m 1]).2):=rfl;have at1:(fA GW n).mem.get 1=some (1,.mx (CL.clo (CL.Nj 4))):=rfl;obtain⟨b,hp,x1,x2,x3,x4⟩:=hM.hr.at' _ _ _ at0;obtain⟨r,es,cl,y1,y2,y3,y4,y5,y6⟩:=hM.RT at1;have y3:h.tr.get r=some (.map es cl):=y3;have li:Z.ints.length=51:=hM.vr.ni;have lb:Z.blks.length=5:=hM.vr.nb;have lo:Z.objs.length=2:=hM.vr.no;have ls:Z.strs.length=0:=hM.vr.ns;have z0:Z.ints[0]?=some 0:=hM.vr.z0;have hargs:=pq (l:=GW.args) (k:=0) (t:=.leaf) (tr:=.leaf) hl hM.er;obtain⟨v0,rfl,a0⟩:∃ v0,vs=[v0]/\AV Z (.fn 55 [] [P 0]) v0:=by
  cases hargs with
  |cons q0 r=>cases r;exact⟨_,rfl,q0⟩
 have e0:v0=.func (.func 55) [] [.ptr b 0]:=by
  cases a0 with
  |fn q1 q2=>
   cases q1;cases q2 with
   |cons q2 q3=>
    cases q3;cases q2 with
    |p hb k=>rw[x1] at hb;cases hb;obtain⟨m,_,e⟩:=k;have e:_=0+m * 0:=e;simp at e;subst e;rfl
 subst e0;obtain⟨m,pat,tr,rfl,hc⟩:∃ m pat tr,hp=[(b,.cells (some 59) m pat tr)]/\cell m pat tr 0=some (.map r):=by
  generalize hao:(st 0 59 [.m 1]).2=ao at x3;cases x3 with
  |@cl t l b' m pat tr hcr=>
   cases hao;refine⟨m,pat,tr,rfl,?_⟩;have hm:m=1:=by have:=hcr.len.fn (gp.plain (Z:=Z) (l:=[.m 1]) fun a ha=>by rw[aj.1 ha];rfl);exact this
   obtain⟨c,hc⟩:=bu.1 (hcr.all 0 (by omega));rw[hc];have:=hcr.at' 0 c hc;generalize hj:(0:Nat)=j at this;cases this with
   |here _ q=>
    cases q with
    |m q=>rw[y1] at q;cases q;rfl
   |skip q k=>cases k
  |_=>cases hao
 have g0:h.tr.get b=some (.cells (some 59) m pat tr):=(x4 _ (aj.2 rfl)).1;have hbr:b<h.next:=(x4 _ (aj.2 rfl)).2.1;have hrr:r<h.next:=by obtain⟨_,hp',w1,w2,_,w4⟩:=hM.hr.at' _ _ _ at1;rw[y2] at w2;cases w2;exact(w4 _ (aj.2 rfl)).2.1
 have hne:b≠r:=fun e=>by subst e;rw[g0] at y3;cases y3
 have hk:zx es=some Py:=CH (by rw[y4];rfl);have hlen:es.length=8:=by have:=congrArg List.length y4;rw[cM,cM] at this;exact this
 have hup:Ev.D1 cl 0 es=true:=GU (fun i e q=>by rw[y6.1 i e q];omega) (by rw[y6.2];omega);have hx:tN 27 55 3 27 [.func (.func 55) [] [.ptr b 0]] h=some (.slice h.next 0 8 (.atl 8 1),h.add Om):=by
  have c2:(rising (nV Py)&&Er Py&&Ev.D1 cl 0 es&&Nat.ble es.length 1000)=true:=by rw[hup,hlen];rfl
  have e1:Nat.beq 27 27=true:=rfl;have e2:Nat.beq 55 55=true:=rfl;have hk:zx es=some (1 :: [2,3,4,7,8,9,10]):=hk;have c2:(rising (nV (1 :: [2,3,4,7,8,9,10]))&&Er (1 :: [2,3,4,7,8,9,10])&&Ev.D1 cl 0 es&&Nat.ble es.length 1000)=true:=c2;simp only[tN,e1,e2,g0,hc,y3,hk,c2];rfl
 obtain⟨fn,c,f1,f2⟩:=UM;obtain⟨f1,f3⟩:=(S.jl (fun _ _ _=>none)).1.funcs 27 fn f1;have gh:∀ x,(h.add Om).tr.get x=if x=h.next then some Om else h.tr.get x:=fun x=>T.eL ..
 have y2':Z.objs[1]?=some [(r,.map es cl)]:=y2;have x2':Z.objs[0]?=some [(b,.cells (some 59) m pat tr)]:=x2;let Zo:NV:={ Z with blks:=Z.blks++[h.next],objs:=Z.objs++([(b,.cells (some 59) m pat tr),(r,.map es cl),(h.next,Om)]:List (Nat×O)).map fun p=>[p] };have hle:Z.le Zo:=⟨id,id,fun q=>by show(Z.blks++_)[_]?=_;rw[aG,if_pos (ai.1 q).1];exact q,fun q=>by show(Z.objs++_)[_]?=_;rw[aG,if_pos (ai.1 q).1];exact q⟩;have oG:∀ i,Zo.objs[2+i]?=(([(b,O.cells (some 59) m pat tr),(r,.map es cl),(h.next,Om)]:List (Nat×O)).map fun p=>[p])[i]?:=fun i=>by show(Z.objs++_)[2+i]?=_;rw[zaw (by omega),lo,cG]
 have b5:Zo.blks[5]?=some h.next:=by show(Z.blks++[h.next])[5]?=_;rw[<- lb];simp
 have z0o:Zo.ints[0]?=some 0:=z0;have avo:AV Zo (.sl 5 oz (0,8) (.al (0,8) 1)) (.slice h.next 0 8 (.atl 8 1)):=.sl b5 ⟨0,fun q=>absurd rfl q,rfl⟩ (eO z0o 8) (xj.al (eO z0o 8));refine⟨.slice h.next 0 8 (.atl 8 1),h.add Om,fun s Y w ht hSm=>?_,_,aj.2 rfl,Zo,hle,?_,(fun g hg=>nomatch hg),avo⟩;·obtain⟨cargs,ha,rfl⟩:=ht;rw[fE f1 f3 f2];exact fun n=>vo hu hS hx ha hSm n
 .refine Ol (k:=2) (mem:=[st 0 59 [.m 1],(1,.mx (CL.clo (CL.Nj 4))),st 5 3 [CL.kI 1,CL.kI 2,CL.kI 3,CL.kI 4,CL.kI 7,CL.kI 8,CL.kI 9,CL.kI 10]]) (nx:=51) (ns:=0) (nb:=6) (z:=⟨.leaf,.leaf,[]⟩) li z0 ls (by show(Z.blks++[h.next]).length=6;simp[lb]) (by show(Z.objs++_).length=2+3;simp[lo]) nZ (pZ avo) (fun i U ao q=>?_) (fun i j hp hp' li' lj' e e'=>?_) (fun x hx hF=>?_) (by show h.next<=h.next+1;omega) hM.hr.gl
  .match i,q with
   |0,q=>cases q;exact⟨b,_,hle.b x1,oG 0,x3.mono hle,fun p hp=>by rw[aj.1 hp];exact⟨by rw[gh,if_neg (by omega)];exact g0,by show b<h.next+1;omega,.inl ⟨_,_,_,_,at0,x2,_,aj.2 rfl,rfl⟩⟩⟩
   |1,q=>cases q;exact⟨r,_,hle.b y1,oG 1,.mx y4 (y5.mono hle) y6,fun p hp=>by rw[aj.1 hp];exact⟨by rw[gh,if_neg (by omega)];exact y3,by show r<h.next+1;omega,.inl ⟨_,_,_,_,at1,y2,_,aj.2 rfl,rfl⟩⟩⟩
   |2,q=>cases q;refine⟨h.next,_,b5,oG 2,.cl ?_,fun p hp=>by rw[aj.1 hp];exact⟨by rw[gh,if_pos rfl],by show h.next<h.next+1;omega,.inr (aF _)⟩⟩;obtain⟨_,_,_,e,cr⟩:=(Jp (Z:=Zo) (l:=[CL.kI 1,CL.kI 2,CL.kI 3,CL.kI 4,CL.kI 7,CL.kI 8,CL.kI 9,CL.kI 10]) (L:=Py.map (.int .i64)) (.cons (.k _) (.cons (.k _) (.cons (.k _) (.cons (.k _) (.cons (.k _) (.cons (.k _) (.cons (.k _) (.cons (.k _) .nil)))))))) rfl).cr;cases e;exact cr
   |i+3,q=>simp at q
  .rw[oG] at e e';exact lH (by simp[hne];omega) i j hp hp' e e'
  .have hx:x<h.next:=hx;rw[gh,if_neg (by omega)];rfl
end Go.Proofs.YtboaighhnghpdaaGreatDoor

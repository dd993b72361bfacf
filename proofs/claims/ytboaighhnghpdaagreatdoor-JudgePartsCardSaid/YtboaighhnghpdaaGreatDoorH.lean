/- Calls that only read; the parts that are shown by hand. -/
import Derived.Test.YtboaighhnghpdaaGreatDoorG
import Derived.Maps.RangeRun
import Derived.LoopNIn
set_option linter.unusedVariables false
set_option linter.unusedSimpArgs false
set_option maxHeartbeats 1000000
namespace Go.Ae
open Go.Ev Go.RowKit
def below (n:Nat)(Y:Ren):Ren:=⟨fun b=>if b<n then Y.loc b else none,Y.own⟩
theorem Cc {n:Nat}{Y:Ren}{b B:Nat}(h:(below n Y).fp b B):Y.fp b B:=by
 rcases h with⟨L,h1,h2⟩|h
 .have h1:(if b<n then Y.loc b else none)=some L:=h1;split at h1;·exact .inl ⟨L,h1,h2⟩
  .cases h1
 .exact .inr h
structure DD (h0:H):Prop where
 ro:∀ b o,h0.tr.get b=some o->o.rw=false
 lt:∀ b o,h0.tr.get b=some o->b<h0.next
 lf:∀ b o,h0.tr.get b=some o->∀ Y Y' L c,jD Y o L c->jD Y' o L c
 gh:∀ b os,h0.tr.get b≠some (.ghost os)
 gl:1000<=h0.next
theorem DD.sim {h0 h:H}(S:DD h0){Y:Ren}{w:World}(hS:Sim Y h w)(hs:∀ b o,h0.tr.get b=some o->h.tr.get b=some o):Sim (below h0.next Y) h0 w where
 glob:=fun g hg=>by obtain⟨z,hz⟩:=hS.glob g hg;refine⟨z,?_⟩;show(if g<h0.next then Y.loc g else none)=_;rw[if_pos (by have:=S.gl;omega)];exact hz
 dom:=fun b L hb=>by
  have hb:(if b<h0.next then Y.loc b else none)=some L:=hb;split at hb;·assumption
  .cases hb
 live:=fun b o hb=>by obtain⟨L,c,h1,h2,h3⟩:=hS.live b o (hs b o hb);refine⟨L,c,?_,h2,S.lf b o hb _ _ L c h3⟩;show(if b<h0.next then Y.loc b else none)=_;rw[if_pos (S.lt b o hb)];exact h1
 inj:=fun b b' o o' B h1 h2 hq h3 h4=>hS.inj b b' o o' B (hs _ _ h1) (hs _ _ h2) hq (Cc h3) (Cc h4)
 ownlt:=fun b o B h1 h2=>hS.ownlt b o B (hs _ _ h1) h2
 gho:=fun b os L h1 _=>absurd h1 (S.gh b os)
theorem quiet {P:Program}{f:FuncId}{vs:List V}{h0 h1:H}{v:V}(hq:iW P (.fn f vs) h0 v h1)(S:DD h0){h:H}(hs:∀ b o,h0.tr.get b=some o->h.tr.get b=some o)
  (hvs:∀ Y l,fH Y vs l->fH (below h0.next Y) vs l)(hv:∀ Y Y' c,Rel Y v c->Rel Y' v c):iW P (.fn f vs) h v h:=fun s Y w ht hS=>by
 obtain⟨cargs,a1,a2⟩:=ht;have hp:=hq s (below h0.next Y) w ⟨cargs,hvs _ _ a1,a2⟩ (S.sim hS hs);refine jy.mono hp fun c w' ⟨Y',s1,e1,r1⟩=>?_;have hfr:∀ B,B<w.heap.size->w'.heap[B]?=w.heap[B]?:=fun B hB=>e1.frame B hB fun b o hb hrw=>by rw[S.ro b o hb] at hrw;cases hrw
 refine⟨Y,⟨hS.glob,hS.dom,fun b o hb=>?_,hS.inj,fun b o B x y=>bh (hS.ownlt b o B x y) e1.size,fun b os L hb hL=>?_⟩,⟨aF _,fun _ _=>rfl,fun _ _ q=>q,e1.size,fun B hB _=>hfr B hB,fun b o B x y _=>⟨b,o,x,y,id⟩,e1.tape,e1.os,e1.output⟩,hv _ _ _ r1⟩;·obtain⟨L,c,x,y,z⟩:=hS.live b o hb;exact⟨L,c,x,by rw[hfr L.1 (aD.1 y).1];exact y,z⟩
 .exact(hS.gho b os L hb hL).frame fun B hB=>hfr B (hS.ownlt b _ B hb hB)
theorem KL {Z Z':NV}(h:Z.le Z'){p:LE×LE}(k:Holds Z p):Holds Z' p:=let ⟨a,b,x,y,z⟩:=k;⟨a,b,x.mono h,y.mono h,z⟩
theorem MF {P:Program}{M:TH}{f:FuncId}{cn:CN}{τ:Nat}{ps:List LE}(hm:cn.mem=[(0,.ob τ ps)])
  (h:∀ (Z:NV) (vs:List V) (h:H) (n:Nat),Mem M (lB Z (fA cn n).mem h) Z (fA cn n) ⟨⟨n,fT 0 vs .leaf⟩,h,[]⟩->vs.length=cn.args.length ->
    ∃ v,iW P (.fn f vs) h v h/\∃ o,o∈cn.outs/\o.ni=0/\o.ns=0/\o.nb=0/\o.mem=[(0,.ob τ ps)]/\(∀ g,g∈o.fs->Holds Z g)/\AV Z o.res v):fP P M f cn:=fun Z vs hh n hl hM=>by
 obtain⟨v,hc,o,ho,n1,n2,n3,n4,hf,hv⟩:=h Z vs hh n hM hl;have hpre:(fA cn n).mem.get 0=some (0,.ob τ ps):=by show(gq 0 cn.mem T.leaf).get 0=_;rw[hm];simp only[gq,T.eL,if_pos]
 obtain⟨b,hp,x1,x2,x3,x4⟩:=hM.hr.at' _ _ _ hpre;have li:Z.ints.length=Nat.add 1 cn.ni:=hM.vr.ni;have ls:Z.strs.length=Nat.add 0 cn.ns:=hM.vr.ns;have lb:Z.blks.length=Nat.add 0 cn.nb:=hM.vr.nb;have lo:Z.objs.length=Nat.add 0 cn.mem.length:=hM.vr.no;have lo:Z.objs.length=1:=by rw[lo,hm];rfl
 let Zo:NV:={ Z with objs:=Z.objs++[hp] };have hle:Z.le Zo:=lG;have hlast:Zo.objs[1]?=some hp:=by show(Z.objs++[hp])[1]?=_;rw[<- lo];simp
 have hmem:∀ U s ao,(Fc cn o).mem.get U=some (s,ao)->U=0/\s=1/\ao=.ob τ ps:=fun U s ao q=>by
  have q:(gq cn.mem.length o.mem T.leaf).get U=some (s,ao):=q;rw[n4,hm] at q;simp only[gq,T.eL] at q;split at q;·cases q;exact⟨by assumption,rfl,rfl⟩
  .rw[T.eR] at q;cases q
 refine⟨v,hh,hc,o,ho,Zo,hle,⟨⟨?_,?_,?_,?_,hle.i hM.vr.z0,?_⟩,rfl,pZ (hv.mono hle),⟨fun U s ao q=>?_,fun U s ao E s' ao' q q' hne=>?_,hM.hr.frame,hM.hr.le,hM.hr.gl⟩,BN⟩,fun g hg=>KL hle (hf g hg),hv.mono hle⟩;·show Z.ints.length=Nat.add (Nat.add 1 cn.ni) o.ni;rw[li,n1];rfl
 .show Z.strs.length=Nat.add cn.ns o.ns;rw[ls,n2];show 0+cn.ns=cn.ns+0;omega
 .show Z.blks.length=Nat.add cn.nb o.nb;rw[lb,n3];show 0+cn.nb=cn.nb+0;omega
 .show(Z.objs++[hp]).length=Nat.add cn.mem.length o.mem.length;rw[hm,n4,bt,lo];rfl
 .exact kg nZ fun p hp=>KL hle (hf p hp)
 .obtain⟨rfl,rfl,rfl⟩:=hmem U s ao q;exact⟨b,hp,x1,hlast,x3.mono hle,x4⟩
 .obtain⟨rfl,_,_⟩:=hmem U s ao q;obtain⟨rfl,_,_⟩:=hmem E s' ao' q';exact absurd rfl hne
variable {a:A}
def KM:A->Bool
 |.k v=>plain (.k v)
 |.i _ _=>true
 |.sn ..=>true
 |_=>false
def QZ:A->Bool
 |.ag l=>l.all KM
 |a=>KM a
theorem iw (h:KM a=true):plain a=true:=by cases a<;>simp only[KM] at h<;>first|exact h|rfl|cases h
theorem FV {Z:NV}(h:KM a=true){v w:V}(hv:AV Z a v)(hw:AV Z a w):v=w:=by
 cases a with
 |k=>cases hv;cases hw;rfl
 |i=>cases hv with
  |i q=>cases hw with
   |i r=>rw[q.fn r]
 |sn=>cases hv with
  |sn a b c=>cases hw with
   |sn a' b' c'=>have e1:=a.fn a';have e2:=b.fn b';have e3:=c.fn c';simp only[Int.ofNat_inj,Int.natCast_inj] at e1 e2 e3;subst e1;subst e2;subst e3;rfl
   |sn0 b' c'=>have:=c.fn c';omega
  |sn0 b c=>cases hw with
   |sn a' b' c'=>have:=c.fn c';omega
   |sn0=>rfl
 |_=>cases h
theorem Cd {Z:NV}:∀ {l:List A},l.all KM=true->∀ {i:Nat} {c d:V},CA Z l i c->CA Z l i d->c=d
 |[],_,_,_,_,h,_=>by cases h
 |a :: l,hl,i,c,d,h,k=>by
  simp only[dO,ae] at hl;have one:∀ {w:Nat},WV Z a w->w=1:=fun {w} q=>by
   cases q with
   |one=>rfl
   |rw=>have:=iw hl.1;cases this
  generalize hg:a :: l=g at h;cases h with
  |here p x=>
   cases hg;generalize hj:(0:Nat)=j at k;generalize hg:a :: l=g at k;cases k with
   |here p' y=>cases hg;exact FV hl.1 x y
   |skip q y=>cases hg;have:=one q;omega
   |row=>cases hg;have:=iw hl.1;cases this
   |foc=>cases hg;have:=iw hl.1;cases this
  |@skip _ _ w i' _ q x=>
   cases hg;have e:=one q;subst e;generalize hj:1+i'=j at k;generalize hg:a :: l=g at k;cases k with
   |here p' y=>omega
   |@skip _ _ w' i'' _ q' y=>
    cases hg;have e':=one q';subst e';have:i''=i':=by omega
    subst this;exact Cd hl.2 x y
   |row=>cases hg;have:=iw hl.1;cases this
   |foc=>cases hg;have:=iw hl.1;cases this
  |row=>cases hg;have:=iw hl.1;cases this
  |foc=>cases hg;have:=iw hl.1;cases this
theorem MG {Z:NV}(h:QZ a=true){v w:V}(hv:AV Z a v)(hw:AV Z a w){Y:Ren}{c:Value}(hr:Rel Y v c):Rel Y w c:=by
 by_cases hag:∃ l,a=.ag l
 .obtain⟨l,rfl⟩:=hag;have h:l.all KM=true:=h;cases hv with
  |@ag _ n pat tr g t k=>
   cases hw with
   |@ag _ n' pat' tr' g' t' k'=>
    have e:=g.fn g';subst e;cases hr with
    |agg h1 h2 h3=>
     refine .agg h1 h2 fun i u x hu hx=>?_;have hi:i<n:=by rw[<- h1];exact(aD.1 hx).1
     obtain⟨u',hu'⟩:=bu.1 (t i hi);have:=Cd h (k i u' hu') (k' i u hu);subst this;exact h3 i u' x hu' hx
 .have h1:KM a=true:=by
   cases a with
   |ag l=>exact absurd ⟨l,rfl⟩ hag
   |_=>exact h
  rw[<- FV h1 hv hw];exact hr
end Go.Ae
namespace Go.Ae
open Go.Ev Go.RowKit
theorem xR:∀ {l:List (LE×LE)} {z:ZN} {x:Nat} {p:Nat×Int},p∈rows z.up x->p∈rows (ie l z).up x
 |[],_,_,_,h=>h
 |g :: l,z,x,p,h=>by
  refine xR (l:=l) (z:=z.add g.1 g.2) ?_;simp only[ZN.add];split;·exact h
  .rw[mE];split;·rename_i e;subst e;exact aB _ h
   .exact h
theorem xS:∀ {l:List (LE×LE)} {z:ZN} {x:Nat} {p:Nat×Int},p∈rows z.dn x->p∈rows (ie l z).dn x
 |[],_,_,_,h=>h
 |g :: l,z,x,p,h=>by
  refine xS (l:=l) (z:=z.add g.1 g.2) ?_;simp only[ZN.add];split;·exact h
  .rw[mE];split;·rename_i e;subst e;exact aB _ h
   .exact h
theorem KN {Z:NV}:∀ {l:List (LE×LE)} {z:ZN},ZR Z (ie l z)->∀ g,g∈l->(Nat.beq g.1.1 0&&Nat.beq g.2.1 0)=false->Holds Z g
 |[],_,_,g,hg,_=>by cases hg
 |f :: l,z,h,g,hg,hz=>by
  rcases aq.1 hg with rfl|hg
  .have e3:Int.sub g.2.2 g.1.2=g.2.2 - g.1.2:=rfl;cases h1:Nat.beq g.1.1 0 with
   |false=>obtain⟨a,b,x,y,w⟩:=h.up (x:=g.1.1) (p:=(g.2.1,Int.sub g.2.2 g.1.2)) (xR (l:=l) (z:=z.add g.1 g.2) (by simp only[ZN.add,h1];rw[mE,if_pos rfl];exact aE ..));exact⟨a+g.1.2,b+g.2.2,⟨a,x,rfl⟩,⟨b,y,rfl⟩,by have w:a<=b+Int.sub g.2.2 g.1.2:=w;omega⟩
   |true=>
    rw[h1] at hz;have h2:Nat.beq g.2.1 0=false:=by simpa using hz
    obtain⟨a,b,x,y,w⟩:=h.dn (y:=g.2.1) (p:=(g.1.1,Int.sub g.2.2 g.1.2)) (xS (l:=l) (z:=z.add g.1 g.2) (by simp only[ZN.add,h2];rw[mE,if_pos rfl];exact aE ..));exact⟨a+g.1.2,b+g.2.2,⟨a,x,rfl⟩,⟨b,y,rfl⟩,by have w:a<=b+Int.sub g.2.2 g.1.2:=w;omega⟩
  .exact KN (l:=l) (z:=z.add f.1 f.2) h g hg hz
theorem Ce:∀ {l:List A} {k i:Nat} {t:T A},i<k->(lJ (DB k l) t).get i=t.get i
 |[],_,_,_,_=>rfl
 |a :: l,k,i,t,h=>by show(lJ (DB (Nat.succ k) l) (t.put k (some a))).get i=_;rw[Ce (by omega),T.eL,if_neg (by omega)]
theorem uB:∀ {l:List V} {k i:Nat} {t:T V},i<k->(fT k l t).get i=t.get i
 |[],_,_,_,_=>rfl
 |a :: l,k,i,t,h=>by show(fT (Nat.succ k) l (t.put k (some a))).get i=_;rw[uB (by omega),T.eL,if_neg (by omega)]
theorem pq {Z:NV}:∀ {l:List A} {vs:List V} {k:Nat} {t:T A} {tr:T V},vs.length=l.length->ER Z (lJ (DB k l) t) (fT k vs tr)->AVs Z l vs
 |[],[],_,_,_,_,_=>.nil
 |a :: l,v :: vs,k,t,tr,hl,h=>by refine .cons ?_ (pq (l:=l) (vs:=vs) (k:=Nat.succ k) (t:=t.put k (some a)) (tr:=tr.put k (some v)) (by simpa using hl) h);obtain⟨u,u1,u2⟩:=h k a (by show(lJ (DB (Nat.succ k) l) (t.put k (some a))).get k=_;rw[Ce (by omega),T.eL,if_pos rfl]);have e:(fT (Nat.succ k) vs (tr.put k (some v))).get k=some u:=u1;rw[uB (by omega),T.eL,if_pos rfl] at e;cases e;exact u2
 |[],_ :: _,_,_,_,hl,_=>by simp at hl
 |_ :: _,[],_,_,_,hl,_=>by simp at hl
theorem Cf {Z:NV}:∀ {l:List A} {vs ws:List V},(∀ a,a∈l->QZ a=true)->AVs Z l vs->AVs Z l ws->∀ {Y:Ren} {cs:List Value},fH Y vs cs->fH Y ws cs
 |[],_,_,_,.nil,.nil,_,_,h=>h
 |a :: l,_,_,hp,.cons (v:=v) (l':=vs) h1 h2,.cons (v:=w) (l':=ws) k1 k2,Y,cs,hr=>by
  cases cs with
  |nil=>simp[fH] at hr
  |cons c cs=>have hc:Rel Y v c:=hr.2 0 v c rfl rfl;have ht:fH Y vs cs:=⟨by simpa using hr.1,fun i v x p q=>hr.2 (i+1) v x p q⟩;exact .cons (MG (hp a (by simp)) h1 k1 hc) (Cf (fun a ha=>hp a (by simp[ha])) h2 k2 ht)
def mL (M:TH)(τ:Nat)(zs:List Int)(hp:List (Nat×O)):Prop:=∀ zs' b hp',M τ zs' b hp'->zs'=zs/\hp'=hp
theorem O6 {P:Program}{M:TH}{f:FuncId}{cn:CN}{τ:Nat}{zs:List Int}{hp:List (Nat×O)}{h0:H}{vs0:List V}(K:mL M τ zs hp)
  (hm:cn.mem=[(0,.ob τ (news (fun j=>(j,0)) 1 cn.ni))])(S:DD h0)(hh0:∀ b o,h0.tr.get b=some o->(b,o)∈hp\/∃ q,q∈gls/\b=q.1/\o=.ro (some 0) q.2.length q.2 .leaf)
  (hpin:∀ a,a∈cn.args->QZ a=true)(hv0:∀ Z:NV,Z.ints=0 :: zs->AVs Z cn.args vs0)(hvs:∀ Y l,fH Y vs0 l->fH (below h0.next Y) vs0 l)
  (hfs:∀ g,g∈cn.fs->(Nat.beq g.1.1 0&&Nat.beq g.2.1 0)=false)
  (hq:(∀ Z:NV,Z.ints=0 :: zs->∀ g,g∈cn.fs->Holds Z g)->∃ v h1,iW P (.fn f vs0) h0 v h1/\(∀ Y Y' c,Rel Y v c->Rel Y' v c)/\∃ o,o∈cn.outs/\o.ni=0/\o.ns=0/\o.nb=0/\o.mem=cn.mem/\∀ Z:NV,Z.ints=0 :: zs->(∀ g,g∈o.fs->Holds Z g)/\AV Z o.res v):fP P M f cn:=
 MF hm fun Z vs h n hM hl=>by
  have hpre:(fA cn n).mem.get 0=some (0,.ob τ (news (fun j=>(j,0)) 1 cn.ni)):=by show(gq 0 cn.mem T.leaf).get 0=_;rw[hm];simp only[gq,T.eL,if_pos]
  obtain⟨b,hp',x1,x2,x3,x4⟩:=hM.hr.at' _ _ _ hpre;cases x3 with
  |@ob _ _ _ zs' _ y1 y2 y3 y4=>
   obtain⟨rfl,rfl⟩:=K _ _ _ y2;obtain⟨zl,zi⟩:=rN y1;have li:Z.ints.length=1+cn.ni:=hM.vr.ni;have z0:=hM.vr.z0;have hints:Z.ints=0 :: zs':=cV fun j=>by
    cases j with
    |zero=>exact z0
    |succ j=>
     show _=zs'[j]?;cases q:zs'[j]? with
     |some z=>rw[bp j 1];exact zi j z q
     |none=>have:=bR.1 q;exact bR.2 (by omega)
   have hargs:AVs Z cn.args vs:=pq hl hM.er;have hH:∀ g,g∈cn.fs->Holds Z g:=fun g hg=>KN hM.vr.zr g hg (hfs g hg);obtain⟨v,h1,c1,c2,o,o1,o2,o3,o4,o5,o6⟩:=hq fun Z' e g hg=>by obtain⟨a,b,⟨y,p1,p2⟩,⟨y',q1,q2⟩,w⟩:=hH g hg;exact⟨a,b,⟨y,by rw[e,<- hints];exact p1,p2⟩,⟨y',by rw[e,<- hints];exact q1,q2⟩,w⟩
   have hsub:∀ b o,h0.tr.get b=some o->h.tr.get b=some o:=fun b o hb=>by
    rcases hh0 b o hb with g|⟨q,g,rfl,rfl⟩;·exact(x4 _ g).1
    .exact(hM.hr.gl q g).2.2
   have hcall:=quiet c1 S hsub hvs c2;refine⟨v,fun s Y w ht hS=>?_,o,o1,o2,o3,o4,by rw[o5,hm],(o6 Z hints).1,(o6 Z hints).2⟩;obtain⟨cargs,a1,a2⟩:=ht;exact hcall s Y w ⟨cargs,Cf hpin hargs (hv0 Z hints) a1,a2⟩ hS
variable {Z:NV}
theorem Ol {M:TH}{fr:FR}{k sz nx ns nb:Nat}{tm:T A}{tr:T V}{mem:List (Nat×AO)}{z:ZN}{h:H}
  (hi:Z.ints.length=nx)(h0:Z.ints[0]?=some 0)(hs:Z.strs.length=ns)(hb:Z.blks.length=nb)(ho:Z.objs.length=k+mem.length)(hz:ZR Z z)(he:ER Z tm tr)
  (hm:∀ (i U:Nat) (ao:AO),mem[i]?=some (U,ao)->∃ b hp,Z.blks[U]?=some b/\Z.objs[k+i]?=some hp/\AOR M Z ao b hp/\∀ p,p∈hp->h.tr.get p.1=some p.2/\p.1<h.next/\(fr.F p.1\/fr.n<=p.1))
  (sep:∀ (i j:Nat) (hp hp':List (Nat×O)),i<mem.length->j<mem.length->Z.objs[k+i]?=some hp->Z.objs[k+j]?=some hp'->i≠j->∀ p,p∈hp->∀ q,q∈hp'->p.1≠q.1)
  (frame:∀ b,b<fr.n->¬ fr.F b->h.tr.get b=fr.h b)(le:fr.n<=h.next)(gl:∀ q,q∈gls->q.1<fr.n/\¬ fr.F q.1/\fr.h q.1=some (.ro (some 0) q.2.length q.2 .leaf)):
  Mem M fr Z ⟨sz,tm,gq k mem .leaf,nx,ns,nb,k+mem.length,z,[]⟩ ⟨⟨sz,tr⟩,h,[]⟩:=by
 have ent:∀ {U s:Nat} {ao:AO},(gq k mem T.leaf).get U=some (s,ao)->∃ i,mem[i]?=some (U,ao)/\s=k+i:=fun q=>by
  rcases gK q with h|⟨_,h⟩;·exact h
  .rw[T.eR] at h;cases h
 refine⟨⟨hi,hs,hb,ho,h0,hz⟩,rfl,he,⟨fun U s ao q=>?_,fun U s ao U' s' ao' q q' hne hp hp' e e'=>?_,frame,le,gl⟩,BN⟩;·obtain⟨i,i1,rfl⟩:=ent q;exact hm i U ao i1
 .obtain⟨i,i1,rfl⟩:=ent q;obtain⟨j,j1,rfl⟩:=ent q';exact sep i j hp hp' (ai.1 i1).1 (ai.1 j1).1 e e' fun e=>by subst e;rw[i1] at j1;cases j1;exact hne rfl
theorem xU {M:TH}{sz nx ns nb:Nat}{tm:T A}{tr:T V}{mem:List (Nat×AO)}{fs:List (LE×LE)}{h:H}
  (hi:Z.ints.length=nx)(h0:Z.ints[0]?=some 0)(hs:Z.strs.length=ns)(hb:Z.blks.length=nb)(ho:Z.objs.length=mem.length)(hf:∀ g,g∈fs->Holds Z g)(he:ER Z tm tr)
  (nd:(mem.map Prod.fst).Nodup)(hm:∀ (i U:Nat) (ao:AO),mem[i]?=some (U,ao)->∃ b hp,Z.blks[U]?=some b/\Z.objs[i]?=some hp/\AOR M Z ao b hp/\∀ p,p∈hp->h.tr.get p.1=some p.2/\p.1<h.next)
  (sep:∀ (i j:Nat) (hp hp':List (Nat×O)),Z.objs[i]?=some hp->Z.objs[j]?=some hp'->i≠j->∀ p,p∈hp->∀ q,q∈hp'->p.1≠q.1)
  (gl:∀ q,q∈gls->q.1<h.next/\(∀ hp,hp∈Z.objs->∀ p,p∈hp->p.1≠q.1)/\h.tr.get q.1=some (.ro (some 0) q.2.length q.2 .leaf)):
  Mem M (lB Z (gq 0 mem .leaf) h) Z ⟨sz,tm,gq 0 mem .leaf,nx,ns,nb,mem.length,ie fs ⟨.leaf,.leaf,[]⟩,[]⟩ ⟨⟨sz,tr⟩,h,[]⟩:=by
 have:=Ol (M:=M) (fr:=lB Z (gq 0 mem .leaf) h) (k:=0) (sz:=sz) (tm:=tm) (tr:=tr) (mem:=mem) (h:=h) hi h0 hs hb (by rw[ho,aI]) (kg nZ hf) he (fun i U ao q=>by
  obtain⟨b,hp,x1,x2,x3,x4⟩:=hm i U ao q;refine⟨b,hp,x1,by rw[aI];exact x2,x3,fun p hp'=>⟨(x4 p hp').1,(x4 p hp').2,.inl ⟨U,i,ao,hp,?_,x2,p,hp',rfl⟩⟩⟩;rw[kH nd q,aI]) (fun i j hp hp' _ _ e e'=>by
  rw[aI] at e e';exact sep i j hp hp' e e') (fun _ _ _=>rfl) (aF _) fun q hq=>by obtain⟨g1,g2,g3⟩:=gl q hq;refine⟨g1,fun⟨U,s,ao,hp,_,e2,p,hp',e⟩=>g2 hp (aC e2) p hp' e,g3⟩
 rw[aI] at this;exact this
def Ex (l:List Int)(e:LE):Option Int:=match l[e.1]? with
 |some y=>some (y+e.2)
 |none=>none
def HB (l:List Int):List (LE×LE)->Prop
 |[]=>True
 |g :: r=>(∃ a b,Ex l g.1=some a/\Ex l g.2=some b/\a<=b)/\HB l r
theorem Cj {e:LE}{a:Int}(h:Ex Z.ints e=some a):Num Z e a:=by
 unfold Ex at h;split at h;·rename_i y hy;cases h;exact⟨y,hy,rfl⟩
 .cases h
theorem O9 {Z:NV}:∀ {l:List (LE×LE)},HB Z.ints l->∀ g,g∈l->Holds Z g
 |[],_,g,h=>by cases h
 |f :: l,⟨⟨a,b,x,y,z⟩,h⟩,g,hg=>by
  rcases aq.1 hg with rfl|hg;·exact⟨a,b,Cj x,Cj y,z⟩
  .exact O9 h g hg
theorem fV {l:List Int}:∀ {a b:List (LE×LE)},HB l a->HB l b->HB l (a++b)
 |[],_,_,h=>h
 |_ :: _,_,⟨x,y⟩,h=>⟨x,fV y h⟩
end Go.Ae
namespace Go.Hid
open Go.Ev Go.RowKit
variable {n cl:Nat}{es:List (V×V×Nat)}{h':H}{f:Nat->Option Nat}
def AtD (Y0:Ren)(h0:H)(w0:World)(a0:Act)(env:Env)(h:H)(a:Act)(w:World):Prop:=∃ Y,Sim Y h w/\Ext Y0 h0 w0 Y h w/\iU Y env a.tmps/\a.defers=a0.defers
section
variable {Y0:Ren}{h0:H}{w0:World}{a0:Act}{env:Env}{h:H}{a:Act}{w:World}
theorem AtD.ext (hA:AtD Y0 h0 w0 a0 env h a w){h1:H}(hs:∀ Y,Sim Y h w->∃ Y1,Sim Y1 h1 w/\Ext Y h w Y1 h1 w):AtD Y0 h0 w0 a0 env h1 a w:=by obtain⟨Y,s1,s2,s3,s4⟩:=hA;obtain⟨Y1,t1,t2⟩:=hs Y s1;exact⟨Y1,t1,s2.trans t2,s3.mono (t2.le s1),s4⟩
theorem AtD.sub (hA:AtD Y0 h0 w0 a0 env h a w){h1:H}(hn:h.next<=h1.next)(hget:∀ x o,h1.tr.get x=some o->h.tr.get x=some o):AtD Y0 h0 w0 a0 env h1 a w:=
 hA.ext fun Y s=>⟨Y,s.sub hn hget,hn,fun _ _=>rfl,fun b _ q=>(by
  cases g:h1.tr.get b with
  |none=>rfl
  |some o=>rw[hget b o g] at q;cases q),aF _,fun _ _ _=>rfl,fun x o B hx hf _=>⟨x,o,hget x o hx,hf,id⟩,rfl,rfl,rfl⟩
theorem AtD.tmps (hA:AtD Y0 h0 w0 a0 env h a w){env1:Env}(hs:env1.sz=env.sz)(hget:∀ t v,env1.tr.get t=some v->env.tr.get t=some v):AtD Y0 h0 w0 a0 env1 h a w:=by obtain⟨Y,s1,s2,s3,s4⟩:=hA;exact⟨Y,s1,s2,⟨by show env1.sz<=_;rw[hs];exact s3.1,fun t v hv=>s3.2 t v (hget t v hv)⟩,s4⟩
theorem AtD.up (hA:AtD Y0 h0 w0 a0 env h a w){h1:H}(k:∀ (a:Act),At Y0 h0 w0 ⟨env,h,[]⟩ a w->At Y0 h0 w0 ⟨env,h1,[]⟩ a w):AtD Y0 h0 w0 a0 env h1 a w:=by obtain⟨Y,s1,s2,s3,s4⟩:=hA;obtain⟨Y',t1,t2,t3,_⟩:=k ⟨a.tmps,[]⟩ ⟨Y,s1,s2,s3,trivial⟩;exact⟨Y',t1,t2,t3,s4⟩
end
noncomputable section
def IX (x y z:Int):V:=.agg 3 [.int .i64 x,.int .i64 y,.int .u32 z] .leaf
def gM (n:Nat):O:=.ghost [.ro (some 3) n [] .leaf]
def lI (L:List V):O:=.cells (some 3) L.length L .leaf
def IY (N:Nat):List (List V)->List (Nat×List V)
 |[]=>[]
 |L :: l=>(N,L) :: IY (Nat.succ N) l
end
def xI (k:V)(a b c:Int):Prop:=∃ pat tr,k=.agg 3 pat tr/\cell 3 pat tr 0=some (.int .i64 a)/\cell 3 pat tr 1=some (.int .i64 b)/\cell 3 pat tr 2=some (.int .u32 c)
theorem ke (a b c:Int):xI (IX a b c) a b c:=⟨_,_,rfl,rfl,rfl,rfl⟩
def InI (x:Int):Prop:=-9223372036854775808<=x/\x<=9223372036854775807
def InU (x:Int):Prop:=0<=x/\x<=4294967295
theorem vI:∀ {l:List (List V)} {N j:Nat},(IY N l)[j]?=(l[j]?).map fun L=>(N+j,L)
 |[],_,_=>by simp[IY]
 |L :: l,N,0=>rfl
 |L :: l,N,j+1=>by simp only[IY,aQ];rw[vI,show Nat.succ N+j=N+(j+1) by omega]
theorem qZ:∀ {l:List (List V)} {N:Nat},(IY N l).length=l.length
 |[],_=>rfl
 |_ :: l,N=>by simp only[IY,aU,qZ]
theorem kK {α:Type}{l:List α}(h:∀ (i j:Nat) (x:α),l[i]?=some x->l[j]?=some x->i=j):l.Nodup:=by rw[List.Nodup,dM];intro i j h1 h2 h3 e;have:=h i j _ (ah h1) (by rw[ah h2,e]);omega
theorem gS {α:Type}{l:List α}(h:l.Nodup){i j:Nat}{x:α}(hi:l[i]?=some x)(hj:l[j]?=some x):i=j:=by obtain⟨a,e1⟩:=ai.1 hi;obtain⟨b,e2⟩:=ai.1 hj;exact(List.getElem_inj h).1 (e1.trans e2.symm)
def uz (L:List V)(o:O):Prop:=∃ pat tr,o=.cells (some 3) L.length pat tr/\∀ i,i<L.length->cell L.length pat tr i=L[i]?
def OS (L:List V):Prop:=∀ v,v∈L->∃ z:Int,v=.int .i64 z/\InI z
structure oa (n:Nat)(es:List (V×V×Nat))(cl:Nat)(R:List (Nat×List V))(h:H):Prop where
 few:es.length<=n
 fewR:R.length<=n
 nd:(R.map Prod.fst).Nodup
 live:∀ p,p∈R->∃ o,h.tr.get p.1=some o/\uz p.2 o/\OS p.2/\p.2.length<=n
 key:∀ e,e∈es->∃ x y z,xI e.1 x y z/\InI x/\InI y/\InU z
 born:∀ e,e∈es->e.2.2<cl
 val:∀ e,e∈es->∃ p,p∈R/\e.2.1=.slice p.1 0 p.2.length (.atl p.2.length 1)/\0<p.2.length
 stamps:(es.map fun e=>e.2.2).Nodup
 apart:(es.map fun e=>e.2.1).Nodup
theorem oa.mono {R:List (Nat×List V)}{h:H}(k:oa n es cl R h)(q:∀ p,p∈R->h'.tr.get p.1=h.tr.get p.1):oa n es cl R h':=
 ⟨k.few,k.fewR,k.nd,fun p hp=>let ⟨o,x,y⟩:=k.live p hp;⟨o,by rw[q p hp];exact x,y⟩,k.key,k.born,k.val,k.stamps,k.apart⟩
theorem pg (L:List V):uz L (lI L):=⟨L,.leaf,rfl,fun i hi=>by have:cell L.length L .leaf i=some L[i]:=nO (by omega) (ah hi);rw[this,ah hi]⟩
theorem zZ {L:List V}{o:O}(hL:OS L)(hc:uz L o):RO f (lI L) o:=by
 obtain⟨pat,tr,rfl,hp⟩:=hc;refine .cells (fun _ q=>q) fun i v hv=>?_;have hi:=eT hv;have e1:cell L.length L .leaf i=L[i]?:=by rw[ah hi];exact nO (by omega) (ah hi)
 rw[e1] at hv;refine⟨v,(hp i hi).trans hv,?_⟩;obtain⟨z,rfl,_⟩:=hL v (aC hv);exact .pure rfl
theorem Fy {k:V}{a b c:Int}(h:xI k a b c):RV f (IX a b c) k/\RV f k (IX a b c):=by
 obtain⟨pat,tr,rfl,h0,h1,h2⟩:=h;have key:∀ {pat tr pat' tr'},cell 3 pat tr 0=some (.int .i64 a)->cell 3 pat tr 1=some (.int .i64 b)->cell 3 pat tr 2=some (.int .u32 c)->cell 3 pat' tr' 0=some (.int .i64 a)->cell 3 pat' tr' 1=some (.int .i64 b)->cell 3 pat' tr' 2=some (.int .u32 c)->RV f (.agg 3 pat tr) (.agg 3 pat' tr'):=fun a0 a1 a2 b0 b1 b2 Y Y' _ x hr=>by
  cases hr with
  |agg k1 k2 k3=>
   refine .agg k1 k2 fun i v y hv hy=>?_;have hi:=eT hv;match i with
   |0=>rw[a0] at hv;cases hv;have:=k3 0 _ y b0 hy;cases this;exact .int _ _
   |1=>rw[a1] at hv;cases hv;have:=k3 1 _ y b1 hy;cases this;exact .int _ _
   |2=>rw[a2] at hv;cases hv;have:=k3 2 _ y b2 hy;cases this;exact .int _ _
   |i+3=>omega
 exact⟨key rfl rfl rfl h0 h1 h2,key h0 h1 h2 rfl rfl rfl⟩
theorem Fz {es':List (V×V×Nat)}(hl:es.length=es'.length)(h:∀ (i:Nat) (e e':V×V×Nat),es[i]?=some e->es'[i]?=some e'->RV f e.1 e'.1/\RV f e.2.1 e'.2.1/\e'.2.2=e.2.2):RO f (.map es cl) (.map es' cl):=by
 refine⟨fun _=>rfl,fun _ q=>(nomatch q),fun Y Y' hY L c ho=>?_⟩;obtain⟨es'',h1,h2,h3⟩:=ho;refine⟨es'',h1,by omega,fun i e e'' he he''=>?_⟩;have hi:i<es'.length:=by have:=(ai.1 he).1;omega
 obtain⟨q1,q2,q3⟩:=h3 i es'[i] e'' (ah hi) he'';obtain⟨p1,p2,p3⟩:=h i e es'[i] he (ah hi);exact⟨p1 Y Y' hY _ q1,p2 Y Y' hY _ q2,by rw[q3,p3]⟩
noncomputable section
def Du (φ:Nat->Nat)(e:V×V×Nat):V×V×Nat:=match e.2.1 with
 |.slice b o n c=>(e.1,.slice (φ b) o n c,e.2.2)
 |_=>e
end
theorem BS (φ:Nat->Nat)(e:V×V×Nat):(Du φ e).1=e.1:=by unfold Du;split<;>rfl
theorem rX (φ:Nat->Nat)(e:V×V×Nat):(Du φ e).2.2=e.2.2:=by unfold Du;split<;>rfl
theorem mz (φ:Nat->Nat){e:V×V×Nat}{b o:Nat}{c:Cap}(h:e.2.1=.slice b o n c):(Du φ e).2.1=.slice (φ b) o n c:=by unfold Du;rw[h]
theorem xJ {b b' n':Nat}{c c':Cap}(h:V.slice b 0 n c=.slice b' 0 n' c'):b=b':=by injection h
section
variable {Y0:Ren}{h0:H}{w0:World}{a0:Act}{env:Env}{h:H}{a:Act}{w:World}
theorem AtD.Mj (hA:AtD Y0 h0 w0 a0 env h a w){g:Nat}(hg:h.tr.get g=some (gM n)):∃ es cl R h1,oa n es cl R h1/\AtD Y0 h0 w0 a0 env h1 a w/\h1.tr.get g=some (.map es cl)/\(∀ p,p∈R->h.next<=p.1/\p.1<h1.next)/\h.next<=h1.next/\∀ x,x<h.next->x≠g->h1.tr.get x=h.tr.get x:=by
 obtain⟨Y,s1,s2,s3,s4⟩:=hA;obtain⟨LL,_,hL,_⟩:=s1.live g _ hg;obtain⟨os',hco,hgh⟩:=(s1.gho g _ LL hg hL).hidden rfl;obtain⟨t1,t2⟩:=Dc s1 hg (os':=os') fun L' e _=>by rw[hL] at e;cases e;exact hgh
 have hA1:AtD Y0 h0 w0 a0 env (h.set g (some (.ghost os'))) a w:=⟨Y,t1,s2.trans t2,s3,s4⟩;have hgn:g<h.next:=s1.dom g LL hL;have hlt:∀ x o,h.tr.get x=some o->x<h.next:=fun x o hx=>by obtain⟨L2,_,q,_⟩:=s1.live x o hx;exact s1.dom x L2 q
 cases hco with
 |rowsM hM=>
  rename_i es cl rows;obtain⟨rl,rfl⟩:∃ rl:List (List V),rows=rl.map lI:=by
   have:∀ l:List O,(∀ o,o∈l->o∈rows)->∃ rl:List (List V),l=rl.map lI:=by
    intro l;induction l with
    |nil=>exact fun _=>⟨[],rfl⟩
    |cons o l ih=>intro q;obtain⟨rl,rfl⟩:=ih fun x hx=>q x (by simp[hx]);obtain⟨L,e,_⟩:=hM.row o (q o (by simp));exact⟨L :: rl,by rw[e];rfl⟩
   exact this rows fun _ h=>h
  obtain⟨φ,hφ⟩:∃ φ:Nat->Nat,φ=fun b=>h.next+(b - 1002):=⟨_,rfl⟩;have hval:∀ e,e∈es->∃ (j:Nat) (L:List V),rl[j]?=some L/\e.2.1=.slice (1002+j) 0 L.length (.atl L.length 1)/\0<L.length:=fun e he=>by
   obtain⟨j,L,v1,v2,v3⟩:=hM.val e he;rw[aL] at v2;cases q:rl[j]? with
   |none=>rw[q] at v2;cases v2
   |some L'=>rw[q] at v2;obtain⟨_,_,rfl,_⟩:=(O.cells.injEq ..).mp (bP v2);exact⟨j,L',q,v1,v3⟩
  have hren:∀ e,e∈es->∃ (j:Nat) (L:List V),rl[j]?=some L/\(Du φ e).2.1=.slice (h.next+j) 0 L.length (.atl L.length 1)/\0<L.length:=fun e he=>by obtain⟨j,L,q1,q2,q3⟩:=hval e he;refine⟨j,L,q1,?_,q3⟩;rw[mz φ q2,hφ];show V.slice (h.next+(1002+j - 1002)) 0 L.length (.atl L.length 1)=_;rw[show h.next+(1002+j - 1002)=h.next+j by omega]
  obtain⟨iG,hnums⟩:∃ iG:List Nat,iG=g :: (IY h.next rl).map Prod.fst:=⟨_,rfl⟩;have n0:iG[0]?=some g:=by rw[hnums];rfl
  have nS:∀ j:Nat,iG[j+1]?=(rl[j]?).map fun _=>h.next+j:=fun j=>by rw[hnums,aQ,aL,vI];cases rl[j]?<;>rfl
  have nd:iG.Nodup:=kK fun i j x hi hj=>by
   match i,j with
   |0,0=>rfl
   |0,j+1=>
    rw[n0] at hi;cases hi;rw[nS] at hj;cases q:rl[j]? with
    |none=>rw[q] at hj;cases hj
    |some L=>rw[q] at hj;simp at hj;omega
   |i+1,0=>
    rw[n0] at hj;cases hj;rw[nS] at hi;cases q:rl[i]? with
    |none=>rw[q] at hi;cases hi
    |some L=>rw[q] at hi;simp at hi;omega
   |i+1,j+1=>
    rw[nS] at hi hj;cases q:rl[i]? with
    |none=>rw[q] at hi;cases hi
    |some L=>
     cases q':rl[j]? with
     |none=>rw[q'] at hj;cases hj
     |some L'=>rw[q] at hi;rw[q'] at hj;simp at hi hj;omega
  have A2:=hA1.up (h1:=⟨xp (iG.zip (.map (es.map (Du φ)) cl :: rl.map lI)) ((h.set g (some (.ghost (.map es cl :: rl.map lI)))).tr.put g none),h.next+rl.length⟩) fun a hAt=>zaj hAt (g:=g) (os:=.map es cl :: rl.map lI) (by rw[H.gj,if_pos rfl]) rfl (by show h.next<=_;omega) nd n0 (by rw[hnums];simp[qZ]) (fun i x hx=>by
   match i with
   |0=>exact .inl rfl
   |i+1=>
    refine .inr ?_;rw[nS] at hx;cases q:rl[i]? with
    |none=>rw[q] at hx;cases hx
    |some L=>rw[q] at hx;simp at hx;have:=(ai.1 q).1;show h.next<=x/\x<h.next+rl.length;omega) fun i o ho=>by
   match i with
   |0=>
    simp only[bZ,bW] at ho;subst ho;refine⟨_,rfl,Fz (by simp) fun i e e' h1 h2=>?_⟩;rw[aL,h2] at h1;cases h1;obtain⟨j,L,q1,q2,_⟩:=hval e' (aC h2);refine⟨?_,?_,by rw[rX]⟩;·obtain⟨x,y,z,hk,_⟩:=hM.key e' (aC h2);rw[BS,hk];exact(Fy (ke x y z)).1
    .rw[mz φ q2,q2];refine .slice ?_;have:=Bn nd (i:=j+1) (x:=h.next+j) (by rw[nS,q1];rfl);rw[hφ];simp only;rw[show h.next+(1002+j - 1002)=h.next+j by omega,this];congr 1;omega
   |i+1=>
    simp only[aQ] at ho;refine⟨o,ho,?_⟩;rw[aL] at ho;cases q:rl[i]? with
    |none=>rw[q] at ho;cases ho
    |some L=>rw[q] at ho;cases ho;obtain⟨L',e1,e2,_⟩:=hM.row (lI L) (aJ.2 ⟨L,aC q,rfl⟩);obtain⟨_,_,rfl,_⟩:=(O.cells.injEq ..).mp e1;exact zZ (fun v hv=>let ⟨z,a,b⟩:=e2 v hv;⟨z,a,b⟩) (pg L)
  have zl:iG.length=(O.map (es.map (Du φ)) cl :: rl.map lI).length:=by rw[hnums];simp[qZ]
  have get1:∀ (i x:Nat) (o:O),iG[i]?=some x->(O.map (es.map (Du φ)) cl :: rl.map lI)[i]?=some o->(xp (iG.zip (.map (es.map (Du φ)) cl :: rl.map lI)) ((h.set g (some (.ghost (.map es cl :: rl.map lI)))).tr.put g none)).get x=some o:=fun i x o h1 h2=>by refine Bq (i:=i) ?_ (by rw[List.getElem?_zip_eq_some];exact⟨h1,h2⟩);rw[List.map_fst_zip (by omega)];exact nd
  have inR:∀ p,p∈IY h.next rl->∃ j:Nat,rl[j]?=some p.2/\p.1=h.next+j:=fun p hp=>by
   obtain⟨j,hj⟩:=aX.1 hp;rw[vI] at hj;cases q:rl[j]? with
   |none=>rw[q] at hj;cases hj
   |some L=>rw[q] at hj;simp at hj;subst hj;exact⟨j,q,rfl⟩
  refine⟨es.map (Du φ),cl,IY h.next rl,_,⟨by simpa using hM.few,by rw[qZ];simpa using hM.fewR,?_,fun p hp=>?_,fun e he=>?_,fun e he=>?_,fun e he=>?_,?_,?_⟩,A2,get1 0 g _ n0 rfl,fun p hp=>?_,cY _ _,fun x hx hne=>?_⟩;·have:=nd;rw[hnums,bC] at this;exact this.2
  .obtain⟨j,q1,q2⟩:=inR p hp;obtain⟨L',e1,e2,e3⟩:=hM.row (lI p.2) (aJ.2 ⟨p.2,aC q1,rfl⟩);obtain⟨_,_,e4,_⟩:=(O.cells.injEq ..).mp e1;rw[<- e4] at e2 e3;refine⟨lI p.2,?_,pg _,(fun v hv=>let ⟨z,a,b⟩:=e2 v hv;⟨z,a,b⟩),e3⟩;refine get1 (j+1) p.1 _ (by rw[nS,q1,q2];rfl) ?_;rw[aQ,aL,q1];rfl
  .obtain⟨e0,p1,rfl⟩:=aJ.1 he;obtain⟨x,y,z,k1,k2,k3,k4⟩:=hM.key e0 p1;exact⟨x,y,z,by rw[BS,k1];exact ke _ _ _,k2,k3,k4⟩
  .obtain⟨e0,p1,rfl⟩:=aJ.1 he;rw[rX];exact hM.born e0 p1
  .obtain⟨e0,p1,rfl⟩:=aJ.1 he;obtain⟨j,L,q1,q2,q3⟩:=hren e0 p1;exact⟨(h.next+j,L),aC (i:=j) (by rw[vI,q1];rfl),q2,q3⟩
  .rw[dr];have:((fun e:V×V×Nat=>e.2.2) ∘ Du φ)=fun e=>e.2.2:=funext fun e=>rX φ e;rw[this];exact hM.stamps
  .refine kK fun i j x hi hj=>?_;rw[aL,aL] at hi hj;cases qi:es[i]? with
   |none=>rw[qi] at hi;cases hi
   |some ei=>
    cases qj:es[j]? with
    |none=>rw[qj] at hj;cases hj
    |some ej=>
     rw[qi] at hi;rw[qj] at hj;simp at hi hj;obtain⟨ji,Li,a1,a2,_⟩:=hren ei (aC qi);obtain⟨jj,Lj,b1,b2,_⟩:=hren ej (aC qj);obtain⟨ji',Li',c1,c2,_⟩:=hval ei (aC qi);obtain⟨jj',Lj',d1,d2,_⟩:=hval ej (aC qj);have r1:=mz φ c2;have r2:=mz φ d2;rw[hi] at r1;rw[hj] at r2;rw[r1,hφ] at r2;have:=xJ r2;simp only at this;have e3:ji'=jj':=by omega
     subst e3;rw[c1] at d1;cases d1;exact gS hM.apart (x:=ei.2.1) (by rw[aL,qi];rfl) (by rw[aL,qj,c2,<- d2];rfl)
  .obtain⟨j,q1,q2⟩:=inR p hp;have:=(ai.1 q1).1;rw[q2];exact⟨cY _ _,by show _<h.next+rl.length;omega⟩
  .show(xp _ _).get x=_;rw[mg,T.eL,if_neg hne,H.gj,if_neg hne];intro p hp e;have:=(List.of_mem_zip hp).1;rw[e,hnums] at this;rcases aq.1 this with q|q
   .exact hne q
   .obtain⟨y,y1,y2⟩:=aJ.1 q;obtain⟨j,_,q2⟩:=inR y y1;omega
end
noncomputable section
def Rx (os:List O)(y:Nat):Option Nat:=if 1001<=y/\y<1001+os.length then some y else none
def Dv (k:V):V:=match k with
 |.agg _ pat tr=>.agg 3 [(cell 3 pat tr 0).getD .nils,(cell 3 pat tr 1).getD .nils,(cell 3 pat tr 2).getD .nils] .leaf
 |k=>k
def Aa (R:List Nat)(e:V×V×Nat):V×V×Nat:=(Dv e.1,(match e.2.1 with
 |.slice b o n c=>.slice (1002+R.idxOf b) o n c
 |v=>v),e.2.2)
end
theorem IZ {os:List O}(h:∀ o,o∈os->o.rw=true/\RO (Rx os) o o)(h1:os≠[])(h2:os.length<800000):Whole os:=by
 refine⟨fun x o hx Y Y' Mm c hr ho=>?_,fun o ho=>(h o ho).1,h1,h2⟩;rw[kS] at hx;split at hx
 .refine(h o (aC hx)).2.rel Y Y' (fun a b e=>?_) Mm c ho;unfold Rx at e;split at e;·rename_i q;cases e;exact hr a q.1 (by rw[lY];exact q.2)
  .cases e
 .cases hx
theorem rY {k:V}{x y z:Int}(h:xI k x y z):Dv k=IX x y z:=by obtain⟨pat,tr,rfl,h0,h1,h2⟩:=h;simp only[Dv,h0,h1,h2,Option.getD_some,IX]
theorem OT {l:List Nat}(hd:l.Nodup){j x:Nat}(h:l[j]?=some x):l.idxOf x=j:=by have hm:=aC h;have:=List.idxOf_lt_length_of_mem hm;exact gS hd (ai.2 ⟨this,List.getElem_idxOf this⟩) h
section
variable {Y0:Ren}{h0:H}{w0:World}{a0:Act}{env:Env}{h:H}{a:Act}{w:World}
theorem AtD.BT (hA:AtD Y0 h0 w0 a0 env h a w){g:Nat}{R:List (Nat×List V)}(k:oa n es cl R h)(hg:h.tr.get g=some (.map es cl))(hgR:g∉R.map Prod.fst)(hn:n<700000)(hn':h'.next=h.next)(hg':h'.tr.get g=some (gM n))
  (hget:∀ y o,h'.tr.get y=some o->y≠g->h.tr.get y=some o/\y∉R.map Prod.fst):AtD Y0 h0 w0 a0 env h' a w:=by
 obtain⟨N,hN⟩:∃ N,N=R.map Prod.fst:=⟨_,rfl⟩;have ndN:N.Nodup:=by rw[hN];exact k.nd
 have one:∀ e,e∈es->∃ (j:Nat) (p:Nat×List V),R[j]?=some p/\N[j]?=some p.1/\e.2.1=.slice p.1 0 p.2.length (.atl p.2.length 1)/\(Aa N e).2.1=.slice (1002+j) 0 p.2.length (.atl p.2.length 1)/\0<p.2.length:=fun e he=>by
  obtain⟨p,p1,p2,p3⟩:=k.val e he;obtain⟨j,hj⟩:=aX.1 p1;have hNj:N[j]?=some p.1:=by rw[hN,aL,hj];rfl
  refine⟨j,p,hj,hNj,p2,?_,p3⟩;simp only[Aa,p2,OT ndN hNj]
 obtain⟨rows,hrows⟩:∃ rows:List O,rows=R.map fun p=>lI p.2:=⟨_,rfl⟩;have rowAt:∀ {j:Nat} {p:Nat×List V},R[j]?=some p->rows[j]?=some (lI p.2):=fun {j p} q=>by rw[hrows,aL,q];rfl
 have hM:Qx 3 n (es.map (Aa N)) cl rows:=by
  refine⟨by simpa using k.few,by rw[hrows];simpa using k.fewR,fun o ho=>?_,fun e he=>?_,fun e he=>?_,fun e he=>?_,?_,?_⟩;·rw[hrows] at ho;obtain⟨p,p1,rfl⟩:=aJ.1 ho;obtain⟨_,_,_,q2,q3⟩:=k.live p p1;exact⟨p.2,rfl,fun v hv=>let ⟨z,a,b⟩:=q2 v hv;⟨z,a,b⟩,q3⟩
  .obtain⟨e0,p1,rfl⟩:=aJ.1 he;obtain⟨x,y,z,q1,q2,q3,q4⟩:=k.key e0 p1;exact⟨x,y,z,rY q1,q2,q3,q4⟩
  .obtain⟨e0,p1,rfl⟩:=aJ.1 he;exact k.born e0 p1
  .obtain⟨e0,p1,rfl⟩:=aJ.1 he;obtain⟨j,p,q1,_,_,q2,q3⟩:=one e0 p1;exact⟨j,p.2,q2,rowAt q1,q3⟩
  .rw[dr];exact k.stamps
  .refine kK fun i j x hi hj=>?_;rw[aL,aL] at hi hj;cases qi:es[i]? with
   |none=>rw[qi] at hi;cases hi
   |some ei=>
    cases qj:es[j]? with
    |none=>rw[qj] at hj;cases hj
    |some ej=>
     rw[qi] at hi;rw[qj] at hj;simp at hi hj;obtain⟨ji,pi,a1,_,a3,a4,_⟩:=one ei (aC qi);obtain⟨jj,pj,b1,_,b3,b4,_⟩:=one ej (aC qj);rw[hi] at a4;rw[hj,a4] at b4;have:=xJ b4;have e3:ji=jj:=by omega
     subst e3;rw[a1] at b1;cases b1;exact gS k.apart (x:=ei.2.1) (by rw[aL,qi];rfl) (by rw[aL,qj,a3,<- b3];rfl)
 have hlen:N.length=rows.length:=by rw[hN,hrows];simp
 have rowCells:∀ o,o∈rows->∃ p,p∈R/\o=lI p.2:=fun o ho=>by rw[hrows] at ho;obtain⟨p,p1,rfl⟩:=aJ.1 ho;exact⟨p,p1,rfl⟩
 have hw:Whole (.map (es.map (Aa N)) cl :: rows):=by
  refine IZ (fun o ho=>?_) (by simp) (by have:=hM.fewR;simp;omega);rcases aq.1 ho with rfl|ho
  .refine⟨rfl,Fz rfl fun i e e' he he'=>?_⟩;rw[he] at he';cases he';obtain⟨e0,p1,rfl⟩:=aJ.1 (aC he);obtain⟨x,y,z,q1,_⟩:=k.key e0 p1;obtain⟨j,p,r1,_,_,r2,_⟩:=one e0 p1;refine⟨?_,?_,rfl⟩;·show RV _ (Dv e0.1) (Dv e0.1);rw[rY q1];exact(Fy (ke x y z)).1
   .rw[r2];refine .slice ?_;have:=(ai.1 (rowAt r1)).1;unfold Rx;rw[if_pos (by simp;omega)]
  .obtain⟨p,p1,rfl⟩:=rowCells o ho;obtain⟨_,_,_,q2,_⟩:=k.live p p1;exact⟨rfl,zZ q2 (pg _)⟩
 have nd:(g :: N).Nodup:=bC.2 ⟨by rw[hN];exact hgR,ndN⟩;have A2:=hA.up (h1:=(⟨h'.tr.put g (some (.ghost (.map (es.map (Aa N)) cl :: rows))),h.next⟩:H).set g (some (gM n))) fun a hAt=>by
  have hp:=zak hAt (g:=g) (os:=.map (es.map (Aa N)) cl :: rows) (iG:=g :: N) (h':=⟨h'.tr.put g (some (.ghost (.map (es.map (Aa N)) cl :: rows))),h.next⟩) nd rfl (by simp[hlen]) hw (fun i o x hi hx=>by
   match i with
   |0=>
    simp only[bZ,bW] at hi hx;subst hi hx;refine⟨_,hg,Fz (by simp) fun i e e' h1 h2=>?_⟩;rw[aL,h2] at h1;cases h1;obtain⟨x,y,z,q1,_⟩:=k.key e' (aC h2);obtain⟨j,p,r1,r2,r3,r4,_⟩:=one e' (aC h2);refine⟨?_,?_,rfl⟩;·show RV _ (Dv e'.1) e'.1;rw[rY q1];exact(Fy q1).1
    .rw[r4,r3];refine .slice ?_;have:=Bp (iG:=g :: N) (i:=j+1) (x:=p.1) (by rw[aQ];exact r2);rw[show 1002+j=1001+(j+1) by omega];exact this
   |i+1=>
    simp only[aQ] at hi hx;rw[hrows,aL] at hi;rw[hN,aL] at hx;cases q:R[i]? with
    |none=>rw[q] at hi;cases hi
    |some p=>rw[q] at hi hx;simp at hi hx;subst hi hx;obtain⟨o',q1,q2,q3,_⟩:=k.live p (aC q);exact⟨o',q1,zZ q3 q2⟩) rfl (by simp only[T.eL,if_true]) fun y o hy hne=>by
    simp only[T.eL] at hy;rw[if_neg hne] at hy;obtain⟨b1,b2⟩:=hget y o hy hne;exact⟨b1,fun hm=>by
     rcases aq.1 hm with e|e;·exact hne e
     .exact b2 (by rw[<- hN];exact e)⟩
  exact NA hp (g:=g) (os:=[.ro (some 3) n [] .leaf]) (by simp only[T.eL,if_true]) (.rowsM hM)
 refine A2.sub (by rw[hn'];exact aF _) fun x o hx=>?_;rw[H.gj];split;·rename_i e;subst e;rw[hg'] at hx;exact hx
 .rename_i e;show(h'.tr.put g _).get x=_;rw[T.eL,if_neg e];exact hx
theorem AtD.drop (hA:AtD Y0 h0 w0 a0 env h a w){env1:Env}(hz:env1.sz=env.sz)(hv:∀ t v,env1.tr.get t=some v->env.tr.get t=some v/\RV (fun x=>if x<h0.next then some x else none) v v)(hn:h'.next=h0.next)(h1000:1000<=h0.next)(hget:∀ x o,h'.tr.get x=some o->x<h0.next/\∃ o',h.tr.get x=some o'/\RO (fun x=>if x<h0.next then some x else none) o o'):AtD Y0 h0 w0 a0 env1 h' a w:=by
 obtain⟨Y,s1,s2,s3,s4⟩:=hA;obtain⟨Y',t1,t2,_,t4⟩:=Ny (h':=h') s1 (fun x=>if x<h0.next then some x else none) (fun g hg=>by rw[if_pos (by omega)]) (fun x y q=>by
  rw[hn];split at q;·assumption
  .cases q) (fun x x' y _ _ _ _ q q'=>by
  split at q
  .split at q';·cases q;cases q';rfl
   .cases q'
  .cases q) (fun x o hx=>by
  obtain⟨q1,o',q2,q3⟩:=hget x o hx;exact⟨x,o',by rw[if_pos q1],q2,q3⟩)
 have e:=t4 s2.zero;refine⟨Y',t1,⟨eF hn.symm,fun b hb=>?_,fun b hb q=>?_,e.size,e.frame,e.origin,e.tape,e.os,e.output⟩,⟨by rw[hz];exact s3.1,fun t v ht=>?_⟩,s4⟩;·rw[t2 b b (by rw[if_pos hb]),s2.agree b hb]
 .have q:=s2.old b hb q;cases g:h'.tr.get b with
  |none=>rfl
  |some o=>obtain⟨_,o',g',_⟩:=hget b o g;rw[q] at g';cases g'
 .obtain⟨p,q⟩:=hv t v ht;obtain⟨c,c1,c2⟩:=s3.2 t v p;exact⟨c,c1,q Y Y' t2 c c2⟩
end
end Go.Hid
namespace Go.Hid
open Go.Ev Go.RowKit
open Go.Ae (gH rR clP zY lkP jI kM)
variable {w u:V}{es:List (V×V×Nat)}{cl:Nat}
theorem Ab {i:Nat}{e:V×V×Nat}(h:(rR w u es cl)[i]?=some e):(gH w es 0=none/\i=es.length/\e=(w,u,cl))\/(∃ y,gH w es 0=some (i,y)/\es[i]?=some y/\e=(w,u,y.2.2))\/(es[i]?=some e/\∀ y,gH w es 0≠some (i,y)):=by
 unfold rR at h;cases q:gH w es 0 with
 |none=>
  rw[q] at h;simp only at h;rw[aG] at h;split at h;·exact .inr (.inr ⟨h,fun y e=>nomatch e⟩)
  .rename_i hl;have hi:=(ai.1 h).1;simp at hi;have:i=es.length:=by omega
   subst this;simp at h;exact .inl ⟨rfl,rfl,h.symm⟩
 |some p=>
  obtain⟨j,y⟩:=p;rw[q] at h;simp only at h;rw[Go.Ae.mA] at h;obtain⟨_,q2,_⟩:=jI q;rw[dw] at q2;split at h;·rename_i e1;subst e1;rw[q2] at h;simp at h;exact .inr (.inl ⟨y,rfl,q2,h.symm⟩)
  .rename_i ne;exact .inr (.inr ⟨h,fun y' e=>by cases e;exact ne rfl⟩)
theorem B1:(rR w u es cl).length<=es.length+1:=by
 unfold rR;cases gH w es 0 with
 |none=>simp
 |some p=>
  have:∀ (f:V×V×Nat->V×V×Nat) (n:Nat) (l:List (V×V×Nat)),(iH f n l).length=l.length:=fun f n l=>by
   induction l generalizing n with
   |nil=>simp[iH]
   |cons x l ih=>cases n<;>simp[iH,ih]
  simp only;rw[this];omega
theorem oa.put {n:Nat}{R R':List (Nat×List V)}{h h':H}(k:oa n es cl R h){n':Nat}{x y z:Int}{b:Nat}{L:List V}{o:O}(hw:xI w x y z/\InI x/\InI y/\InU z)(hu:u=.slice b 0 L.length (.atl L.length 1))(hL:0<L.length)(hLn:L.length<=n')
  (hb:b∉R'.map Prod.fst)(hsub:∀ p,p∈R'->p∈R)(ndR:(R'.map Prod.fst).Nodup)(hkeep:∀ (i:Nat) (e:V×V×Nat),es[i]?=some e->(∀ y,gH w es 0≠some (i,y))->∃ p,p∈R'/\e.2.1=.slice p.1 0 p.2.length (.atl p.2.length 1)/\0<p.2.length)(hn:n<=n')(hfew:es.length+1<=n')(hfewR:R'.length+1<=n')
  (hlive:∀ p,p∈R'->h'.tr.get p.1=h.tr.get p.1)(hbo:h'.tr.get b=some o)(hc:uz L o)(hi:OS L):oa n' (rR w u es cl) (clP w es cl) (R'++[(b,L)]) h':=by
 have clb:∀ e,e∈es->e.2.2<clP w es cl:=fun e he=>by have:=k.born e he;unfold clP;split<;>omega
 have mem:∀ e,e∈rR w u es cl->(e.1=w/\e.2.1=u/\e.2.2<clP w es cl)\/∃ i:Nat,es[i]?=some e/\∀ y,gH w es 0≠some (i,y):=fun e he=>by
  obtain⟨i,hi⟩:=aX.1 he;rcases Ab hi with⟨q1,_,rfl⟩|⟨y,q1,q2,rfl⟩|⟨q1,q2⟩;·refine .inl ⟨rfl,rfl,?_⟩;unfold clP;rw[q1];exact cF _
  .exact .inl ⟨rfl,rfl,clb y (aC q2)⟩
  .exact .inr ⟨i,q1,q2⟩
 refine⟨bF B1 hfew,by simp;omega,?_,fun p hp=>?_,fun e he=>?_,fun e he=>?_,fun e he=>?_,?_,?_⟩;·rw[cP];refine dJ.2 ⟨ndR,by simp,fun a ha c hc e=>?_⟩;simp at hc;subst hc e;exact hb ha
 .rcases aK.1 hp with q|q;·obtain⟨o1,q1,q2,q3,q4⟩:=k.live p (hsub p q);exact⟨o1,by rw[hlive p q];exact q1,q2,q3,bF q4 hn⟩
  .rw[aj.1 q];exact⟨o,hbo,hc,hi,hLn⟩
 .rcases mem e he with⟨q,_⟩|⟨i,q,_⟩;·rw[q];exact⟨x,y,z,hw⟩
  .exact k.key e (aC q)
 .rcases mem e he with⟨_,_,q⟩|⟨i,q,_⟩;·exact q
  .exact clb e (aC q)
 .rcases mem e he with⟨_,q,_⟩|⟨i,q1,q2⟩;·exact⟨(b,L),by simp,by rw[q,hu],hL⟩
  .obtain⟨p,p1,p2⟩:=hkeep i e q1 q2;exact⟨p,dK _ p1,p2⟩
 .unfold rR;cases q:gH w es 0 with
  |none=>simp only[cP,aS,cB];refine dJ.2 ⟨k.stamps,by simp,fun a ha c hc e=>?_⟩;simp at hc;subst hc e;obtain⟨e0,e1,e2⟩:=aJ.1 ha;have:=k.born e0 e1;omega
  |some p=>simp only;rw[kM (f:=fun y:V×V×Nat=>(w,u,y.2.2)) (fun _=>rfl)];exact k.stamps
 .refine kK fun i j v hi hj=>?_;rw[aL] at hi hj;cases qi:(rR w u es cl)[i]? with
  |none=>rw[qi] at hi;cases hi
  |some ei=>
   cases qj:(rR w u es cl)[j]? with
   |none=>rw[qj] at hj;cases hj
   |some ej=>
    rw[qi] at hi;rw[qj] at hj;simp at hi hj;have far:∀ {i:Nat} {e:V×V×Nat},es[i]?=some e->(∀ y,gH w es 0≠some (i,y))->e.2.1≠u:=fun {i e} q1 q2 q3=>by obtain⟨p,p1,p2,_⟩:=hkeep i e q1 q2;rw[q3,hu] at p2;injection p2 with e1;exact hb (by rw[e1];exact aJ.2 ⟨p,p1,rfl⟩)
    rcases Ab qi with⟨a1,a2,a3⟩|⟨y1,a1,a2,a3⟩|⟨a1,a2⟩<;>rcases Ab qj with⟨b1,b2,b3⟩|⟨y2,b1,b2,b3⟩|⟨b1,b2⟩;·omega
    .rw[a1] at b1;cases b1
    .exact absurd (by rw[hj,<- hi,a3]) (far b1 b2)
    .rw[b1] at a1;cases a1
    .rw[a1] at b1;cases b1;rfl
    .exact absurd (by rw[hj,<- hi,a3]) (far b1 b2)
    .exact absurd (by rw[hi,<- hj,b3]) (far a1 a2)
    .exact absurd (by rw[hi,<- hj,b3]) (far a1 a2)
    .exact gS k.apart (x:=v) (by rw[aL,a1];simp[hi]) (by rw[aL,b1];simp[hj])
end Go.Hid
namespace Go.Proofs.YtboaighhnghpdaaGreatDoor
open Go Go.Ev Go.Ae Go.RowKit
set_option maxRecDepth 100000
variable {Z:NV}{x y z:Int}
noncomputable def cfH:CF:=RY C.Tc S.G0 C.inv C.spec (fun _=>[]) C.gl C.ann (fun _ _=>none)
noncomputable def Ad:Code->Nat->Option Code
 |.region i ops d,n=>match Nat.beq i n with
  |true=>some (.region i ops d)
  |false=>none
 |.seq a b,n=>match Ad a n with
  |some c=>some c
  |none=>Ad b n
 |.cond _ a b,n=>match Ad a n with
  |some c=>some c
  |none=>Ad b n
 |.block _ b,n=>Ad b n
 |.loop b,n=>Ad b n
 |_,_=>none
noncomputable def rZ (f:FuncId):Code:=match S.G0.funcs.get f with
 |some fn=>match fn.body with
  |some c=>c
  |none=>.skip
 |none=>.skip
noncomputable def partOf (f:FuncId)(n:Nat):Code:=match Ad (rZ f) n with
 |some c=>c
 |none=>.skip
noncomputable def opsOf:Code->Array Oper
 |.region _ ops _=>ops
 |_=>#[]
theorem Af (B:TH)(n:Nat):qn Tryz.prog (Th B C.inv) (qH cfH n):=vB (cf:=cfH) (P:=Tryz.prog) (S.jl _).1 (S.jl _).2 (fun _ _ h=>by cases h) (fun _ _ _ h=>by cases h) n
theorem FB (P:Program)(M:TH):DJ P M fun _ _ _ _=>false:=fun _ _ _ _ h=>by cases h
noncomputable def Ag:Ip:=fun _ _ _ _=>false
theorem FC {B:TH}{ops:Array Oper}{id:Nat}{J:AS}{K:AS->Bool}(h:mK S.G0 (qH cfH 40) Ag ops (nW ops.toList 0 .leaf) 0 ⟨[],[],[],J.mem,[]⟩ J K=true)(hok:kV ops=true){fr:FR}{env:Env}{hh:H}(hM:Mem (Th B C.inv) fr Z J ⟨env,hh,[]⟩):
  ∃ env' h',(∀ {F:Fence} (_:xu F) {Y:Ren} {a:Act} {w:World} {k:Nat} {Q:Exit->Act->World->Prop},Sim Y hh w->iU Y env a.tmps->(∀ Y' a' w',Sim Y' h' w'->Ext Y hh w Y' h' w'->iU Y' env' a'.tmps->a'.defers=a.defers->Q .normal a' w')->(Code.region id ops true).wpIn F k Tryz.prog Q a w)/\env'.sz=env.sz/\(∀ t,t∉sC ops.toList->env'.tr.get t=env.tr.get t)/\∃ Z' J',Z.le Z'/\Mem (Th B C.inv) fr Z' J' ⟨env',h',[]⟩/\K J'=true:=by
 obtain⟨call',env',h',c1,c2,a1,a0,Z',J',a3,a4,a5⟩:=BC (Af B 40) (FB _ _) h hM;exact⟨env',h',fun {F} hF {Y a w k Q} hS hEe hQ=>Bc (S.jl _).1 c1 hF hok (S.jl fun _ _ _=>none).1.mixed c2 hS hEe hQ,a0,a1,Z',J',a3,a4,a5⟩
theorem B3 {lo hi:Option LE}{N:LE}{n:Nat}{pat:List V}{tr:T V}(h:CR Z [.rw [.int .i64 lo hi] N none] n pat tr):∃ L:List V,L.length=n/\Num Z N (n:Int)/\Hid.uz L (.cells (some 3) n pat tr)/\Hid.OS L:=by
 obtain⟨cnt,h1,h2⟩:=h.LX;have hn:n=cnt:=by have:=h2.len;simpa using this
 subst hn;have at':∀ i,i<n->∃ z:Int,cell n pat tr i=some (.int .i64 z)/\Hid.InI z:=fun i hi=>by
  obtain⟨c,k,x,y,z⟩:=h2.at' i hi;simp only[List.length_singleton,dB,bZ,bW] at y;subst y;cases z with
  |int r _ _=>exact⟨_,x,r⟩
 refine⟨(List.range n).map fun i=>(cell n pat tr i).getD .nils,by simp,h1,⟨pat,tr,by simp,fun i hi=>?_⟩,fun v hv=>?_⟩;·simp at hi;obtain⟨z,x,_⟩:=at' i hi;rw[aL,List.getElem?_range hi];simp[x]
 .obtain⟨i,i1,rfl⟩:=aJ.1 hv;obtain⟨z,x,y⟩:=at' i (List.mem_range.1 i1);exact⟨z,by simp[x],y⟩
theorem KA {N:LE}{L:List V}{o:O}(hN:Num Z N (L.length:Int))(hc:Hid.uz L o)(hi:Hid.OS L):∃ pat tr,o=.cells (some 3) L.length pat tr/\CR Z [.rw [.int .i64 none none] N none] L.length pat tr:=by obtain⟨pat,tr,rfl,h⟩:=hc;refine⟨pat,tr,rfl,tS.cr ⟨by simp,fun i hi'=>?_⟩ hN⟩;have e:=h i hi';rw[ah hi'] at e;obtain⟨z,e1,e2⟩:=hi _ (dA hi');exact⟨_,.int .i64 none none,e,by simp[dB],by rw[e1];exact .int e2 (fun _ q=>nomatch q) fun _ q=>nomatch q⟩
theorem KB {e1 e2 e3:LE}{w:V}(h:AV Z (.ag [.i .i64 e1,.i .i64 e2,.i .u32 e3]) w)(hx:Num Z e1 x)(hy:Num Z e2 y)(hz:Num Z e3 z):Hid.xI w x y z:=by
 obtain⟨n,pat,tr,rfl,cr⟩:=h.cr;have il:∀ a,a∈([.i .i64 e1,.i .i64 e2,.i .u32 e3]:List A)->∃ k e,a=.i k e:=fun a ha=>by simp only[aq,aA,or_false] at ha;rcases ha with rfl|rfl|rfl<;>exact⟨_,_,rfl⟩
 have hn:=rh cr.len il;have hn:n=3:=hn;subst hn;have at':∀ i,i<3->∃ k e z,[A.i .i64 e1,.i .i64 e2,.i .u32 e3][i]?=some (.i k e)/\Num Z e z/\cell 3 pat tr i=some (.int k z):=fun i hi=>by obtain⟨c,c1,c2⟩:=cr.get hi;obtain⟨k,e,z,a,b,d⟩:=xV c2 il;exact⟨k,e,z,a,b,by rw[c1,d]⟩
 obtain⟨k0,f0,z0,a0,b0,c0⟩:=at' 0 (by omega);obtain⟨k1,f1,z1,a1,b1,c1⟩:=at' 1 (by omega);obtain⟨k2,f2,z2,a2,b2,c2⟩:=at' 2 (by omega);simp at a0 a1 a2;obtain⟨rfl,rfl⟩:=a0;obtain⟨rfl,rfl⟩:=a1;obtain⟨rfl,rfl⟩:=a2;exact⟨pat,tr,rfl,by rw[c0,b0.fn hx],by rw[c1,b1.fn hy],by rw[c2,b2.fn hz]⟩
theorem B4 {e1 e2 e3:LE}(hx:Num Z e1 x)(hy:Num Z e2 y)(hz:Num Z e3 z):AV Z (.ag [.i .i64 e1,.i .i64 e2,.i .u32 e3]) (Hid.IX x y z):=by
 have one:∀ k e,WV Z (.i k e) 1:=fun k e=>.one fun _ _ _ q=>by cases q
 refine .ag (.cons (w:=1) (one _ _) (.cons (w:=1) (one _ _) (.cons (w:=1) (one _ _) .nil))) (fun i hi=>?_) fun i c hc=>?_
 .match i with
  |0=>rfl
  |1=>rfl
  |2=>rfl
  |i+3=>omega
 .have hi:=eT hc;match i with
  |0=>cases hc;exact .here rfl (.i hx)
  |1=>cases hc;exact .skip (w:=1) (i:=0) (one _ _) (.here rfl (.i hy))
  |2=>cases hc;exact .skip (w:=1) (i:=1) (one _ _) (.skip (w:=1) (i:=0) (one _ _) (.here rfl (.i hz)))
  |i+3=>omega
theorem xL {k:V}(h:Hid.xI k x y z)(hx:Hid.InI x)(hy:Hid.InI y)(hz:Hid.InU z):KsV Z true C.It k:=by
 obtain⟨pat,tr,rfl,h0,h1,h2⟩:=h;refine⟨3,pat,tr,rfl,rfl,fun i hi=>?_⟩;match i with
 |0=>exact⟨_,_,h0,rfl,.int hx (fun _ q=>nomatch q) fun _ q=>nomatch q⟩
 |1=>exact⟨_,_,h1,rfl,.int hy (fun _ q=>nomatch q) fun _ q=>nomatch q⟩
 |2=>exact⟨_,_,h2,rfl,.int hz (fun _ q=>nomatch q) fun _ q=>nomatch q⟩
 |i+3=>omega
end Go.Proofs.YtboaighhnghpdaaGreatDoor
namespace Go.Proofs.YtboaighhnghpdaaGreatDoor
open Go Go.Ev Go.Ae Go.Ae.C Go.RowKit
set_option maxRecDepth 100000
variable {B:TH}
noncomputable section
def TS:List A:=[I 6,I 7,Uu 8]
def Of (v:A)(r:List (Nat×AO)):List (Nat×AO):=[st 0 336 [.sl 3 oz (3,0) (.al (4,0) 6),.m 2],(2,.mq It TS v 1 0 (0,0)),st 1 53 [I 5,I 6,I 7,Uu 8,I 9,I 10]]++r
def aFs (r:List (LE×LE)):List (LE×LE):=JO++(((0,0),(1,0)) :: r)
def aSt (v:A)(r:List (Nat×AO))(fs:List (LE×LE)):AS:=⟨58,((T.leaf.put 0 (some (P 0))).put 3 (some (P 1))).put 5 (some (I 2)),gq 0 (Of v r) .leaf,12,0,5,(Of v r).length,ie fs ⟨.leaf,.leaf,[]⟩,[]⟩
def QS (J:AS):Bool:=match J.mem.get 2 with
 |some (_,.mq _ key (.sl E o n (.al m w)) 1 2 _)=>match J.mem.get E with
  |some (_,.cl false (some 3) [.rw [.int .i64 _ _] N none])=>eqQ J.z n m&&eqQ J.z n N&&leQ J.z (0,1) n&&leQ J.z n (1,1)&&Nat.beq w 1&&Nat.beq o.o 0&&Nat.beq o.st 0&&ij J.mem 0 0&&ij J.mem 1 2&&Mv J.z TS (.ag key)
  |_=>false
 |_=>false
def aV:A:=.sl 4 oz (11,0) (.al (11,0) 1)
def aR:List (Nat×AO):=[row 4 11 3 [i64]]
def aF1:List (LE×LE):=rg 11 1 10000++[((11,0),(1,0))]
def Eu:Array Oper:=opsOf (partOf 258 3)
end
theorem Rt:partOf 258 3=.region 3 Eu true:=by kernel_rfl
theorem aOk:kV Eu=true:=by kernel_rfl
theorem Ru:mK S.G0 (qH cfH 40) Ag Eu (nW Eu.toList 0 .leaf) 0 ⟨[],[],[],(aSt (.k .nils) [] (aFs [])).mem,[]⟩ (aSt (.k .nils) [] (aFs [])) QS=true:=by kernel_rfl
theorem Rv:mK S.G0 (qH cfH 40) Ag Eu (nW Eu.toList 0 .leaf) 0 ⟨[],[],[],(aSt aV aR (aFs aF1)).mem,[]⟩ (aSt aV aR (aFs aF1)) QS=true:=by kernel_rfl
theorem zar:(sC Eu.toList).contains 0=false/\(sC Eu.toList).contains 3=false/\(sC Eu.toList).contains 5=false:=⟨by kernel_rfl,by kernel_rfl,by kernel_rfl⟩
def tX (B:TH):Prop:=∀ zs b hp,B 7 zs b hp↔∃ n:Nat,zs=[(n:Int)]/\hp=[(b,Hid.gM n)]
theorem tX.out (hB:tX B){zs:List Int}{b:Nat}{hp:List (Nat×O)}(h:Th B C.inv 7 zs b hp):∃ n:Nat,zs=[(n:Int)]/\hp=[(b,Hid.gM n)]:=by
 obtain⟨m,h⟩:=h;cases m with
 |zero=>exact h.elim
 |succ m=>
  obtain⟨_,⟨_,h⟩|⟨p,hp,_⟩⟩:=h;·exact(hB _ _ _).1 h
  .cases hp
theorem tX.in (hB:tX B)(n b:Nat):Th B C.inv 7 [(n:Int)] b [(b,Hid.gM n)]:=⟨1,rfl,.inl ⟨rfl,(hB _ _ _).2 ⟨n,rfl,rfl⟩⟩⟩
noncomputable section
def m4 (bs bb bg:Nat)(O0 O2 Og g2:O)(nx:Nat):H:=⟨(((T.leaf.put 2 (some g2)).put bs (some O0)).put bb (some O2)).put bg (some Og),nx⟩
end
theorem mT {bs bb bg:Nat}{O0 O2 Og g2:O}{nx:Nat}(x:Nat):(m4 bs bb bg O0 O2 Og g2 nx).tr.get x=if x=bg then some Og else if x=bb then some O2 else if x=bs then some O0 else if x=2 then some g2 else none:=by simp only[m4,T.eL,T.eR]
noncomputable section
def Dq:CN:=⟨10,0,4,[P 0,P 1,I 2],Nq (1,0),JO,[o0 (.tp []) (Nq (1,1))]⟩
def OQ:HD:=⟨[0,3,5],58,[Dq]⟩
end
theorem pe {n:Nat}{t:Option TypeId}{k:Nat}{pat:List V}{tr:T V}(h:∀ i v,cell k pat tr i=some v->RV (fun x=>if x<n then some x else none) v v):RO (fun x=>if x<n then some x else none) (.cells t k pat tr) (.cells t k pat tr):=.cells (fun _ q=>q) fun i v hv=>⟨v,hv,h i v hv⟩
theorem Fo {Y:Ren}{h h1:H}{w:World}{a:Act}{tr:T V}{bs bb bg nn:Nat}{O0 O2 g2:O}{es:List (V×V×Nat)}{cl:Nat}{R R':List (Nat×List V)}{x y z:Int}{k:Nat}{Q:Exit->Act->World->Prop}{F:Fence}(hF:xu F)
  {v:A}{r:List (Nat×AO)}{fs:List (LE×LE)}(hr:mK S.G0 (qH cfH 40) Ag Eu (nW Eu.toList 0 .leaf) 0 ⟨[],[],[],(aSt v r fs).mem,[]⟩ (aSt v r fs) QS=true)
  {Z1:NV}(hM1:Mem (Th B C.inv) (lB Z1 (aSt v r fs).mem h1) Z1 (aSt v r fs) ⟨⟨58,tr⟩,h1,[]⟩)(hi:Z1.ints[1]?=some (nn:Int)/\Z1.ints[6]?=some x/\Z1.ints[7]?=some y/\Z1.ints[8]?=some z)
  (ho0:Z1.objs[0]?=some [(bs,O0)])(ho1:Z1.objs[1]?=some [(bg,.map es cl)])(ho2:Z1.objs[2]?=some [(bb,O2)])
  (hin:Hid.InI x/\Hid.InI y/\Hid.InU z)(hnn:nn<=10000)(hn0:bs<h.next/\bb<h.next/\bg<h.next/\1000<=h.next)(hne:bs≠bb/\bs≠bg/\bb≠bg/\bs≠2/\bb≠2/\bg≠2)(hle1:h.next<=h1.next)
  (hA1:Hid.AtD Y (m4 bs bb bg O0 O2 (Hid.gM nn) g2 h.next) w a ⟨58,tr⟩ h1 a w)(kO:Hid.oa nn es cl R h1)(hR:∀ p,p∈R->h.next<=p.1/\p.1<h1.next)(g1:h1.tr.get 2=some g2)(lg2:∀ f,RO f g2 g2)
  (hsub:∀ p,p∈R'->p∈R)(ndR:(R'.map Prod.fst).Nodup)(hlen:R'.length<=nn)(hown:∀ p,p∈R'->¬ KF Z1 (aSt v r fs).mem p.1)(hown2:¬ KF Z1 (aSt v r fs).mem 2)
  (hkeep:∀ (i:Nat) (e:V×V×Nat),es[i]?=some e->(∀ q,gH (Hid.IX x y z) es 0≠some (i,q))->∃ p,p∈R'/\e.2.1=.slice p.1 0 p.2.length (.atl p.2.length 1)/\0<p.2.length)
  (hO0:RO (fun x=>if x<h.next then some x else none) O0 O0)(hO2:RO (fun x=>if x<h.next then some x else none) O2 O2){tr':T V}(htr:∀ t u,tr'.get t=some u->t∈[0,3,5]/\tr.get t=some u/\RV (fun x=>if x<h.next then some x else none) u u)
  (ht0:∀ n p t,O0≠.cells (some 3) n p t)(ht2:∀ n p t,O2≠.cells (some 3) n p t)
  (hQ:∀ Y6 a' w',Sim Y6 (m4 bs bb bg O0 O2 (Hid.gM (nn+1)) g2 h.next) w'->Ext Y (m4 bs bb bg O0 O2 (Hid.gM nn) g2 h.next) w Y6 (m4 bs bb bg O0 O2 (Hid.gM (nn+1)) g2 h.next) w'->iU Y6 ⟨58,tr'⟩ a'.tmps->a'.defers=a.defers->Q .normal a' w'):
  (Code.region 3 Eu true).wpIn F k Tryz.prog Q a w:=by
 obtain⟨hs1,hs2,hs3,h1000⟩:=hn0;obtain⟨n1,n2,n3,n4,n5,n6⟩:=hne;obtain⟨env',h4,run,hz,hk,Z4,J4,l4,hM4,hc⟩:=FC hr aOk hM1;obtain⟨Y1,s1,s2,s3,s4⟩:=hA1;refine run hF s1 s3 fun Y' a' w' t1 t2 t3 t4=>?_;have A4:Hid.AtD Y (m4 bs bb bg O0 O2 (Hid.gM nn) g2 h.next) w a env' h4 a' w':=⟨Y',t1,s2.trans t2,t3,t4⟩;unfold QS at hc;split at hc;case h_2=>cases hc
 rename_i sq kk key E o nL m wd xq hb2;split at hc;case h_2=>cases hc
 rename_i sE lo hi' N hbE;simp only[ae,T.beq_true] at hc;obtain⟨⟨⟨⟨⟨⟨⟨⟨⟨c1,c2⟩,c3⟩,c4⟩,c5⟩,c6⟩,c7⟩,c8⟩,c9⟩,c10⟩:=hc;have hz4:=hM4.vr.zr;have z4:=hM4.vr.z0;obtain⟨bg',hpm,y1,y2,y3,y4⟩:=hM4.hr.at' _ _ _ hb2;obtain⟨bE,hpE,u1,u2,u3,u4⟩:=hM4.hr.at' _ _ _ hbE;have stamp:∀ {U s:Nat} {b:Nat} {O:O},ij J4.mem U s=true->Z1.objs[s]?=some [(b,O)]->h4.tr.get b=some O/\∃ ao,J4.mem.get U=some (s,ao):=fun {U s b O} q e=>by
  unfold ij at q;split at q;·rename_i s' ao hU;rw[T.beq_true] at q;subst q;obtain⟨_,hp,_,q2,_,q4⟩:=hM4.hr.at' _ _ _ hU;rw[l4.o e] at q2;cases q2;exact⟨(q4 _ (aj.2 rfl)).1,ao,hU⟩
  .cases q
 obtain⟨gs4,_,gsU⟩:=stamp c8 ho0;obtain⟨gb4,_,gbU⟩:=stamp c9 ho2;cases y3 with
 |@mq _ _ _ _ _ _ _ es0 cl0 es4 cl4 w4 u m1 m2 m3 m4' m5 m6 m7=>
 rw[l4.o ho1] at m1;cases m1;cases u3 with
 |@cl _ _ _ nr pat ptr crE=>
 obtain⟨L,hLl,hLn,hLc,hLi⟩:=B3 crE;cases m6 with
 |@sl _ b' _ off len _ _ cap hU' hoff hlen' hcap=>
 rw[u1] at hU';cases hU';cases hcap with
 |@al _ mm _ hmm=>
 obtain⟨mo,mo1,mo2⟩:=hoff;have hoff0:off=0:=by rw[mo2,c6,c7];omega
 have e1:=jB hz4 z4 c1 hlen' hmm;have e2:=jB hz4 z4 c2 hlen' hLn;have e3:=eV hz4 z4 c3 (eO z4 1) hlen';have e4:=eV hz4 z4 c4 hlen' (⟨_,l4.i hi.1,rfl⟩:Num Z4 (1,1) _);have hlL:len=L.length:=by omega
 have hmL:mm=L.length:=by omega
 subst hoff0 hlL hmL c5;have hLlen:nr=L.length:=hLl.symm;subst hLlen;obtain⟨q1,q2,_⟩:=F0 hz4 z4 c10 (B4 (Z:=Z4) ⟨_,l4.i hi.2.1,(bG _).symm⟩ ⟨_,l4.i hi.2.2.1,(bG _).symm⟩ ⟨_,l4.i hi.2.2.2,(bG _).symm⟩) m5;have ow:=KB (x:=x) (y:=y) (z:=z) q2 ⟨_,l4.i hi.2.1,(bG _).symm⟩ ⟨_,l4.i hi.2.2.1,(bG _).symm⟩ ⟨_,l4.i hi.2.2.2,(bG _).symm⟩;have hfp:gH w4 es 0=gH (Hid.IX x y z) es 0:=nv q1 es 0;obtain⟨m8,hes,hcl⟩:True/\es4=rR w4 (.slice bE 0 L.length (.atl L.length 1)) es cl/\cl4=clP w4 es cl:=by
  rcases m7 with⟨q,_⟩|⟨_,q,q',_⟩;·cases q
  .exact⟨trivial,q,q'⟩
 subst hes hcl;have gm4:=(y4 _ (aj.2 rfl)).1;have gE4:=(u4 _ (aj.2 rfl));simp only at gm4 gE4;have sepB:∀ {U s b:Nat} {ao:AO} {O:O},J4.mem.get U=some (s,ao)->Z4.objs[s]?=some [(b,O)]->U≠E->b≠bE:=fun hU e ne=>hM4.hr.sep _ _ _ _ _ _ hU hbE ne _ _ e u2 _ (aj.2 rfl) _ (aj.2 rfl);have nbg:bg≠bE:=sepB hb2 y2 fun e=>by rw[e,hbE] at hb2;cases hb2
 have nb1:∀ {U s b:Nat} {ao:AO} {O:O},J4.mem.get U=some (s,ao)->Z4.objs[s]?=some [(b,O)]->(∀ n p t,O≠.cells (some 3) n p t)->b≠bE:=fun {U s b ao O} hU e ht=>by
  by_cases q:U=E;·subst q;rw[hU] at hbE;cases hbE;rw[e] at u2;cases u2;exact absurd rfl (ht _ _ _)
  .exact sepB hU e q
 have nbs:bs≠bE:=nb1 gsU (l4.o ho0) ht0;have nbb:bb≠bE:=nb1 gbU (l4.o ho2) ht2;have gl4:h4.tr.get 2=some g2:=(hM4.hr.frame 2 (by show 2<h1.next;omega) hown2).trans g1;have nlow:∀ b,b<h1.next->¬ KF Z1 (aSt v r fs).mem b->b≠bE:=fun b hb hf e=>by
  rcases gE4.2.2 with q|q;·exact hf (by rw[e];exact q)
  .have q:h1.next<=bE:=q;omega
 have nR:∀ p,p∈R'->p.1≠bE:=fun p hp=>nlow p.1 (hR p (hsub p hp)).2 (hown p hp);have n2:(2:Nat)≠bE:=nlow 2 (by omega) hown2;have inN:∀ b,b<h.next->b≠bE->b∉(R'++[(bE,L)]).map Prod.fst:=fun b hb hb' hm=>by
  rw[cP,aK] at hm;rcases hm with q|q
  .obtain⟨p,p1,p2⟩:=aJ.1 q;have:=(hR p (hsub p p1)).1;omega
  .simp at q;exact hb' q
 have kO4:=kO.put (R':=R') (h':=h4) (n':=nn+1) (w:=w4) (u:=.slice bE 0 L.length (.atl L.length 1)) (b:=bE) (L:=L) ⟨ow,hin⟩ rfl (by omega) (by omega) (fun hm=>by obtain⟨p,p1,p2⟩:=aJ.1 hm;exact nR p p1 p2) hsub ndR (fun i e q1' q2'=>hkeep i e q1' fun q=>by rw[<- hfp];exact q2' q) (by omega) (by have:=kO.few;omega) (by omega) (fun p hp=>hM4.hr.frame p.1 (hR p (hsub p hp)).2 (hown p hp)) gE4.1 hLc hLi;have A5:=A4.BT kO4 gm4 (inN bg hs3 nbg) (by omega) (h':=m4 bs bb bg O0 O2 (Hid.gM (nn+1)) g2 h4.next) rfl (by rw[mT,if_pos rfl]) fun yy o hy hne'=>by
  rw[mT,if_neg hne'] at hy;split at hy;·rename_i e;cases hy;rw[e];exact⟨gb4,inN bb hs2 nbb⟩
  .split at hy;·rename_i e;cases hy;rw[e];exact⟨gs4,inN bs hs1 nbs⟩
   .split at hy;·rename_i e;cases hy;rw[e];exact⟨gl4,inN 2 (by omega) n2⟩
    .cases hy
 have A6:=A5.drop (env1:=⟨58,tr'⟩) (h':=m4 bs bb bg O0 O2 (Hid.gM (nn+1)) g2 h.next) (by rw[hz]) (fun t u hu=>by
  obtain⟨p1,p2,p3⟩:=htr t u hu;refine⟨?_,p3⟩;show env'.tr.get t=_;obtain⟨d0,d3,d5⟩:=zar;rw[hk t fun hm=>?_];·exact p2
  .simp only[aq,aA,or_false] at p1;rcases p1 with rfl|rfl|rfl
   .rw[dh.2 hm] at d0;cases d0
   .rw[dh.2 hm] at d3;cases d3
   .rw[dh.2 hm] at d5;cases d5) rfl h1000 fun xx o hx=>by
  rw[mT] at hx ⊢;split at hx;·rename_i e;cases hx;exact⟨by show xx<h.next;omega,_,by rw[if_pos e],.lf (.ghost _)⟩
  .rename_i e;rw[if_neg e];split at hx;·rename_i e;cases hx;exact⟨by show xx<h.next;omega,_,by rw[if_pos e],hO2⟩
   .rename_i e;rw[if_neg e];split at hx;·rename_i e;cases hx;exact⟨by show xx<h.next;omega,_,by rw[if_pos e],hO0⟩
    .rename_i e;rw[if_neg e];split at hx;·rename_i e;cases hx;exact⟨by show xx<h.next;omega,_,by rw[if_pos e],lg2 _⟩
     .cases hx
 obtain⟨Y6,v1,v2,v3,v4⟩:=A6;exact hQ Y6 a' w' v1 v2 v3 v4
end Go.Proofs.YtboaighhnghpdaaGreatDoor
namespace Go.Proofs.YtboaighhnghpdaaGreatDoor
open Go Go.Ev Go.Ae Go.Ae.C Go.RowKit
set_option maxRecDepth 100000
variable {Z:NV}{i:Nat}
theorem IS {Z':NV}(h:∀ {x:Nat} {z:Int},Z.ints[x]?=some z->Z'.ints[x]?=some z)(hs:Z.strs=[])(hb:∀ {x z:Nat},Z.blks[x]?=some z->Z'.blks[x]?=some z):NV.sub Z Z':=⟨h,fun q=>by rw[hs] at q;simp at q,hb⟩
theorem Fp {n:Nat}{l:List A}{k:Nat}{pat:List V}{tr:T V}(h:CR Z l k pat tr)(hl:∀ i c,CA Z l i c->RV (fun x=>if x<n then some x else none) c c):∀ i v,cell k pat tr i=some v->RV (fun x=>if x<n then some x else none) v v:=fun i v hv=>hl i v (h.at' i v hv)
theorem Kw {f:Nat->Option Nat}{k:IntKind}{z:Int}:RV f (.int k z) (.int k z):=.pure rfl
theorem rS {a:A}{l:List A}{c:V}(h:CA Z (a :: l) i c)(hp:plain a=true):(i=0/\AV Z a c)\/∃ j,i=j+1/\CA Z l j c:=by
 generalize hg:a :: l=g at h;cases h with
 |here p q=>cases hg;exact .inl ⟨rfl,q⟩
 |skip q r=>
  cases hg;cases q with
  |one _=>exact .inr ⟨_,bp _ _,r⟩
  |rw=>cases hp
 |row=>cases hg;cases hp
 |foc=>cases hg;cases hp
theorem OR {c:V}(h:CA Z [] i c):False:=by generalize hg:([]:List A)=g at h;cases h<;>cases hg
theorem six {α:Type}{l:List α}{n:Nat}(h:l.length=n)(hi:i<n):∃ y,l[i]?=some y:=⟨_,ah (by omega)⟩
theorem ext_get {α:Type}{l:List α}{a:α}{x:Nat}{z:α}(h:l[x]?=some z):(l++[a])[x]?=some z:=by rw[aG,if_pos (ai.1 h).1];exact h
theorem lH {l:List (Nat×O)}(h:(l.map Prod.fst).Nodup):∀ (i j:Nat) (hp hp':List (Nat×O)),(l.map fun p=>[p])[i]?=some hp->(l.map fun p=>[p])[j]?=some hp'->i≠j->∀ p,p∈hp->∀ q,q∈hp'->p.1≠q.1:=fun i j hp hp' hi hj hne p hp1 q hq1 e=>by
 rw[aL] at hi hj;cases qi:l[i]? with
 |none=>rw[qi] at hi;cases hi
 |some a=>
  cases qj:l[j]? with
  |none=>rw[qj] at hj;cases hj
  |some b=>rw[qi] at hi;rw[qj] at hj;simp at hi hj;subst hi hj;rw[aj.1 hp1,aj.1 hq1] at e;exact hne (Hid.gS h (x:=a.1) (by rw[aL,qi];rfl) (by rw[aL,qj,e];rfl))
theorem rT {mem:T (Nat×AO)}{x:Nat}{l:List (Nat×O)}(hZ:Z.objs=l.map fun p=>[p])(h:KF Z mem x):x∈l.map Prod.fst:=by
 obtain⟨_,s,_,hp,_,e,p,p1,p2⟩:=h;rw[hZ,aL] at e;cases q:l[s]? with
 |none=>rw[q] at e;cases e
 |some a=>rw[q] at e;simp at e;subst e;rw[aj.1 p1] at p2;exact aJ.2 ⟨a,aC q,p2⟩
theorem Fq {Z':NV}(h:NV.sub Z Z'){g:LE×LE}(k:Holds Z g):Holds Z' g:=let ⟨a,b,x,y,z⟩:=k;⟨a,b,x.sub h,y.sub h,z⟩
theorem rU {B:TH}(hB:tX B):Ku (Jk Tryz.prog (partOf 258 3) OQ) (Th B C.inv) Dq:=fun Z vs h n hl hfs hM=>by
 have li:Z.ints.length=11:=hM.vr.ni;have lb:Z.blks.length=4:=hM.vr.nb;have lo:Z.objs.length=4:=hM.vr.no;have ls:Z.strs=[]:=aO.1 hM.vr.ns;have z0:=hM.vr.z0;have nd:(Dq.mem.map Prod.fst).Nodup:=by decide
 have at':∀ {i U:Nat} {ao:AO},Dq.mem[i]?=some (U,ao)->(fA Dq n).mem.get U=some (i,ao):=fun q=>by show(gq 0 Dq.mem T.leaf).get _=_;rw[kH nd q,aI]
 obtain⟨bs,hp0,x01,x02,x03,x04⟩:=hM.hr.at' _ _ _ (at' (i:=0) rfl);obtain⟨bg,hp1,x11,x12,x13,x14⟩:=hM.hr.at' _ _ _ (at' (i:=1) rfl);obtain⟨bb,hp2,x21,x22,x23,x24⟩:=hM.hr.at' _ _ _ (at' (i:=2) rfl);obtain⟨br,hp3,x31,x32,x33,x34⟩:=hM.hr.at' _ _ _ (at' (i:=3) rfl);have sep:∀ {i j U E:Nat} {ao ao':AO} {hp hp':List (Nat×O)},Dq.mem[i]?=some (U,ao)->Dq.mem[j]?=some (E,ao')->U≠E->Z.objs[i]?=some hp->Z.objs[j]?=some hp'->∀ p,p∈hp->∀ q,q∈hp'->p.1≠q.1:=fun hi hj hne e e'=>hM.hr.sep _ _ _ _ _ _ (at' hi) (at' hj) hne _ _ e e';cases x03 with
 |@cl _ _ _ k0 pat0 tr0 cr0=>
 cases x13 with
 |@ob _ _ _ zs1 _ num1 th1 _ _=>
 obtain⟨nn,rfl,rfl⟩:=hB.out th1;cases x23 with
 |@cl _ _ _ k2 pat2 tr2 cr2=>
 cases x33 with
 |@cl _ _ _ k3 pat3 tr3 cr3=>
 simp only[aj,forall_eq] at x04 x14 x24 x34;have hargs:=pq (l:=Dq.args) (k:=0) (t:=.leaf) (tr:=.leaf) hl hM.er;obtain⟨v0,v1,v2,rfl,a0,a1,a2⟩:∃ v0 v1 v2,vs=[v0,v1,v2]/\AV Z (P 0) v0/\AV Z (P 1) v1/\AV Z (I 2) v2:=by
  cases hargs with
  |cons q0 r=>cases r with
   |cons q1 r=>cases r with
    |cons q2 r=>cases r;exact⟨_,_,_,rfl,q0,q1,q2⟩
 have ptr:∀ {U b:Nat} {v:V},Z.blks[U]?=some b->AV Z (P U) v->v=.ptr b 0:=fun hb q=>by
  cases q with
  |p hU ho=>
   rw[hb] at hU;cases hU;obtain⟨m,_,m2⟩:=ho;have:(oz.o:Nat)+m * oz.st=0:=by show 0+m * 0=0;omega
   rw[m2,this]
 have e0:=ptr x01 a0;have e1:=ptr x21 a1;subst e0 e1;cases a2 with
 |@i _ _ kk nk=>
 have i1:Z.ints[1]?=some (nn:Int):=by
  cases num1 with
  |cons q r=>obtain⟨y,y1,y2⟩:=q;have y2:(nn:Int)=y+0:=y2;rw[y1];congr 1;omega
 obtain⟨x6,i6⟩:=six li (i:=6) (by omega);obtain⟨x7,i7⟩:=six li (i:=7) (by omega);obtain⟨x8,i8⟩:=six li (i:=8) (by omega);obtain⟨x2,i2⟩:=six li (i:=2) (by omega);have hH:=hfs;have fact:∀ (p q:LE) (a b:Int),(p,q)∈JO->Num Z p a->Num Z q b->a<=b:=fun p q a b hm h1 h2=>by obtain⟨a',b',y1,y2,y3⟩:=hH (p,q) hm;rw[h1.fn y1,h2.fn y2];exact y3
 have nm:∀ {i:Nat} {y:Int},Z.ints[i]?=some y->Num Z (i,0) y:=fun e=>⟨_,e,(bG _).symm⟩;have hnn:nn<=10000:=by have:=fact (1,0) (0,10000) _ _ (by decide) (nm i1) (eO z0 _);omega
 have hin:Hid.InI x6/\Hid.InI x7/\Hid.InU x8:=by have f1:=fact (0,nX) (6,0) _ _ (by decide) (eO z0 _) (nm i6);have f2:=fact (6,0) (0,lA) _ _ (by decide) (nm i6) (eO z0 _);have f3:=fact (0,nX) (7,0) _ _ (by decide) (eO z0 _) (nm i7);have f4:=fact (7,0) (0,lA) _ _ (by decide) (nm i7) (eO z0 _);have f5:=fact (0,0) (8,0) _ _ (by decide) (eO z0 _) (nm i8);have f6:=fact (8,0) (0,4294967295) _ _ (by decide) (nm i8) (eO z0 _);exact⟨⟨f1,f2⟩,⟨f3,f4⟩,f5,f6⟩
 have gl:=hM.hr.gl (2,_) (aj.2 rfl);obtain⟨gl1,gl2,gl3⟩:=gl;have own:∀ {i U b:Nat} {ao:AO} {O:O},Dq.mem[i]?=some (U,ao)->Z.objs[i]?=some [(b,O)]->b≠2:=fun hi e q=>gl2 ⟨_,_,_,_,at' hi,e,_,aj.2 rfl,q⟩;have ns2:=own (i:=0) rfl x02;have ng2:=own (i:=1) rfl x12;have nb2:=own (i:=2) rfl x22;have nsg:=sep (i:=0) (j:=1) rfl rfl (by decide) x02 x12 _ (aj.2 rfl) _ (aj.2 rfl);have nsb:=sep (i:=0) (j:=2) rfl rfl (by decide) x02 x22 _ (aj.2 rfl) _ (aj.2 rfl);have ngb:=sep (i:=1) (j:=2) rfl rfl (by decide) x12 x22 _ (aj.2 rfl) _ (aj.2 rfl);have ngr:=sep (i:=1) (j:=3) rfl rfl (by decide) x12 x32 _ (aj.2 rfl) _ (aj.2 rfl);simp only at nsg nsb ngb ngr;have hsub:∀ (z:Int) (b:Nat) (ob:List (List (Nat×O))),NV.sub Z ⟨Z.ints++[z],[],Z.blks++[b],ob⟩:=fun z b ob=>IS ext_get ls ext_get;have hO0:RO (fun x=>if x<h.next then some x else none) (.cells (some 336) k0 pat0 tr0) (.cells (some 336) k0 pat0 tr0):=pe (Fp cr0 fun i c hc=>by
  rcases rS hc rfl with⟨_,q⟩|⟨j,_,hc⟩
  .cases q with
   |sl hU _ _ _=>rw[x31] at hU;cases hU;exact .slice (if_pos x34.2.1)
  .rcases rS hc rfl with⟨_,q⟩|⟨j,_,hc⟩
   .cases q with
    |m hU=>rw[x11] at hU;cases hU;exact .map (if_pos x14.2.1)
   .exact(OR hc).elim)
 have hO2:RO (fun x=>if x<h.next then some x else none) (.cells (some 53) k2 pat2 tr2) (.cells (some 53) k2 pat2 tr2):=pe (Fp cr2 fun i c hc=>by
  obtain⟨k,e,z,_,_,rfl⟩:=xV hc fun a ha=>by simp only[aq,aA,or_false] at ha;rcases ha with rfl|rfl|rfl|rfl|rfl|rfl<;>exact⟨_,_,rfl⟩
  exact Kw)
 refine⟨.tuple [],⟨h.tr.put bg (some (Hid.gM (nn+1))),h.next⟩,⟨rfl,fun rd tr defs htr Y F a w k Q hF hS hEe hD hQ=>?_⟩,o0 (.tp []) (Nq (1,1)),aj.2 rfl,{ Z with objs:=Z.objs++([(bs,.cells (some 336) k0 pat0 tr0),(bg,Hid.gM (nn+1)),(bb,.cells (some 53) k2 pat2 tr2),(br,.cells (some 53) k3 pat3 tr3)]:List (Nat×O)).map fun p=>[p] },?_,?_,(fun g hg=>nomatch hg),.tp .nil⟩
 .rw[Rt];have t0:tr.get 0=some (.ptr bs 0):=htr 0 0 _ rfl rfl;have t3:tr.get 3=some (.ptr bb 0):=htr 1 3 _ rfl rfl;have t5:tr.get 5=some (.int .i64 kk):=htr 2 5 _ rfl rfl;have hEe:iU Y ⟨58,tr⟩ a.tmps:=hEe;have hlt:∀ b o,h.tr.get b=some o->b<h.next:=fun b o hb=>by
   obtain⟨L,_,q,_⟩:=hS.live b o hb;exact hS.dom b L q
  have hpart:∀ x o,(m4 bs bb bg (.cells (some 336) k0 pat0 tr0) (.cells (some 53) k2 pat2 tr2) (Hid.gM nn) (.ro (some 0) 4 [.int .u8 0,.int .u8 111,.int .u8 108,.int .u8 102] .leaf) h.next).tr.get x=some o->h.tr.get x=some o:=fun x o hx=>by
   rw[mT] at hx;split at hx;·rename_i e;cases hx;rw[e];exact x14.1
   .split at hx;·rename_i e;cases hx;rw[e];exact x24.1
    .split at hx;·rename_i e;cases hx;rw[e];exact x04.1
     .split at hx;·rename_i e;cases hx;rw[e];exact gl3
      .cases hx
  have S2:=hS.sub (h':=m4 bs bb bg (.cells (some 336) k0 pat0 tr0) (.cells (some 53) k2 pat2 tr2) (Hid.gM nn) (.ro (some 0) 4 [.int .u8 0,.int .u8 111,.int .u8 108,.int .u8 102] .leaf) h.next) (aF _) hpart;have A0:Hid.AtD Y _ w a ⟨58,tr⟩ _ a w:=⟨Y,S2,Ext.refl _ _ _,hEe,rfl⟩;obtain⟨es,cl,R,h1,kO,A1,g1,hRn,hle1,hold1⟩:=A0.Mj (g:=bg) (n:=nn) (by rw[mT,if_pos rfl]);have hold1:∀ x,x<h.next->x≠bg->h1.tr.get x=_:=hold1;have hRn:∀ p,p∈R->h.next<=p.1/\p.1<h1.next:=hRn;have hle1:h.next<=h1.next:=hle1;have q0:h1.tr.get bs=some (.cells (some 336) k0 pat0 tr0):=by rw[hold1 bs x04.2.1 nsg,mT,if_neg nsg,if_neg nsb,if_pos rfl]
  have q2:h1.tr.get bb=some (.cells (some 53) k2 pat2 tr2):=by rw[hold1 bb x24.2.1 (fun e=>ngb e.symm),mT,if_neg (fun e=>ngb e.symm),if_pos rfl]
  have qg:h1.tr.get 2=some (.ro (some 0) 4 [.int .u8 0,.int .u8 111,.int .u8 108,.int .u8 102] .leaf):=by rw[hold1 2 gl1 (fun e=>ng2 e.symm),mT,if_neg (fun e=>ng2 e.symm),if_neg (fun e=>nb2 e.symm),if_neg (fun e=>ns2 e.symm),if_pos rfl]
  have h1000:1000<=h.next:=by obtain⟨z,hz⟩:=hS.glob 999 (by omega);have:999<h.next:=hS.dom 999 _ hz;omega
  have keyK:∀ (Z':NV) (e:V×V×Nat),e∈es->KsV Z' true It e.1/\e.2.2<cl:=fun Z' e he=>by obtain⟨x,y,z,k1,k2,k3,k4⟩:=kO.key e he;exact⟨xL k1 k2 k3 k4,kO.born e he⟩
  have er1:∀ (Z':NV),NV.sub Z Z'->ER Z' (((T.leaf.put 0 (some (P 0))).put 3 (some (P 1))).put 5 (some (I 2))) tr:=fun Z' hs t b ht=>by
   simp only[T.eL,T.eR] at ht;split at ht;·rename_i e;cases ht;rw[e];exact⟨_,t5,.i (nk.sub hs)⟩
   .split at ht;·rename_i e;cases ht;rw[e];exact⟨_,t3,a1.sub hs rfl⟩
    .split at ht;·rename_i e;cases ht;rw[e];exact⟨_,t0,a0.sub hs rfl⟩
     .cases ht
  have fac:∀ (Z':NV),NV.sub Z Z'->∀ r,(∀ g,g∈r->Holds Z' g)->∀ g,g∈aFs r->Holds Z' g:=fun Z' hs r hr g hg=>by
   rcases aK.1 hg with q|q;·exact Fq hs (hfs g q)
   .rcases aq.1 q with rfl|q;·exact⟨0,nn,⟨0,hs.i z0,by simp⟩,(nm i1).sub hs,by omega⟩
    .exact hr g q
  have htr':∀ t u,(od [0,3,5] tr).get t=some u->t∈[0,3,5]/\tr.get t=some u/\RV (fun x=>if x<h.next then some x else none) u u:=fun t u hu=>by
   obtain⟨p1,p2⟩:=oo hu;refine⟨p2,p1,?_⟩;simp only[aq,aA,or_false] at p2;rcases p2 with rfl|rfl|rfl;·rw[t0] at p1;cases p1;exact .ptr (if_pos x04.2.1)
   .rw[t3] at p1;cases p1;exact .ptr (if_pos x24.2.1)
   .rw[t5] at p1;cases p1;exact Kw
  have fr:∀ Y6 a' w',Sim Y6 (m4 bs bb bg (.cells (some 336) k0 pat0 tr0) (.cells (some 53) k2 pat2 tr2) (Hid.gM (nn+1)) (.ro (some 0) 4 [.int .u8 0,.int .u8 111,.int .u8 108,.int .u8 102] .leaf) h.next) w'->Ext Y (m4 bs bb bg (.cells (some 336) k0 pat0 tr0) (.cells (some 53) k2 pat2 tr2) (Hid.gM nn) (.ro (some 0) 4 [.int .u8 0,.int .u8 111,.int .u8 108,.int .u8 102] .leaf) h.next) w Y6 (m4 bs bb bg (.cells (some 336) k0 pat0 tr0) (.cells (some 53) k2 pat2 tr2) (Hid.gM (nn+1)) (.ro (some 0) 4 [.int .u8 0,.int .u8 111,.int .u8 108,.int .u8 102] .leaf) h.next) w'->iU Y6 ⟨58,od [0,3,5] tr⟩ a'.tmps->a'.defers=a.defers->Q .normal a' w':=fun Y6 a' w' v1 v2 v3 v4=>by
   obtain⟨Y7,u1,u2,u3⟩:=uW (h:=h) (h2:=m4 bs bb bg (.cells (some 336) k0 pat0 tr0) (.cells (some 53) k2 pat2 tr2) (Hid.gM nn) (.ro (some 0) 4 [.int .u8 0,.int .u8 111,.int .u8 108,.int .u8 102] .leaf) h.next) (h2':=m4 bs bb bg (.cells (some 336) k0 pat0 tr0) (.cells (some 53) k2 pat2 tr2) (Hid.gM (nn+1)) (.ro (some 0) 4 [.int .u8 0,.int .u8 111,.int .u8 108,.int .u8 102] .leaf) h.next) (h':=⟨h.tr.put bg (some (Hid.gM (nn+1))),h.next⟩) ⟨rfl,hpart,rfl,fun b o hb=>by
    simp only[T.eL] at hb;rw[mT,mT];split at hb;·rename_i e;cases hb;exact .inl (by rw[if_pos e])
    .rename_i e;rw[if_neg e,if_neg e];by_cases e2:b=bb;·rw[if_pos e2];rw[e2,x24.1] at hb;exact .inl hb
     .by_cases e3:b=bs;·rw[if_neg e2,if_pos e3];rw[e3,x04.1] at hb;exact .inl hb
      .by_cases e4:b=2;·rw[if_neg e2,if_neg e3,if_pos e4];rw[e4] at hb;exact .inl (gl3.symm.trans hb)
       .rw[if_neg e2,if_neg e3,if_neg e4];exact .inr ⟨hlt b o hb,rfl,hb⟩⟩ hS v1 v2
   have hle:Y6.le Y7:=fun b L hb=>by show Y7.loc b=_;rw[u1];exact hb
   exact hQ Y7 a' w' u2 u3 (v3.mono hle) (by rw[v4];exact hD.mono (u3.le hS))
  cases hfp:gH (Hid.IX x6 x7 x8) es 0 with
  |none=>
   obtain⟨Z1,hZ1⟩:∃ Z1:NV,Z1=⟨Z.ints++[0],[],Z.blks++[0],([(bs,.cells (some 336) k0 pat0 tr0),(bg,.map es cl),(bb,.cells (some 53) k2 pat2 tr2)]:List (Nat×O)).map fun p=>[p]⟩:=⟨_,rfl⟩;have hs1:NV.sub Z Z1:=by rw[hZ1];exact hsub _ _ _
   have ob1:Z1.objs=([(bs,.cells (some 336) k0 pat0 tr0),(bg,.map es cl),(bb,.cells (some 53) k2 pat2 tr2)]:List (Nat×O)).map fun p=>[p]:=by rw[hZ1]
   have hM1:Mem (Th B C.inv) (lB Z1 (aSt (.k .nils) [] (aFs [])).mem h1) Z1 (aSt (.k .nils) [] (aFs [])) ⟨⟨58,tr⟩,h1,[]⟩:=by
    refine xU (nx:=12) (ns:=0) (nb:=5) (mem:=Of (.k .nils) []) (by rw[hZ1];simp[li]) (hs1.i z0) (by rw[hZ1];rfl) (by rw[hZ1];simp[lb]) (by rw[ob1];rfl) (fac Z1 hs1 [] fun g hg=>by cases hg) (er1 Z1 hs1) (by decide) (fun i U ao q=>?_) (by rw[ob1];exact lH (by simp[nsg,nsb,ngb])) fun q hq=>?_
    .match i,q with
     |0,q=>cases q;exact⟨bs,_,hs1.b x01,by rw[ob1];rfl,.cl (cr0.sub hs1 rfl),fun p hp=>by rw[aj.1 hp];exact⟨q0,by have:=x04.2.1;show bs<h1.next;omega⟩⟩
     |1,q=>cases q;exact⟨bg,_,hs1.b x11,by rw[ob1];rfl,.mq (by rw[ob1];rfl) (keyK Z1) kO.stamps (xL (Hid.ke _ _ _) hin.1 hin.2.1 hin.2.2) (B4 ((nm i6).sub hs1) ((nm i7).sub hs1) ((nm i8).sub hs1)) (.k _) (.inl ⟨rfl,rfl,rfl,by unfold lkP;rw[hfp]⟩),fun p hp=>by rw[aj.1 hp];exact⟨g1,by have:=x14.2.1;show bg<h1.next;omega⟩⟩
     |2,q=>cases q;exact⟨bb,_,hs1.b x21,by rw[ob1];rfl,.cl (cr2.sub hs1 rfl),fun p hp=>by rw[aj.1 hp];exact⟨q2,by have:=x24.2.1;show bb<h1.next;omega⟩⟩
     |i+3,q=>simp[Of] at q
    .rw[aj.1 hq];refine⟨by have:(2:Nat)<h.next:=gl1;show 2<h1.next;omega,fun hp hh p hp'=>?_,qg⟩;rw[ob1] at hh;simp only[aS,cB,aq,aA,or_false] at hh;rcases hh with rfl|rfl|rfl<;>rw[aj.1 hp']<;>assumption
   refine Fo hF.wide Ru hM1 ⟨hs1.i i1,hs1.i i6,hs1.i i7,hs1.i i8⟩ (by rw[ob1];rfl) (by rw[ob1];rfl) (by rw[ob1];rfl) hin hnn ⟨x04.2.1,x24.2.1,x14.2.1,h1000⟩ ⟨nsb,nsg,fun e=>ngb e.symm,ns2,nb2,ng2⟩ hle1 A1 kO hRn qg (fun f=>.lf (NF fun v hv=>by simp at hv;rcases hv with rfl|rfl|rfl|rfl<;>rfl)) (R':=R) (fun _ q=>q) kO.nd kO.fewR (fun p hp hk=>?_) (fun hk=>?_) (fun i e he _=>kO.val e (aC he)) hO0 hO2 htr' (fun _ _ _ e=>by cases e) (fun _ _ _ e=>by cases e) fr;·have:=rT ob1 hk;have r1:=(hRn p hp).1;have:=x04.2.1;have:=x14.2.1;have:=x24.2.1;simp at *;omega
   .have:=rT ob1 hk;simp at this;rcases this with e|e|e
    .exact ns2 e.symm
    .exact ng2 e.symm
    .exact nb2 e.symm
  |some iy=>
   obtain⟨i0,y⟩:=iy;obtain⟨_,f2,_⟩:=jI hfp;rw[dw] at f2;obtain⟨p0,p1,p2,p3⟩:=kO.val y (aC f2);obtain⟨o,l1,l2,l3,l4⟩:=kO.live p0 p1;have r0:=hRn p0 p1;obtain⟨Z1,hZ1⟩:∃ Z1:NV,Z1=⟨Z.ints++[(p0.2.length:Int)],[],Z.blks++[p0.1],([(bs,.cells (some 336) k0 pat0 tr0),(bg,.map es cl),(bb,.cells (some 53) k2 pat2 tr2),(p0.1,o)]:List (Nat×O)).map fun p=>[p]⟩:=⟨_,rfl⟩;have hs1:NV.sub Z Z1:=by rw[hZ1];exact hsub _ _ _
   have ob1:Z1.objs=([(bs,.cells (some 336) k0 pat0 tr0),(bg,.map es cl),(bb,.cells (some 53) k2 pat2 tr2),(p0.1,o)]:List (Nat×O)).map fun p=>[p]:=by rw[hZ1]
   have i11:Z1.ints[11]?=some (p0.2.length:Int):=by rw[hZ1];show(Z.ints++_)[11]?=_;rw[<- li];simp
   have b4:Z1.blks[4]?=some p0.1:=by rw[hZ1];show(Z.blks++_)[4]?=_;rw[<- lb];simp
   have n11:Num Z1 (11,0) (p0.2.length:Int):=⟨_,i11,(bG _).symm⟩;obtain⟨rp,rt,rfl,rcr⟩:=KA n11 l2 l3;have hlow:∀ b,b<h.next->b≠p0.1:=fun b hb e=>by omega
   have hM1:Mem (Th B C.inv) (lB Z1 (aSt aV aR (aFs aF1)).mem h1) Z1 (aSt aV aR (aFs aF1)) ⟨⟨58,tr⟩,h1,[]⟩:=by
    refine xU (nx:=12) (ns:=0) (nb:=5) (mem:=Of aV aR) (by rw[hZ1];simp[li]) (hs1.i z0) (by rw[hZ1];rfl) (by rw[hZ1];simp[lb]) (by rw[ob1];rfl) (fac Z1 hs1 aF1 fun g hg=>?_) (er1 Z1 hs1) (by decide) (fun i U ao q=>?_) (by rw[ob1];exact lH (by simp[nsg,nsb,ngb,hlow bs x04.2.1,hlow bg x14.2.1,hlow bb x24.2.1])) fun q hq=>?_
    .simp only[aF1,rg,bM,cN,aq,aA,or_false] at hg;rcases hg with rfl|rfl|rfl
     .exact⟨_,_,eO (hs1.i z0) 1,n11,by omega⟩
     .exact⟨_,_,n11,eO (hs1.i z0) 10000,by omega⟩
     .exact⟨_,_,n11,(nm i1).sub hs1,by omega⟩
    .match i,q with
     |0,q=>cases q;exact⟨bs,_,hs1.b x01,by rw[ob1];rfl,.cl (cr0.sub hs1 rfl),fun p hp=>by rw[aj.1 hp];exact⟨q0,by have:=x04.2.1;show bs<h1.next;omega⟩⟩
     |1,q=>cases q;exact⟨bg,_,hs1.b x11,by rw[ob1];rfl,.mq (by rw[ob1];rfl) (keyK Z1) kO.stamps (xL (Hid.ke _ _ _) hin.1 hin.2.1 hin.2.2) (B4 ((nm i6).sub hs1) ((nm i7).sub hs1) ((nm i8).sub hs1)) (.sl (len:=p0.2.length) b4 ⟨0,fun q=>absurd rfl q,rfl⟩ n11 (.al n11)) (.inl ⟨rfl,rfl,rfl,by unfold lkP;rw[hfp];exact p2.symm⟩),fun p hp=>by rw[aj.1 hp];exact⟨g1,by have:=x14.2.1;show bg<h1.next;omega⟩⟩
     |2,q=>cases q;exact⟨bb,_,hs1.b x21,by rw[ob1];rfl,.cl (cr2.sub hs1 rfl),fun p hp=>by rw[aj.1 hp];exact⟨q2,by have:=x24.2.1;show bb<h1.next;omega⟩⟩
     |3,q=>cases q;exact⟨p0.1,_,b4,by rw[ob1];rfl,.cl rcr,fun p hp=>by rw[aj.1 hp];exact⟨l1,r0.2⟩⟩
     |i+4,q=>simp[Of,aR] at q
    .rw[aj.1 hq];refine⟨by have:(2:Nat)<h.next:=gl1;show 2<h1.next;omega,fun hp hh p hp'=>?_,qg⟩;rw[ob1] at hh;simp only[aS,cB,aq,aA,or_false] at hh;rcases hh with rfl|rfl|rfl|rfl<;>rw[aj.1 hp']<;>first|assumption|exact fun e=>hlow 2 gl1 e.symm
   refine Fo hF.wide Rv hM1 ⟨hs1.i i1,hs1.i i6,hs1.i i7,hs1.i i8⟩ (by rw[ob1];rfl) (by rw[ob1];rfl) (by rw[ob1];rfl) hin hnn ⟨x04.2.1,x24.2.1,x14.2.1,h1000⟩ ⟨nsb,nsg,fun e=>ngb e.symm,ns2,nb2,ng2⟩ hle1 A1 kO hRn qg (fun f=>.lf (NF fun v hv=>by simp at hv;rcases hv with rfl|rfl|rfl|rfl<;>rfl)) (R':=R.filter fun p=>!(Nat.beq p.1 p0.1)) (fun p q=>(dQ.1 q).1) ((List.filter_sublist.map _).nodup kO.nd) (bF (List.length_filter_le _ _) kO.fewR) (fun p hp hk=>?_) (fun hk=>?_) (fun i e he hne=>?_) hO0 hO2 htr' (fun _ _ _ e=>by cases e) (fun _ _ _ e=>by cases e) fr
   .have:=rT ob1 hk;obtain⟨hp1,hp2⟩:=dQ.1 hp;have r1:=(hRn p hp1).1;have:=x04.2.1;have:=x14.2.1;have:=x24.2.1;have ne:p.1≠p0.1:=fun e=>by rw[(T.beq_true).2 e] at hp2;cases hp2
    simp at *;omega
   .have:=rT ob1 hk;simp at this;rcases this with e|e|e|e
    .exact ns2 e.symm
    .exact ng2 e.symm
    .exact nb2 e.symm
    .exact hlow 2 gl1 e
   .obtain⟨p,s1,s2,s3⟩:=kO.val e (aC he);refine⟨p,dQ.2 ⟨s1,?_⟩,s2,s3⟩;cases q:Nat.beq p.1 p0.1 with
    |false=>rfl
    |true=>rw[T.beq_true] at q;exfalso;obtain⟨jp,hjp⟩:=aX.1 s1;obtain⟨j0,hj0⟩:=aX.1 p1;have ej:=Hid.gS kO.nd (x:=p.1) (by rw[aL,hjp];rfl) (by rw[aL,hj0,q];rfl);subst ej;rw[hjp] at hj0;cases hj0;have:=Hid.gS kO.apart (x:=e.2.1) (by rw[aL,he];rfl) (by rw[aL,f2,s2,<- p2];rfl);subst this;exact hne y hfp
 .exact⟨id,id,id,fun q=>by rw[aG,if_pos (ai.1 q).1];exact q⟩
 .have hle:Z.le { Z with objs:=Z.objs++([(bs,.cells (some 336) k0 pat0 tr0),(bg,Hid.gM (nn+1)),(bb,.cells (some 53) k2 pat2 tr2),(br,.cells (some 53) k3 pat3 tr3)]:List (Nat×O)).map fun p=>[p] }:=⟨id,id,id,fun q=>by rw[aG,if_pos (ai.1 q).1];exact q⟩;have oG:∀ i,(Z.objs++([(bs,.cells (some 336) k0 pat0 tr0),(bg,Hid.gM (nn+1)),(bb,.cells (some 53) k2 pat2 tr2),(br,.cells (some 53) k3 pat3 tr3)]:List (Nat×O)).map fun p=>[p])[4+i]?=(([(bs,.cells (some 336) k0 pat0 tr0),(bg,Hid.gM (nn+1)),(bb,.cells (some 53) k2 pat2 tr2),(br,.cells (some 53) k3 pat3 tr3)]:List (Nat×O)).map fun p=>[p])[i]?:=fun i=>by
   rw[zaw (by omega),lo,cG]
  have gh:∀ x,(⟨h.tr.put bg (some (Hid.gM (nn+1))),h.next⟩:H).tr.get x=if x=bg then some (Hid.gM (nn+1)) else h.tr.get x:=fun x=>T.eL ..
  have FK:∀ {i U b:Nat} {ao:AO} {O:O},Dq.mem[i]?=some (U,ao)->Z.objs[i]?=some [(b,O)]->(lB Z (fA Dq n).mem h).F b:=fun hi e=>⟨_,_,_,_,at' hi,e,_,aj.2 rfl,rfl⟩;refine Ol (k:=4) (mem:=Nq (1,1)) (nx:=11) (ns:=0) (nb:=4) (z:=⟨.leaf,.leaf,[]⟩) li z0 (by show Z.strs.length=0;rw[ls];rfl) lb (by show(Z.objs++_).length=4+4;simp[lo]) nZ (pZ (.tp .nil)) (fun i U ao q=>?_) (fun i j hp hp' li' lj' e e'=>?_) (fun b hb hF=>?_) (aF _) hM.hr.gl
  .match i,q with
   |0,q=>cases q;exact⟨bs,_,x01,oG 0,(AOR.cl cr0).mono hle,fun p hp=>by rw[aj.1 hp];exact⟨by rw[gh,if_neg nsg];exact x04.1,x04.2.1,.inl (FK (i:=0) rfl x02)⟩⟩
   |1,q=>cases q;exact⟨bg,_,x11,oG 1,.ob (.cons (z:=((nn+1:Nat):Int)) ⟨_,i1,by simp⟩ .nil) (hB.in (nn+1) bg) ⟨_,_,rfl⟩ (by simp),fun p hp=>by rw[aj.1 hp];exact⟨by rw[gh,if_pos rfl],x14.2.1,.inl (FK (i:=1) rfl x12)⟩⟩
   |2,q=>cases q;exact⟨bb,_,x21,oG 2,(AOR.cl cr2).mono hle,fun p hp=>by rw[aj.1 hp];exact⟨by rw[gh,if_neg (fun e=>ngb e.symm)];exact x24.1,x24.2.1,.inl (FK (i:=2) rfl x22)⟩⟩
   |3,q=>cases q;exact⟨br,_,x31,oG 3,(AOR.cl cr3).mono hle,fun p hp=>by rw[aj.1 hp];exact⟨by rw[gh,if_neg (fun e=>ngr e.symm)];exact x34.1,x34.2.1,.inl (FK (i:=3) rfl x32)⟩⟩
   |i+4,q=>simp[Nq] at q
  .rw[oG] at e e';have nsr:=sep (i:=0) (j:=3) rfl rfl (by decide) x02 x32 _ (aj.2 rfl) _ (aj.2 rfl);have nbr:=sep (i:=2) (j:=3) rfl rfl (by decide) x22 x32 _ (aj.2 rfl) _ (aj.2 rfl);simp only at nsr nbr;exact lH (by simp[nsg,nsb,ngb,nsr,nbr,ngr]) i j hp hp' e e'
  .rw[gh,if_neg fun e=>hF (by rw[e];exact FK (i:=1) rfl x12)];rfl
end Go.Proofs.YtboaighhnghpdaaGreatDoor
namespace Go.Hid
open Go.Ev Go.RowKit
variable {es:List (V×V×Nat)}{seen:List Nat}{Y:Ren}{clk i:Nat}{c:Value}{w w':World}{ops:Array Oper}{o:Oper}{a:Act}{P:Program}
section
variable {P:Program}
def xE (es:List (V×V×Nat))(seen:List Nat):Nat:=(es.filter fun e=>!seen.contains e.2.2).length
theorem BP {e:V×V×Nat}(he:e∈es)(hn:e.2.2∉seen):xE es (e.2.2 :: seen)<xE es seen:=by
 have e1:(es.filter fun x=>!(e.2.2 :: seen).contains x.2.2)=(es.filter fun x=>!seen.contains x.2.2).filter fun x=>!(x.2.2 == e.2.2):=by rw[List.filter_filter];congr 1;funext x;simp only[List.contains_cons,Bool.not_or]
 unfold xE;rw[e1,List.length_filter_lt_length_iff_exists];exact⟨e,by simp[he,hn],by simp⟩
theorem IT (es:List (V×V×Nat))(seen:List Nat):xE es seen<=es.length:=List.length_filter_le _ _
theorem xF {L:Nat×Nat×Nat}{c:Obj}(ho:jD Y (.map es clk) L c):∃ es':Array MapEntry,c=.map es' clk/\es'.toList.map (·.born)=es.map (·.2.2)/\(∀ x,x∈es'.toList->∃ e,e∈es/\e.2.2=x.born/\Rel Y e.1 x.key/\Rel Y e.2.1 x.val)/\∀ e,e∈es->∃ x,x∈es'.toList/\e.2.2=x.born/\Rel Y e.1 x.key/\Rel Y e.2.1 x.val:=by
 obtain⟨es',h1,h2,h3⟩:=ho;have at':∀ (i:Nat) (hi:i<es.length),∃ x,es'[i]?=some x/\Rel Y es[i].1 x.key/\Rel Y es[i].2.1 x.val/\x.born=es[i].2.2:=fun i hi=>by have hx:es'[i]?=some es'[i]:=bq (by omega);exact⟨_,hx,h3 i _ _ (ah hi) hx⟩
 refine⟨es',h1,List.ext_getElem (by simp[h2]) fun i i1 i2=>?_,fun x hx=>?_,fun e he=>?_⟩
 .simp only[cM] at i1 i2;obtain⟨x,p1,_,_,p4⟩:=at' i i2;simp only[List.getElem_map];rw[<- p4];have:es'.toList[i]?=some x:=by simpa using p1
  rw[ah i1] at this;cases this;rfl
 .obtain⟨i,hi⟩:=bV hx;have hl:=(ai.1 hi).1;have hl:i<es.length:=by simpa [h2] using hl
  obtain⟨x',p1,p2,p3,p4⟩:=at' i hl;have:es'.toList[i]?=some x':=by simpa using p1
  rw[hi] at this;cases this;exact⟨es[i],dA hl,p4.symm,p2,p3⟩
 .obtain⟨i,hi⟩:=bV he;obtain⟨hl,e1⟩:=ai.1 hi;obtain⟨x',p1,p2,p3,p4⟩:=at' i hl;rw[e1] at p2 p3 p4;have hm:x'∈es'.toList:=aC (i:=i) (by simpa using p1);exact⟨x',hm,p4.symm,p2,p3⟩
theorem Fs {h:H}{it g:Nat}(hS:Sim Y h w)(hI:h.tr.get it=some (.mapIter (some g) clk seen clk))(hg:h.tr.get g=some (.map es clk))(hborn:∀ e,e∈es->e.2.2<clk){cI:Value}(hr:Rel Y (.ptr it 0) cI)(ty:TypeId):
  ((Instr.next cI false ty).run P w=.ok (.tuple #[.bool false]) w)\/∃ e x y w',e∈es/\e.2.2∉seen/\(Instr.next cI false ty).run P w=.ok (.tuple #[.bool true,x,y]) w' /\
    Sim Y (h.set it (some (.mapIter (some g) clk (e.2.2 :: seen) clk))) w'/\Ext Y h w Y (h.set it (some (.mapIter (some g) clk (e.2.2 :: seen) clk))) w':=by
 obtain⟨LI,c,l1,l2,l3,m',rfl,hm⟩:=hS.live _ _ hI;obtain⟨L,c2,g1,p2,p3⟩:=hS.live _ _ hg;obtain⟨es',rfl,q1,q2,_⟩:=xF p3;have hm:m'=some L.1:=by
  rcases hm with⟨e1,_⟩|⟨r,B,d,z,e1,e2,e3⟩;·cases e1
  .cases e1;rw[g1] at e2;cases e2;exact e3
 subst hm;cases hr with
 |ptr hb=>
  rename_i B d z;rw[l1] at hb;cases hb;simp only at l3;subst l3;have hB:w.heap[B]?=some (.mapIter (some L.1) clk seen.reverse.toArray clk):=l2;rcases run_next_at (P:=P) w ty B L.1 clk clk seen.reverse.toArray es' clk hB p2 (fun x hx=>by obtain⟨e,e1,e2,_⟩:=q2 x hx;rw[<- e2];exact hborn e e1) (aF _) with⟨_,h2⟩|⟨e0,h1,w1,h2,h3⟩
  .exact .inl h2
  .obtain⟨m1,m2⟩:=mem_left h1;obtain⟨e,e1,e2,_⟩:=q2 e0 m1;have hw:w1.heap=w.heap/\w1.tape=w.tape/\w1.os=w.os/\w1.output=w.output:=by rcases h2 with rfl|rfl<;>exact⟨rfl,rfl,rfl,rfl⟩
   have hBl:=(aD.1 hB).1;have hset:∀ B',(ChangeMaps.setBlock w1 B (.mapIter (some L.1) clk (seen.reverse.toArray.push e0.born) clk)).heap[B']?=if B'=B then some (.mapIter (some L.1) clk (seen.reverse.toArray.push e0.born) clk) else w.heap[B']?:=fun B'=>by
    show(w1.heap.setIfInBounds B _)[B']?=_;rw[hw.1];by_cases q:B'=B;·subst q;rw[Array.getElem?_setIfInBounds_self_of_lt hBl,if_pos rfl]
    .rw[bK (fun e=>q e.symm),if_neg q]
   refine .inr ⟨e,_,_,_,e1,fun hin=>?_,h3,?_,?_⟩
   .rw[e2] at hin;have:seen.reverse.toArray.contains e0.born=true:=by simpa using hin
    rw[this] at m2;cases m2
   .refine hS.set hI l1 (by rw[hset,if_pos rfl]) (o':=.mapIter (some g) clk (e.2.2 :: seen) clk) ⟨rfl,some L.1,?_,.inr ⟨g,_,_,_,rfl,g1,rfl⟩⟩ (fun B' hne=>by rw[hset,if_neg hne]) rfl rfl;rw[e2];simp
   .exact Ext.set hI l1 rfl (by show(w1.heap.setIfInBounds B _).size=_;rw[hw.1];simp) (fun B' hne=>by rw[hset,if_neg hne]) hw.2.1 hw.2.2.1 hw.2.2.2
theorem Dr {h:H}{it g:Nat}{e:V×V×Nat}(hS:Sim Y h w)(hI:h.tr.get it=some (.mapIter (some g) clk (e.2.2 :: seen) clk))(hg:h.tr.get g=some (.map es clk))(hd:(es.map (·.2.2)).Nodup)(he:e∈es){cI:Value}(hr:Rel Y (.ptr it 0) cI):
  ∃ x y,(Instr.entry cI).run P w=.ok (.tuple #[x,y]) w/\Rel Y e.1 x/\Rel Y e.2.1 y:=by
 obtain⟨LI,c,l1,l2,l3,m',rfl,hm⟩:=hS.live _ _ hI;obtain⟨L,c2,g1,g2,g3⟩:=hS.live _ _ hg;obtain⟨es',rfl,q1,q2,q3⟩:=xF g3;have hm:m'=some L.1:=by
  rcases hm with⟨e1,_⟩|⟨r,B,d,z,e1,e2,e3⟩;·cases e1
  .cases e1;rw[g1] at e2;cases e2;exact e3
 subst hm;cases hr with
 |ptr hb=>rename_i B d z;rw[l1] at hb;cases hb;simp only at l3;subst l3;obtain⟨x,x1,x2,x3,x4⟩:=q3 e he;refine⟨_,_,run_entry_at (P:=P) w B L.1 clk seen.reverse.toArray es' clk x ?_ g2 x1 (by rw[q1];exact hd),x3,x4⟩;rw[l2,<- x2];simp
theorem rV {F:Fence}(hF:xu F){k:Nat}{Q:Exit->Act->World->Prop}{m:Nat}(ho:ops[i]?=some o)(hgd:o.guard=none)(hnd:∀ c,o.op≠.defer c)(hr:(execOp a.eval o).run P w=.ok (.value c) w')
  (hn:wpOpsIn F k P ops Q (List.range' (i+1) m) (a.put o.dst c) w'):wpOpsIn F k P ops Q (List.range' i (m+1)) a w:=by
 rw[eu];simp only[wpOpsIn,ho];have hw:Region.wanted o (yielded ops a.tmps)=true:=by simp[Region.wanted,hgd]
 rw[hw,if_pos rfl];refine⟨fun _ _=>by rcases hF with rfl|⟨_,rfl⟩<;>trivial,?_⟩;rw[Oper.semAt_eq _ _ _ hnd,hr];exact jy.upon (P:=P) hF (R:=fun c' w2=>c'=c/\w2=w') ⟨rfl,rfl⟩ fun c' w2 ⟨e1,e2⟩=>by rw[e1,e2];exact hn
theorem vH {F:Fence}{k:Nat}{Q:Exit->Act->World->Prop}(h:Q .normal a w):wpOpsIn F k P ops Q (List.range' i 0) a w:=h
theorem BQ {env:Env}{t:Tmp}(he:iU Y env a.tmps)(ht:env.tr.get t=none):iU Y env (a.put (some t) c).tmps:=by
 refine⟨by simp only[Act.put,dP];exact he.1,fun t' v' hg=>?_⟩;have ne:t≠t':=fun e=>by rw[<- e,ht] at hg;cases hg
 simp only[Act.put];rw[bK ne];exact he.2 t' v' hg
theorem xG {it:Operand}{s:Bool}(ho:o.op=.next it s)(hr:(Instr.next (a.eval it) s o.type).run P w=.ok c w'):(execOp a.eval o).run P w=.ok (.value c) w':=by unfold execOp;rw[ho];simp[hr]
theorem Ds {it:Operand}(ho:o.op=.entry it)(hr:(Instr.entry (a.eval it)).run P w=.ok c w'):(execOp a.eval o).run P w=.ok (.value c) w':=by unfold execOp;rw[ho];simp[hr]
theorem qb {x:Operand}{vs:Array Value}(ho:o.op=.extract x i)(hx:a.eval x=.tuple vs)(hi:vs[i]?=some c):(execOp a.eval o).run P w=.ok (.value c) w:=by unfold execOp;rw[ho];simp only[hx,Instr.extract,hi];rfl
theorem eval_put {t:Tmp}(h:t<a.tmps.size):(a.put (some t) c).eval (.tmp t)=c:=by simp only[Act.put,Act.eval];simp[h]
noncomputable def isO (ops:Array Oper)(i:Nat)(d:Nat)(p:Op->Bool):Bool:=match nth ops.toList i with
 |some o=>(match o.dst with
  |some t=>Nat.beq t d
  |none=>false)&&(match o.guard with
  |none=>true
  |some _=>false)&&p o.op
 |none=>false
theorem BR {d:Nat}{p:Op->Bool}(h:isO ops i d p=true):∃ o,ops[i]?=some o/\o.dst=some d/\o.guard=none/\p o.op=true:=by
 unfold isO at h;split at h
 .rename_i o ho;rw[Bg,aM] at ho;simp only[ae] at h;obtain⟨⟨h1,h2⟩,h3⟩:=h;split at h1
  .rename_i t ht;rw[T.beq_true] at h1;split at h2;·rename_i hg;exact⟨o,ho,by rw[ht,h1],hg,h3⟩
   .cases h2
  .cases h1
 .cases h
end
end Go.Hid
namespace Go.Proofs.YtboaighhnghpdaaGreatDoor
open Go Go.Ev Go.Ae Go.Ae.C Go.RowKit
set_option maxRecDepth 100000
variable {o:Op}
noncomputable section
def Md:Code:=.seq (partOf 168 6) (.seq (.cond (.tmp 24) .skip (.exit 0)) (.block 1 (.seq (partOf 168 7) (partOf 168 8))))
def xH:Code:=.seq (partOf 168 5) (.block 0 (.loop Md))
def o5:Array Oper:=opsOf (partOf 168 5)
def o6:Array Oper:=opsOf (partOf 168 6)
def o7:Array Oper:=opsOf (partOf 168 7)
def o8:Array Oper:=opsOf (partOf 168 8)
def Rw:List A:=[I 1,I 2,Uu 3]
def QT (a0 v:A):List (Nat×AO):=[st 0 336 [a0,.m 2],(2,.mq It Rw v 1 0 (0,0)),row 3 4 3 [i64]]
def bFs:List (LE×LE):=uL 1 2 3++rg 4 1 10000
def bTm:T A:=(T.leaf.put 3 (some (P 0))).put 25 (some (.tp [.ag Rw,.sl 3 oz (4,0) (.al (4,0) 1)]))
def bSt (a0 v:A):AS:=⟨36,bTm,gq 0 (QT a0 v) .leaf,8,0,6,(QT a0 v).length,ie bFs ⟨.leaf,.leaf,[]⟩,[]⟩
def TT (J:AS):Bool:=match J.mem.get 2 with
 |some (_,.mq _ key (.sl E o n (.al m w)) 1 2 _)=>match J.mem.get E with
  |some (_,.cl false (some 3) [.rw [.int .i64 _ _] N none])=>eqQ J.z n m&&eqQ J.z n N&&leQ J.z (0,1) n&&leQ J.z n (4,0)&&Nat.beq w 1&&Nat.beq o.o 0&&Nat.beq o.st 0&&ij J.mem 0 0&&ij J.mem 3 2&&Mv J.z Rw (.ag key)&&!Nat.beq E 3
  |_=>false
 |_=>false
def Ft:List A:=[.k .nils,.sl 4 oz (5,0) (.al (6,0) 6),.sl 4 oz (5,0) (.kn (6,0))]
def Kx:List A:=[.k .nils,.sl 5 oz (7,0) (.al (7,0) 1)]
def Ut (J:AS):Bool:=mK S.G0 (qH cfH 40) Ag o8 (nW o8.toList 0 .leaf) 0 ⟨[],[],[],J.mem,[]⟩ J TT
def TU (a0 v:A):Bool:=FL S.G0 (qH cfH 40) Ag o7 (o7.toList.drop 1) (bSt a0 v) Ut
end
theorem zas:Go.Ae.fm (fun a0=>Go.Ae.fm (fun v=>TU a0 v) Kx) Ft=true:=by kernel_rfl
theorem p5:partOf 168 5=.region 5 o5 false:=by kernel_rfl
theorem p6:partOf 168 6=.region 6 o6 false:=by kernel_rfl
theorem p7:partOf 168 7=.region 7 o7 false:=by kernel_rfl
theorem p8:partOf 168 8=.region 8 o8 true:=by kernel_rfl
theorem ok8:kV o8=true:=by kernel_rfl
theorem s6:o6.size=2:=by kernel_rfl
theorem s7:o7.size=6:=by kernel_rfl
theorem s5:o5.size=5:=by kernel_rfl
noncomputable def Fu:Op->Bool
 |.next (.tmp t) s=>Nat.beq t 22&&!s
 |_=>false
noncomputable def Me (t i:Nat):Op->Bool
 |.extract (.tmp t') i'=>Nat.beq t' t&&Nat.beq i' i
 |_=>false
noncomputable def Mf:Op->Bool
 |.entry (.tmp t)=>Nat.beq t 22
 |_=>false
noncomputable def Mg:Op->Bool
 |.range t (.tmp u)=>Nat.beq t 334&&Nat.beq u 21
 |_=>false
theorem Fv (h:Fu o=true):o=.next (.tmp 22) false:=by
 unfold Fu at h;split at h
 .rename_i t s;simp only[ae,T.beq_true] at h;obtain⟨rfl,h2⟩:=h;cases s;·rfl
  .cases h2
 .cases h
theorem IU {t i:Nat}(h:Me t i o=true):o=.extract (.tmp t) i:=by
 unfold Me at h;split at h;·simp only[ae,T.beq_true] at h;obtain⟨rfl,rfl⟩:=h;rfl
 .cases h
theorem IV (h:Mf o=true):o=.entry (.tmp 22):=by
 unfold Mf at h;split at h;·rw[T.beq_true] at h;subst h;rfl
 .cases h
theorem IW (h:Mg o=true):o=.range 334 (.tmp 21):=by
 unfold Mg at h;split at h;·simp only[ae,T.beq_true] at h;obtain⟨rfl,rfl⟩:=h;rfl
 .cases h
theorem Uv:Hid.isO o6 0 23 Fu=true:=by kernel_rfl
theorem Uw:Hid.isO o6 1 24 (Me 23 0)=true:=by kernel_rfl
theorem zat:Hid.isO o7 0 25 Mf=true:=by kernel_rfl
theorem Uy:Hid.isO o5 4 22 Mg=true:=by kernel_rfl
theorem d7:(sC (o7.toList.drop 1)).contains 0=false/\(sC (o7.toList.drop 1)).contains 3=false/\(sC (o7.toList.drop 1)).contains 22=false:=⟨by kernel_rfl,by kernel_rfl,by kernel_rfl⟩
theorem d8:(sC o8.toList).contains 0=false/\(sC o8.toList).contains 3=false/\(sC o8.toList).contains 22=false:=⟨by kernel_rfl,by kernel_rfl,by kernel_rfl⟩
theorem Uz:(o7.toList.drop 1).length=5:=by kernel_rfl
inductive Uu0:V->Prop
 |nil:Uu0 .nils
 |al (b len m:Nat):Uu0 (.slice b 0 len (.atl m 6))
 |kn (b len c:Nat):Uu0 (.slice b 0 len (.known c))
theorem Uu0.form {u:V}(h:Uu0 u):∃ a l5 l6 b4,a∈Ft/\plain a=true/\noA a=true/\∀ Z:NV,Z.ints[5]?=some l5->Z.ints[6]?=some l6->Z.blks[4]?=some b4->AV Z a u:=by
 cases h with
 |nil=>exact⟨_,0,0,0,.head _,rfl,rfl,fun Z _ _ _=>.k _⟩
 |al b len m=>exact⟨_,len,m,b,.tail _ (.head _),rfl,rfl,fun Z h1 h2 h3=>.sl h3 ⟨0,fun q=>absurd rfl q,rfl⟩ ⟨_,h1,by simp⟩ (.al ⟨_,h2,by simp⟩)⟩
 |kn b len c=>exact⟨_,len,c,b,.tail _ (.tail _ (.head _)),rfl,rfl,fun Z h1 h2 h3=>.sl h3 ⟨0,fun q=>absurd rfl q,rfl⟩ ⟨_,h1,by simp⟩ (.kn ⟨_,h2,by simp⟩)⟩
theorem rW {Z:NV}{a0:A}{u0:V}{U b:Nat}{pat:List V}{tr:T V}(h0:cell 2 pat tr 0=some u0)(h1:cell 2 pat tr 1=some (.map b))(hp:plain a0=true)(ha:AV Z a0 u0)(hb:Z.blks[U]?=some b):CR Z [a0,.m U] 2 pat tr:=by
 have one:WV Z a0 1:=.one fun _ _ _ e=>by rw[e] at hp;cases hp
 have one2:WV Z (.m U) 1:=.one fun _ _ _ e=>by cases e
 refine⟨.cons one (.cons one2 .nil),fun i hi=>?_,fun i c hc=>?_⟩
 .match i with
  |0=>rw[h0];rfl
  |1=>rw[h1];rfl
  |i+2=>omega
 .have hi:=eT hc;match i with
  |0=>rw[h0] at hc;cases hc;exact .here hp ha
  |1=>rw[h1] at hc;cases hc;exact .skip (w:=1) (i:=0) one (.here rfl (.m hb))
  |i+2=>omega
theorem Fw {Z:NV}{e1 e2 e3:LE}{k:V}{x y z:Int}(h:Hid.xI k x y z)(hx:Num Z e1 x)(hy:Num Z e2 y)(hz:Num Z e3 z):AV Z (.ag [.i .i64 e1,.i .i64 e2,.i .u32 e3]) k:=by
 obtain⟨pat,tr,rfl,h0,h1,h2⟩:=h;have one:∀ k e,WV Z (.i k e) 1:=fun k e=>.one fun _ _ _ q=>by cases q
 refine .ag (.cons (w:=1) (one _ _) (.cons (w:=1) (one _ _) (.cons (w:=1) (one _ _) .nil))) (fun i hi=>?_) fun i c hc=>?_
 .match i with
  |0=>rw[h0];rfl
  |1=>rw[h1];rfl
  |2=>rw[h2];rfl
  |i+3=>omega
 .have hi:=eT hc;match i with
  |0=>rw[h0] at hc;cases hc;exact .here rfl (.i hx)
  |1=>rw[h1] at hc;cases hc;exact .skip (w:=1) (i:=0) (one _ _) (.here rfl (.i hy))
  |2=>rw[h2] at hc;cases hc;exact .skip (w:=1) (i:=1) (one _ _) (.skip (w:=1) (i:=0) (one _ _) (.here rfl (.i hz)))
  |i+3=>omega
structure Dt (n0 nn bs bg bd bg2:Nat)(O0 O1 g2:O)(es:List (V×V×Nat))(cl:Nat)(R:List (Nat×List V))(it:Nat)(seen:List Nat)(es2:List (V×V×Nat))(cl2:Nat)(R2:List (Nat×List V))(h:H):Prop where
 g0:h.tr.get bs=some O0
 g1:h.tr.get bd=some O1
 gm:h.tr.get bg=some (.map es cl)
 gn:h.tr.get bg2=some (.map es2 cl2)
 gi:h.tr.get it=some (.mapIter (some bg) cl seen cl)
 gl:h.tr.get 2=some g2
 p1:Hid.oa nn es cl R h
 p2:Hid.oa nn es2 cl2 R2 h
 n1:∀ p,p∈R->n0<=p.1/\p.1<h.next/\p.1≠it
 n2:∀ p,p∈R2->n0<=p.1/\p.1<h.next/\p.1≠it
 ap:∀ p,p∈R->∀ q,q∈R2->p.1≠q.1
 ni:n0<=it/\it<h.next
 c1:es2.length+Hid.xE es seen<=nn
 c2:R2.length+Hid.xE es seen<=nn
noncomputable section
def qY (bs bd it:Nat):Env:=⟨36,((T.leaf.put 0 (some (.ptr bs 0))).put 3 (some (.ptr bd 0))).put 22 (some (.ptr it 0))⟩
end
theorem jd {bs bd it t:Nat}:(qY bs bd it).tr.get t=if t=22 then some (.ptr it 0) else if t=3 then some (.ptr bd 0) else if t=0 then some (.ptr bs 0) else none:=by simp only[qY,T.eL,T.eR]
end Go.Proofs.YtboaighhnghpdaaGreatDoor
namespace Go.Proofs.YtboaighhnghpdaaGreatDoor
open Go Go.Ev Go.Ae Go.Ae.C Go.RowKit
set_option maxRecDepth 100000
theorem Fx {α:Type}{f:α->Bool}{l:List α}(h:Go.Ae.fm f l=true){x:α}(hx:x∈l):f x=true:=Go.Ae.gL h x hx
theorem lkV {n:Nat}{es:List (V×V×Nat)}{cl:Nat}{R:List (Nat×List V)}{h:H}(k:Hid.oa n es cl R h)(w:V):∃ v l7 b5,v∈Kx/\∀ Z:NV,Z.ints[7]?=some l7->Z.blks[5]?=some b5->AV Z v (lkP w es):=by
 unfold lkP;cases q:gH w es 0 with
 |none=>exact⟨_,0,0,.head _,fun Z _ _=>.k _⟩
 |some p=>obtain⟨i,y⟩:=p;obtain⟨_,f2,_⟩:=jI q;rw[dw] at f2;obtain⟨p0,p1,p2,_⟩:=k.val y (aC f2);refine⟨_,p0.2.length,p0.1,.tail _ (.head _),fun Z h1 h2=>?_⟩;simp only[p2];exact .sl h2 ⟨0,fun q=>absurd rfl q,rfl⟩ ⟨_,h1,by simp⟩ (.al ⟨_,h1,by simp⟩)
section
variable {B:TH}{Y0:Ren}{H0:H}{w0:World}{a00:Act}{n0 nn bs bg bd bg2 it:Nat}{O0 g2:O}{es es2:List (V×V×Nat)}{cl cl2:Nat}{R R2:List (Nat×List V)}{seen:List Nat}{h:H}{a:Act}{w:World}{k:Nat}{F:Fence}
theorem Mh (hF:xu F){Q:Exit->Act->World->Prop}{pat1:List V}{tr1:T V}{u0:V}{e:V×V×Nat}(hu:Uu0 u0)(hc0:cell 2 pat1 tr1 0=some u0)(hc1:cell 2 pat1 tr1 1=some (.map bg2))(he:e∈es)(hns:e.2.2∉seen)(hgls:g2=.ro (some 0) 4 [.int .u8 0,.int .u8 111,.int .u8 108,.int .u8 102] .leaf)
  (hd:Dt n0 nn bs bg bd bg2 O0 (.cells (some 336) 2 pat1 tr1) g2 es cl R it seen es2 cl2 R2 h){h':H}(hh:h'=h.set it (some (.mapIter (some bg) cl (e.2.2 :: seen) cl)))
  (hA:Hid.AtD Y0 H0 w0 a00 (qY bs bd it) h' a w)(hnn:nn<=10000)(hlow:bs<n0/\bd<n0/\bg<n0/\bg2<n0/\2<n0)(hne:bd≠bg2/\bd≠2/\bg2≠2/\bs≠bd/\bs≠bg2/\bg≠bd/\bg≠bg2)
  (hN:∀ es2' cl2' R2' h' a' w',Dt n0 nn bs bg bd bg2 O0 (.cells (some 336) 2 pat1 tr1) g2 es cl R it (e.2.2 :: seen) es2' cl2' R2' h'->Hid.AtD Y0 H0 w0 a00 (qY bs bd it) h' a' w'->Q .normal a' w'):
  (Code.seq (partOf 168 7) (partOf 168 8)).wpIn F k Tryz.prog Q a w:=by
 obtain⟨l1,l2,l3,l4,l5⟩:=hlow;obtain⟨n1,n2,n3,n4,n5,n6,n7⟩:=hne;have hni:=hd.ni;have gi':h'.tr.get it=some (.mapIter (some bg) cl (e.2.2 :: seen) cl):=by rw[hh,H.gj,if_pos rfl]
 have gx:∀ x,x≠it->h'.tr.get x=h.tr.get x:=fun x hx=>by rw[hh,H.gj,if_neg hx]
 have nx':h'.next=h.next:=by rw[hh];rfl
 have gm:h'.tr.get bg=some (.map es cl):=by rw[gx bg (by omega)];exact hd.gm
 have gn:h'.tr.get bg2=some (.map es2 cl2):=by rw[gx bg2 (by omega)];exact hd.gn
 have g1:h'.tr.get bd=some (.cells (some 336) 2 pat1 tr1):=by rw[gx bd (by omega)];exact hd.g1
 have gl':h'.tr.get 2=some g2:=by rw[gx 2 (by omega)];exact hd.gl
 have p1':Hid.oa nn es cl R h':=hd.p1.mono fun p hp=>gx p.1 (hd.n1 p hp).2.2;have p2':Hid.oa nn es2 cl2 R2 h':=hd.p2.mono fun p hp=>gx p.1 (hd.n2 p hp).2.2;have hlt:=Hid.BP he hns;obtain⟨Y,s1,s2,s3,s4⟩:=hA;refine wpIn_seq ?_;rw[p7];refine jN ?_;rw[s7];obtain⟨x0,q1,q2,q3,q4⟩:=Hid.BR zat;have q4:=IV q4;have hr:=jO s1.glob s3 (.tmp 22) (.ptr it 0) (by show(qY bs bd it).tr.get 22=_;rw[jd,if_pos rfl]);obtain⟨vx,vy,r1,r2,r3⟩:=Hid.Dr (P:=Tryz.prog) s1 gi' gm p1'.stamps he hr;refine Hid.rV hF (m:=5) q1 q3 (fun c q=>by rw[q4] at q;cases q) (Hid.Ds q4 r1) ?_;rw[q2];obtain⟨x,y,z,k1,k2,k3,k4⟩:=p1'.key e he;obtain⟨pr,pr1,pr2,pr3⟩:=p1'.val e he;obtain⟨orow,or1,or2,or3,or4⟩:=p1'.live pr pr1;have s3':iU Y ⟨36,(qY bs bd it).tr.put 25 (some (.tuple [e.1,e.2.1]))⟩ (a.put (some 25) (.tuple #[vx,vy])).tmps:=kZ (env':=⟨36,(qY bs bd it).tr.put 25 (some (.tuple [e.1,e.2.1]))⟩) s3 rfl (fH.J5 r2 r3);obtain⟨a0,i5,i6,b4,af,ap,an,aAV⟩:=hu.form;obtain⟨v,i7,b5,vf,vAV⟩:=lkV p2' e.1;have hrun:TU a0 v=true:=Fx (Fx zas af) vf;obtain⟨Z1,hZ1⟩:∃ Z1:NV,Z1=⟨[0,x,y,z,(pr.2.length:Int),i5,i6,i7],[],[bd,0,bg2,pr.1,b4,b5],([(bd,.cells (some 336) 2 pat1 tr1),(bg2,.map es2 cl2),(pr.1,orow)]:List (Nat×O)).map fun p=>[p]⟩:=⟨_,rfl⟩;have N1:Num Z1 (1,0) x:=⟨x,by rw[hZ1];rfl,(bG _).symm⟩;have N2:Num Z1 (2,0) y:=⟨y,by rw[hZ1];rfl,(bG _).symm⟩;have N3:Num Z1 (3,0) z:=⟨z,by rw[hZ1];rfl,(bG _).symm⟩;have N4:Num Z1 (4,0) (pr.2.length:Int):=⟨_,by rw[hZ1];rfl,(bG _).symm⟩;have z01:Z1.ints[0]?=some 0:=by rw[hZ1];rfl
 have ob1:Z1.objs=([(bd,.cells (some 336) 2 pat1 tr1),(bg2,.map es2 cl2),(pr.1,orow)]:List (Nat×O)).map fun p=>[p]:=by rw[hZ1]
 obtain⟨rp,rt,rfl,rcr⟩:=KA N4 or2 or3;have hpr:=hd.n1 pr pr1;have hM1:Mem (Th (fun _ _ _ _=>False) C.inv) (lB Z1 (bSt a0 v).mem h') Z1 (bSt a0 v) ⟨⟨36,(qY bs bd it).tr.put 25 (some (.tuple [e.1,e.2.1]))⟩,h',[]⟩:=by
  refine xU (nx:=8) (ns:=0) (nb:=6) (mem:=QT a0 v) (by rw[hZ1];rfl) z01 (by rw[hZ1];rfl) (by rw[hZ1];rfl) (by rw[ob1];rfl) (fun g hg=>?_) (fun t b ht=>?_) (show([0,2,3]:List Nat).Nodup by decide) (fun i U ao q=>?_) (by rw[ob1];exact lH (by simp;omega)) fun q hq=>?_
  .have pos:(1:Int)<=pr.2.length:=by omega
   have top:(pr.2.length:Int)<=10000:=by omega
   simp only[bFs,uL,anyI,AU,rg,nX,lA,bM,cN,aq,aA,or_false] at hg;rcases hg with rfl|rfl|rfl|rfl|rfl|rfl|rfl|rfl
   .exact⟨_,_,eO z01 _,N1,k2.1⟩
   .exact⟨_,_,N1,eO z01 _,k2.2⟩
   .exact⟨_,_,eO z01 _,N2,k3.1⟩
   .exact⟨_,_,N2,eO z01 _,k3.2⟩
   .exact⟨_,_,eO z01 _,N3,k4.1⟩
   .exact⟨_,_,N3,eO z01 _,k4.2⟩
   .exact⟨_,_,eO z01 _,N4,pos⟩
   .exact⟨_,_,N4,eO z01 _,top⟩
  .simp only[bTm,T.eL,T.eR] at ht;show ∃ u,((qY bs bd it).tr.put 25 _).get t=some u/\_;rw[T.eL];split at ht;·rename_i q;cases ht;rw[if_pos q];refine⟨_,rfl,.tp (.cons (Fw k1 N1 N2 N3) (.cons ?_ .nil))⟩;rw[pr2];exact .sl (by rw[hZ1];rfl) ⟨0,fun q=>absurd rfl q,rfl⟩ N4 (.al N4)
   .rename_i q;rw[if_neg q];split at ht;·rename_i q;cases ht;exact⟨.ptr bd 0,by rw[jd,q];rfl,.p (by rw[hZ1];rfl) ⟨0,fun q=>absurd rfl q,rfl⟩⟩
    .cases ht
  .match i,q with
   |0,q=>cases q;exact⟨bd,_,by rw[hZ1];rfl,by rw[ob1];rfl,.cl (rW hc0 hc1 ap (aAV Z1 (by rw[hZ1];rfl) (by rw[hZ1];rfl) (by rw[hZ1];rfl)) (by rw[hZ1];rfl)),fun p hp=>by rw[aj.1 hp];exact⟨g1,by show bd<h'.next;omega⟩⟩
   |1,q=>cases q;exact⟨bg2,_,by rw[hZ1];rfl,by rw[ob1];rfl,.mq (by rw[ob1];rfl) (fun e he=>let ⟨x,y,z,j1,j2,j3,j4⟩:=p2'.key e he;⟨xL j1 j2 j3 j4,p2'.born e he⟩) p2'.stamps (xL k1 k2 k3 k4) (Fw k1 N1 N2 N3) (vAV Z1 (by rw[hZ1];rfl) (by rw[hZ1];rfl)) (.inl ⟨rfl,rfl,rfl,rfl⟩),fun p hp=>by rw[aj.1 hp];exact⟨gn,by show bg2<h'.next;omega⟩⟩
   |2,q=>cases q;exact⟨pr.1,_,by rw[hZ1];rfl,by rw[ob1];rfl,.cl rcr,fun p hp=>by rw[aj.1 hp];exact⟨or1,by show pr.1<h'.next;omega⟩⟩
   |i+3,q=>simp[QT] at q
  .rw[aj.1 hq];refine⟨by show 2<h'.next;omega,fun hp hh p hp'=>?_,gl'.trans (congrArg some hgls)⟩;rw[ob1] at hh;simp only[aS,cB,aq,aA,or_false] at hh;rcases hh with rfl|rfl|rfl<;>rw[aj.1 hp']<;>simp only<;>omega
 obtain⟨env2,h2,t1,t2,run,Z2,J2,le2,hM2,hc2⟩:=vY (S.jl fun _ _ _=>none).1 (Af (fun _ _ _ _=>False) 40) (FB _ _) (o7.toList.drop 1) 1 (fun j o hj=>by rw[bJ] at hj;rw[<- aM];exact hj) hrun hM1;rw[Uz] at run;refine run F hF k _ 0 Y _ w s1 s3' fun Y2 a2 w2 v1 v2 v3 v4=>Hid.vH ?_;rw[p8];obtain⟨env3,h3,run3,z3,kp3,Z3,J3,le3,hM3,hc3⟩:=FC (id:=8) hc2 ok8 hM2;refine run3 hF v1 v3 fun Y3 a3 w3 y1 y2 y3 y4=>?_;have A3:Hid.AtD Y0 H0 w0 a00 env3 h3 a3 w3:=⟨Y3,y1,(s2.trans v2).trans y2,y3,by rw[y4,v4];exact s4⟩;have lle:=le2.trans le3;have hc:=hc3;unfold TT at hc;split at hc;case h_2=>cases hc
 rename_i sq kk key E o nL m wd xq hb2;split at hc;case h_2=>cases hc
 rename_i sE lo hi' N hbE;simp only[ae,T.beq_true,bw] at hc;obtain⟨⟨⟨⟨⟨⟨⟨⟨⟨⟨c1,c2⟩,c3⟩,c4⟩,c5⟩,c6⟩,c7⟩,c8⟩,c9⟩,c10⟩,c11⟩:=hc;have hz4:=hM3.vr.zr;have z4:=hM3.vr.z0;obtain⟨bg',hpm,w1,w2',w3',w4⟩:=hM3.hr.at' _ _ _ hb2;obtain⟨bE,hpE,u1,u2,u3,u4⟩:=hM3.hr.at' _ _ _ hbE;have stamp:∀ {U s:Nat} {b:Nat} {O:O},ij J3.mem U s=true->Z1.objs[s]?=some [(b,O)]->h3.tr.get b=some O/\∃ ao,J3.mem.get U=some (s,ao):=fun {U s b O} q e=>by
  unfold ij at q;split at q;·rename_i s' ao hU;rw[T.beq_true] at q;subst q;obtain⟨_,hp,_,q2,_,q4⟩:=hM3.hr.at' _ _ _ hU;rw[lle.o e] at q2;cases q2;exact⟨(q4 _ (aj.2 rfl)).1,ao,hU⟩
  .cases q
 obtain⟨gs4,_,gsU⟩:=stamp c8 (b:=bd) (O:=.cells (some 336) 2 pat1 tr1) (by rw[ob1];rfl);obtain⟨gr4,_,grU⟩:=stamp c9 (b:=pr.1) (O:=.cells (some 3) pr.2.length rp rt) (by rw[ob1];rfl);cases w3' with
 |@mq _ _ _ _ _ _ _ es0 cl0 es4 cl4 wk u m1 m2 m3 m4' m5 m6 m7=>
 have oe:Z3.objs[1]?=some [(bg2,O.map es2 cl2)]:=lle.o (by rw[ob1];rfl);rw[oe] at m1;cases m1;cases u3 with
 |@cl _ _ _ nr pat ptr crE=>
 obtain⟨L,hLl,hLn,hLc,hLi⟩:=B3 crE;cases m6 with
 |@sl _ b' _ off len _ _ cap hU' hoff hlen' hcap=>
 rw[u1] at hU';cases hU';cases hcap with
 |@al _ mm _ hmm=>
 obtain⟨mo,mo1,mo2⟩:=hoff;have hoff0:off=0:=by rw[mo2,c6,c7];omega
 have e1:=jB hz4 z4 c1 hlen' hmm;have e2:=jB hz4 z4 c2 hlen' hLn;have e3:=eV hz4 z4 c3 (eO z4 1) hlen';have e4:=eV hz4 z4 c4 hlen' (N4.mono lle);have hlL:len=L.length:=by omega
 have hmL:mm=L.length:=by omega
 subst hoff0 hlL hmL c5;have hLlen:nr=L.length:=hLl.symm;subst hLlen;obtain⟨_,kq2,_⟩:=F0 hz4 z4 c10 (B4 (Z:=Z3) (N1.mono lle) (N2.mono lle) (N3.mono lle)) m5;have ow:=KB (x:=x) (y:=y) (z:=z) kq2 (N1.mono lle) (N2.mono lle) (N3.mono lle);obtain⟨hes,hcl⟩:es4=rR wk (.slice bE 0 L.length (.atl L.length 1)) es2 cl2/\cl4=clP wk es2 cl2:=by
  rcases m7 with⟨q,_⟩|⟨_,q,q',_⟩;·cases q
  .exact⟨q,q'⟩
 subst hes hcl;have gm4:=(w4 _ (aj.2 rfl)).1;have gE4:=(u4 _ (aj.2 rfl));simp only at gm4 gE4;have sepB:∀ {U s b:Nat} {ao:AO} {O:O},J3.mem.get U=some (s,ao)->Z3.objs[s]?=some [(b,O)]->U≠E->b≠bE:=fun hU e ne=>hM3.hr.sep _ _ _ _ _ _ hU hbE ne _ _ e u2 _ (aj.2 rfl) _ (aj.2 rfl);have nbg:bg2≠bE:=sepB hb2 w2' fun e=>by rw[e,hbE] at hb2;cases hb2
 have nbr:pr.1≠bE:=sepB grU (lle.o (by rw[ob1];rfl)) fun e=>by rw[<- e] at c11;cases c11
 have nbs:bd≠bE:=by
  by_cases q:0=E;·subst q;rw[gsU] at hbE;cases hbE;have:Z3.objs[0]?=some [(bd,O.cells (some 336) 2 pat1 tr1)]:=lle.o (by rw[ob1];rfl);rw[this] at u2;cases u2
  .exact sepB gsU (lle.o (x:=0) (z:=[(bd,O.cells (some 336) 2 pat1 tr1)]) (by rw[ob1];rfl)) q
 have own:∀ b,b≠bd->b≠bg2->b≠pr.1->¬ KF Z1 (bSt a0 v).mem b:=fun b x1 x2 x3 hk=>by have:=rT ob1 hk;simp at this;omega
 have fr3:∀ b,b<h'.next->b≠bd->b≠bg2->b≠pr.1->h3.tr.get b=h'.tr.get b/\b≠bE:=fun b hb x1 x2 x3=>by
  refine⟨hM3.hr.frame b hb (own b x1 x2 x3),fun e=>?_⟩;rcases gE4.2.2 with q|q
  .exact own b x1 x2 x3 (by rw[e];exact q)
  .have q:h'.next<=bE:=q;omega
 have hle3:h'.next<=h3.next:=hM3.hr.le;have getR:∀ p,p∈R->h3.tr.get p.1=h'.tr.get p.1/\p.1≠bE:=fun p hp=>by
  by_cases q:p.1=pr.1;·rw[q];exact⟨gr4.trans or1.symm,nbr⟩
  .have:=hd.n1 p hp;exact fr3 p.1 (by omega) (by omega) (by omega) q
 have getR2:∀ p,p∈R2->h3.tr.get p.1=h'.tr.get p.1/\p.1≠bE:=fun p hp=>by have:=hd.n2 p hp;exact fr3 p.1 (by omega) (by omega) (by omega) fun q=>hd.ap pr pr1 p hp q.symm
 have fx:∀ b,b<n0->b≠bd->b≠bg2->h3.tr.get b=h'.tr.get b/\b≠bE:=fun b hb x1 x2=>fr3 b (by omega) x1 x2 (by omega);have cc1:=hd.c1;have cc2:=hd.c2;have kO4:=p2'.put (R':=R2) (h':=h3) (n':=nn) (w:=wk) (u:=.slice bE 0 L.length (.atl L.length 1)) (b:=bE) (L:=L) ⟨ow,k2,k3,k4⟩ rfl (by omega) (by omega) (fun hm=>by obtain⟨p,q1,q2⟩:=aJ.1 hm;exact(getR2 p q1).2 q2) (fun _ q=>q) p2'.nd (fun i e' q1 _=>p2'.val e' (aC q1)) (aF _) (by omega) (by omega) (fun p hp=>(getR2 p hp).1) gE4.1 hLc hLi;have itn:=fr3 it (by omega) (by omega) (by omega) (fun q=>hpr.2.2 q.symm);have hE0:n0<=bE:=by
  rcases gE4.2.2 with q|q
  .have:=rT ob1 q;simp at this;rcases this with q|q|q
   .exact absurd q.symm nbs
   .exact absurd q.symm nbg
   .exact absurd q.symm nbr
  .have q:h'.next<=bE:=q;omega
 refine hN _ _ (R2++[(bE,L)]) h3 a3 w3 ⟨?_,gs4,?_,gm4,?_,?_,p1'.mono fun p hp=>(getR p hp).1,kO4,fun p hp=>?_,fun p hp=>?_,fun p hp q hq=>?_,⟨hni.1,by omega⟩,?_,?_⟩ (A3.tmps (by rw[z3,t2];rfl) fun t u hu=>?_);·rw[(fx bs l1 n4 n5).1,gx bs (by omega)];exact hd.g0
 .rw[(fx bg l3 n6 n7).1];exact gm
 .rw[itn.1];exact gi'
 .rw[(fx 2 l5 (fun e=>n2 e.symm) (fun e=>n3 e.symm)).1];exact gl'
 .have:=hd.n1 p hp;omega
 .rcases aK.1 hp with q|q;·have:=hd.n2 p q;omega
  .rw[aj.1 q];exact⟨hE0,gE4.2.1,fun e=>itn.2 e.symm⟩
 .rcases aK.1 hq with r|r;·exact hd.ap p hp q r
  .rw[aj.1 r];exact(getR p hp).2
 .have:=Hid.B1 (w:=wk) (u:=V.slice bE 0 L.length (.atl L.length 1)) (es:=es2) (cl:=cl2);omega
 .simp;omega
 .obtain⟨d0,d3,d22⟩:=d7;obtain⟨f0,f3,f22⟩:=d8;have hu':=hu;rw[jd] at hu';have nin:∀ {l:List Tmp} {t:Tmp},l.contains t=false->t∉l:=fun hf hm=>by rw[dh.2 hm] at hf;cases hf
  have step:∀ t,t∉sC (o7.toList.drop 1)->t∉sC o8.toList->t≠25->env3.tr.get t=(qY bs bd it).tr.get t:=fun t x1 x2 x3=>by rw[kp3 t x2,t1 t x1];show((qY bs bd it).tr.put 25 _).get t=_;rw[T.eL,if_neg x3]
  split at hu';·rename_i q;subst q;rw[step 22 (nin d22) (nin f22) (by decide)];exact hu
  .split at hu';·rename_i q;subst q;rw[step 3 (nin d3) (nin f3) (by decide)];exact hu
   .split at hu';·rename_i q;subst q;rw[step 0 (nin d0) (nin f0) (by decide)];exact hu
    .cases hu'
end
noncomputable section
def QU (a0:A):List (Nat×AO):=[st 0 336 [a0,.m 2]]
def sSt (a0:A):AS:=⟨36,T.leaf.put 0 (some (P 0)),gq 0 (QU a0) .leaf,8,0,6,(QU a0).length,ie [] ⟨.leaf,.leaf,[]⟩,[]⟩
def TV (J:AS):Bool:=match J.tm.get 21 with
 |some (.m 2)=>ij J.mem 0 0
 |_=>false
def UA (a0:A):Bool:=FL S.G0 (qH cfH 40) Ag o5 (o5.toList.take 4) (sSt a0) TV
def m5 (bs bd bg bg2:Nat)(O0 O1 Og On g2:O)(nx:Nat):H:=⟨((((T.leaf.put 2 (some g2)).put bs (some O0)).put bd (some O1)).put bg (some Og)).put bg2 (some On),nx⟩
def Ky:Bool:=match S.G0.ty 334 with
 |some ty=>match ty.desc with
  |.map _ _=>true
  |_=>false
 |none=>false
end
theorem UB:Go.Ae.fm UA Ft=true:=by kernel_rfl
theorem UC:Ky=true:=by kernel_rfl
theorem d5:(sC (o5.toList.take 4)).contains 0=false/\(sC (o5.toList.take 4)).contains 3=false:=⟨by kernel_rfl,by kernel_rfl⟩
theorem UD:(o5.toList.take 4).length=4:=by kernel_rfl
theorem iO {bs bd bg bg2:Nat}{O0 O1 Og On g2:O}{nx:Nat}(x:Nat):(m5 bs bd bg bg2 O0 O1 Og On g2 nx).tr.get x=if x=bg2 then some On else if x=bg then some Og else if x=bd then some O1 else if x=bs then some O0 else if x=2 then some g2 else none:=by simp only[m5,T.eL,T.eR]
section
variable {Y0:Ren}{H0:H}{w0:World}{a00:Act}{n0 nn bs bg bd bg2 it:Nat}{O0 g2:O}{es es2:List (V×V×Nat)}{cl cl2:Nat}{R R2:List (Nat×List V)}{seen:List Nat}{h:H}{a:Act}{w:World}{k:Nat}{F:Fence}
theorem Mi (hF:xu F){Q:Exit->Act->World->Prop}{pat1:List V}{tr1:T V}{u0:V}(hu:Uu0 u0)(hc0:cell 2 pat1 tr1 0=some u0)(hc1:cell 2 pat1 tr1 1=some (.map bg2))(hgls:g2=.ro (some 0) 4 [.int .u8 0,.int .u8 111,.int .u8 108,.int .u8 102] .leaf)
  (hd:Dt n0 nn bs bg bd bg2 O0 (.cells (some 336) 2 pat1 tr1) g2 es cl R it seen es2 cl2 R2 h)(hA:Hid.AtD Y0 H0 w0 a00 (qY bs bd it) h a w)(hnn:nn<=10000)(hlow:bs<n0/\bd<n0/\bg<n0/\bg2<n0/\2<n0)(hne:bd≠bg2/\bd≠2/\bg2≠2/\bs≠bd/\bs≠bg2/\bg≠bd/\bg≠bg2)
  (hQ:∀ seen' es2' cl2' R2' h' a' w',Dt n0 nn bs bg bd bg2 O0 (.cells (some 336) 2 pat1 tr1) g2 es cl R it seen' es2' cl2' R2' h'->Hid.AtD Y0 H0 w0 a00 (qY bs bd it) h' a' w'->Q .normal a' w'):
  (Code.block 0 (.loop Md)).wpIn F k Tryz.prog Q a w:=by
 refine wpIn_block ?_;refine jS (fun m a' w'=>∃ seen es2 cl2 R2 h',m=Hid.xE es seen/\Dt n0 nn bs bg bd bg2 O0 (.cells (some 336) 2 pat1 tr1) g2 es cl R it seen es2 cl2 R2 h'/\Hid.AtD Y0 H0 w0 a00 (qY bs bd it) h' a' w') (fun m a1 w1 hJ=>?_) (m:=Hid.xE es seen) ⟨seen,es2,cl2,R2,h,rfl,hd,hA⟩;obtain⟨seen,es2,cl2,R2,h,rfl,hd,hA⟩:=hJ;obtain⟨Y,s1,s2,s3,s4⟩:=hA;have j22:(qY bs bd it).tr.get 22=some (.ptr it 0):=by rw[jd,if_pos rfl]
 have j23:(qY bs bd it).tr.get 23=none:=by rw[jd];rfl
 have back:∀ {b:Bool} {h':H} {a':Act} {w':World},Hid.AtD Y0 H0 w0 a00 ⟨36,(qY bs bd it).tr.put 24 (some (.bool b))⟩ h' a' w'->Hid.AtD Y0 H0 w0 a00 (qY bs bd it) h' a' w':=fun q=>q.tmps rfl fun t v ht=>by
  show((qY bs bd it).tr.put 24 _).get t=_;rw[T.eL,if_neg];·exact ht
  .intro e;subst e;rw[jd] at ht;cases ht
 unfold Md;refine wpIn_seq ?_;rw[p6];refine jN ?_;rw[s6];obtain⟨x0,q1,q2,q3,q4⟩:=Hid.BR Uv;obtain⟨x1,r1,r2,r3,r4⟩:=Hid.BR Uw;have q4:=Fv q4;have r4:=IU r4;have hr:=jO s1.glob s3 (.tmp 22) (.ptr it 0) j22;have szA:36<=a1.tmps.size:=s3.1;rcases Hid.Fs (P:=Tryz.prog) s1 hd.gi hd.gm hd.p1.born hr x0.type with hN|⟨e,x,y,w',he,hns,hN,hS',hX'⟩
 .refine Hid.rV hF (m:=1) q1 q3 (fun c q=>by rw[q4] at q;cases q) (Hid.xG q4 hN) ?_;rw[q2];have he23:=Hid.BQ (c:=.tuple #[.bool false]) s3 j23;refine Hid.rV hF (m:=0) r1 r3 (fun c q=>by rw[r4] at q;cases q) (Hid.qb (vs:=#[.bool false]) (c:=.bool false) r4 (Hid.eval_put (a:=a1) (t:=23) (show(23:Nat)<a1.tmps.size by omega)) rfl) ?_;rw[r2];refine Hid.vH ?_;have he24:iU Y ⟨36,(qY bs bd it).tr.put 24 (some (.bool false))⟩ _:=kZ (env':=⟨36,(qY bs bd it).tr.put 24 (some (.bool false))⟩) he23 (d:=some 24) rfl (.bool false);refine wpIn_seq (pS s1.glob he24 (b:=false) rfl (fun q=>nomatch q) fun _=>wpIn_exit ?_);exact hQ seen es2 cl2 R2 h _ w1 hd (back ⟨Y,s1,s2,he24,s4⟩)
 .refine Hid.rV hF (m:=1) q1 q3 (fun c q=>by rw[q4] at q;cases q) (Hid.xG q4 hN) ?_;rw[q2];have s3':=s3.mono (hX'.le s1);have he23:=Hid.BQ (c:=.tuple #[.bool true,x,y]) s3' j23;refine Hid.rV hF (m:=0) r1 r3 (fun c q=>by rw[r4] at q;cases q) (Hid.qb (vs:=#[.bool true,x,y]) (c:=.bool true) r4 (Hid.eval_put (a:=a1) (t:=23) (show(23:Nat)<a1.tmps.size by omega)) rfl) ?_;rw[r2];refine Hid.vH ?_;have he24:iU Y ⟨36,(qY bs bd it).tr.put 24 (some (.bool true))⟩ _:=kZ (env':=⟨36,(qY bs bd it).tr.put 24 (some (.bool true))⟩) he23 (d:=some 24) rfl (.bool true);refine wpIn_seq (pS s1.glob he24 (b:=true) rfl (fun _=>wpIn_skip ?_) fun q=>nomatch q);refine wpIn_block ?_;refine Mh hF hu hc0 hc1 he hns hgls hd rfl (back ⟨Y,hS',s2.trans hX',he24,s4⟩) hnn hlow hne fun es2' cl2' R2' h' a' w' hd' hA'=>?_;exact⟨_,Hid.BP he hns,_,es2',cl2',R2',h',rfl,hd',hA'⟩
end
variable {pat:List V}{tr:T V}
theorem Dw {env:Env}{h:H}{call:ic}{g cl:Nat}{es:List (V×V×Nat)}{o:Oper}{ops:Array Oper}(ho:o.op=.range 334 (.tmp 21))(hg:o.guard=none)(hd:o.dst=some 22)(h21:env.tr.get 21=some (.map g))(hm:h.tr.get g=some (.map es cl))(hz:env.sz=36):
  xn S.G0 call ops [o] env h=some (⟨36,env.tr.put 22 (some (.ptr h.next 0))⟩,h.add (.mapIter (some g) cl [] cl)):=by
 have hT:=UC;unfold Ky at hT;split at hT;case h_2=>cases hT
 rename_i ty hty;split at hT;case h_2=>cases hT
 rename_i kt et hdesc;have e1:env.get (.tmp 21)=some (.map g):=h21;obtain⟨sz,tr⟩:=env;simp only at hz;subst hz;have hw:gz ops ⟨36,tr⟩ o=some true:=by unfold gz;rw[hg]
 have hst:je S.G0 call ⟨36,tr⟩ h o=some (.ptr h.next 0,h.add (.mapIter (some g) cl [] cl)):=by unfold je;rw[ho];simp only[act,uQ,hty,hdesc,e1,hm]
 simp only[xn,hw,hst,hd];rfl
theorem xK {Z:NV}{a:A}{U:Nat}{k:Nat}(h:CR Z [a,.m U] k pat tr)(hp:plain a=true):k=2/\(∃ u0,cell k pat tr 0=some u0/\AV Z a u0)/\∃ b,Z.blks[U]?=some b/\cell k pat tr 1=some (.map b):=by
 have hk:k=2:=by
  cases h.len with
  |cons q r=>cases r with
   |cons q' r=>cases r;cases q with
    |one _=>cases q' with
     |one _=>rfl
    |rw=>cases hp
 subst hk;refine⟨rfl,?_,?_⟩
 .obtain⟨c,c1,c2⟩:=h.get (i:=0) (by omega);rcases rS c2 hp with⟨_,q⟩|⟨j,e,_⟩;·exact⟨c,c1,q⟩
  .omega
 .obtain⟨c,c1,c2⟩:=h.get (i:=1) (by omega);rcases rS c2 hp with⟨e,_⟩|⟨j,e,c2⟩;·omega
  .rcases rS c2 rfl with⟨_,q⟩|⟨j',e',_⟩
   .cases q with
    |m hb=>exact⟨_,hb,c1⟩
   .omega
theorem BU {n bm:Nat}{u0:V}(hu:Uu0 u0)(h0:cell 2 pat tr 0=some u0)(h1:cell 2 pat tr 1=some (.map bm))(hb:bm<n)(hl:∀ b len c,u0=.slice b 0 len c->b<n):RO (fun x=>if x<n then some x else none) (.cells (some 336) 2 pat tr) (.cells (some 336) 2 pat tr):=pe fun i v hv=>by
 have hi:=eT hv;match i with
 |0=>
  rw[h0] at hv;cases hv;cases hu with
  |nil=>exact .pure rfl
  |al b len m=>exact .slice (if_pos (hl _ _ _ rfl))
  |kn b len c=>exact .slice (if_pos (hl _ _ _ rfl))
 |1=>rw[h1] at hv;cases hv;exact .map (if_pos hb)
 |i+2=>omega
theorem OU {Y:Ren}{h:H}{w:World}(hS:Sim Y h w){b0:Nat}(hb:h.tr.get b0=some (.cells (some 336) 2 pat tr)){b len c:Nat}(h0:cell 2 pat tr 0=some (.slice b 0 len (.known c))):b<h.next:=by
 obtain⟨L,c',l1,l2,cs,el,lo,hi,rfl,e2,e3,_,_,cr⟩:=hS.live _ _ hb;have hlt:L.2.1+0<cs.size:=by omega
 have:=cr.2 0 _ _ h0 (bq hlt);generalize cs[L.2.1+0]=x at this;cases this with
 |sliceK hb=>exact hS.dom _ _ hb
section
variable {Y:Ren}{h:H}{w:World}{a:Act}{tr:T V}{F:Fence}{k nn bs bd bg bg2:Nat}{pat0 pat1:List V}{tr0 tr1:T V}{u0 u1:V}{Q:Exit->Act->World->Prop}
theorem I0 (hF:xu F)(hS:Sim Y h w)(hEe:iU Y ⟨36,tr⟩ a.tmps)(t0:tr.get 0=some (.ptr bs 0))(t3:tr.get 3=some (.ptr bd 0))(hnn:nn<=10000)
  (g0:h.tr.get bs=some (.cells (some 336) 2 pat0 tr0))(g1:h.tr.get bd=some (.cells (some 336) 2 pat1 tr1))(gg:h.tr.get bg=some (Hid.gM nn))(gn:h.tr.get bg2=some (Hid.gM 0))(gl:h.tr.get 2=some (.ro (some 0) 4 [.int .u8 0,.int .u8 111,.int .u8 108,.int .u8 102] .leaf))
  (hne:bs≠bd/\bs≠bg/\bs≠bg2/\bd≠bg/\bd≠bg2/\bg≠bg2/\bs≠2/\bd≠2/\bg≠2/\bg2≠2)(hu0:Uu0 u0)(hu1:Uu0 u1)(c00:cell 2 pat0 tr0 0=some u0)(c01:cell 2 pat0 tr0 1=some (.map bg))(c10:cell 2 pat1 tr1 0=some u1)(c11:cell 2 pat1 tr1 1=some (.map bg2))
  (hl0:∀ b len m,u0=.slice b 0 len (.atl m 6)->b<h.next)(hl1:∀ b len m,u1=.slice b 0 len (.atl m 6)->b<h.next)
  (hQ:∀ Y' a' w',Sim Y' ⟨h.tr.put bg2 (some (Hid.gM nn)),h.next⟩ w'->Ext Y h w Y' ⟨h.tr.put bg2 (some (Hid.gM nn)),h.next⟩ w'->iU Y' ⟨36,od [0,3] tr⟩ a'.tmps->a'.defers=a.defers->Q .normal a' w'):
  xH.wpIn F k Tryz.prog Q a w:=by
 obtain⟨n1,n2,n3,n4,n5,n6,n7,n8,n9,n10⟩:=hne;have hlt:∀ b o,h.tr.get b=some o->b<h.next:=fun b o hb=>by obtain⟨L,_,q,_⟩:=hS.live b o hb;exact hS.dom b L q
 have z0:=hlt _ _ g0;have z1:=hlt _ _ g1;have zg:=hlt _ _ gg;have zn:=hlt _ _ gn;have zl:=hlt _ _ gl;have h1000:1000<=h.next:=by obtain⟨z,hz⟩:=hS.glob 999 (by omega);have:999<h.next:=hS.dom 999 _ hz;omega
 have L0:∀ b len c,u0=.slice b 0 len c->b<h.next:=fun b len c e=>by
  cases hu0 with
  |nil=>cases e
  |al b' l m=>injection e with e1;rw[<- e1];exact hl0 _ _ _ rfl
  |kn b' l m=>injection e with e1;rw[<- e1];exact OU hS g0 c00
 have L1:∀ b len c,u1=.slice b 0 len c->b<h.next:=fun b len c e=>by
  cases hu1 with
  |nil=>cases e
  |al b' l m=>injection e with e1;rw[<- e1];exact hl1 _ _ _ rfl
  |kn b' l m=>injection e with e1;rw[<- e1];exact OU hS g1 c10
 have K0:=BU hu0 c00 c01 zg L0;have K1:=BU hu1 c10 c11 zn L1;obtain⟨O0,hO0⟩:∃ O0,O0=O.cells (some 336) 2 pat0 tr0:=⟨_,rfl⟩;obtain⟨O1,hO1⟩:∃ O1,O1=O.cells (some 336) 2 pat1 tr1:=⟨_,rfl⟩;obtain⟨g2,hg2⟩:∃ g2,g2=O.ro (some 0) 4 [.int .u8 0,.int .u8 111,.int .u8 108,.int .u8 102] .leaf:=⟨_,rfl⟩;rw[<- hO0] at g0 K0;rw[<- hO1] at g1 K1;rw[<- hg2] at gl;have hpart:∀ x o,(m5 bs bd bg bg2 O0 O1 (Hid.gM nn) (Hid.gM 0) g2 h.next).tr.get x=some o->h.tr.get x=some o:=fun x o hx=>by
  rw[iO] at hx;split at hx;·rename_i e;cases hx;rw[e];exact gn
  .split at hx;·rename_i e;cases hx;rw[e];exact gg
   .split at hx;·rename_i e;cases hx;rw[e];exact g1
    .split at hx;·rename_i e;cases hx;rw[e];exact g0
     .split at hx;·rename_i e;cases hx;rw[e];exact gl
      .cases hx
 have S2:=hS.sub (h':=m5 bs bd bg bg2 O0 O1 (Hid.gM nn) (Hid.gM 0) g2 h.next) (aF _) hpart;have A0:Hid.AtD Y (m5 bs bd bg bg2 O0 O1 (Hid.gM nn) (Hid.gM 0) g2 h.next) w a ⟨36,tr⟩ (m5 bs bd bg bg2 O0 O1 (Hid.gM nn) (Hid.gM 0) g2 h.next) a w:=⟨Y,S2,Ext.refl _ _ _,hEe,rfl⟩;obtain⟨es,cl,R,h1,kO,A1,q1,hRn,hle1,hold1⟩:=A0.Mj (g:=bg) (n:=nn) (by rw[iO,if_neg n6,if_pos rfl]);have hle1:h.next<=h1.next:=hle1;obtain⟨es2,cl2,R2,h2,kO2,A2,q2,hRn2,hle2,hold2⟩:=A1.Mj (g:=bg2) (n:=0) (by rw[hold1 bg2 zn (fun e=>n6 e.symm),iO,if_pos rfl]);have e2n:es2=[]:=aO.1 (by have:=kO2.few;omega);have r2n:R2=[]:=aO.1 (by have:=kO2.fewR;omega);subst e2n r2n;have old:∀ x,x<h.next->x≠bg->x≠bg2->h2.tr.get x=(m5 bs bd bg bg2 O0 O1 (Hid.gM nn) (Hid.gM 0) g2 h.next).tr.get x:=fun x hx e1 e2=>by rw[hold2 x (by omega) e2,hold1 x hx e1]
 have w0:h2.tr.get bs=some O0:=by rw[old bs z0 n2 n3,iO,if_neg n3,if_neg n2,if_neg n1,if_pos rfl]
 have w1:h2.tr.get bd=some O1:=by rw[old bd z1 n4 n5,iO,if_neg n5,if_neg n4,if_pos rfl]
 have wl:h2.tr.get 2=some g2:=by rw[old 2 zl (fun e=>n9 e.symm) (fun e=>n10 e.symm),iO,if_neg (fun e=>n10 e.symm),if_neg (fun e=>n9 e.symm),if_neg (fun e=>n8 e.symm),if_neg (fun e=>n7 e.symm),if_pos rfl]
 have wg:h2.tr.get bg=some (.map es cl):=by rw[hold2 bg (by omega) n6];exact q1
 unfold xH;refine wpIn_seq ?_;rw[p5];refine jN ?_;rw[s5];obtain⟨a0,i5,i6,b4,af,ap,an,aAV⟩:=hu0.form;have hrun:=Fx UB af;obtain⟨Z1,hZ1⟩:∃ Z1:NV,Z1=⟨[0,0,0,0,0,i5,i6,0],[],[bs,0,bg,0,b4,0],([(bs,O0)]:List (Nat×O)).map fun p=>[p]⟩:=⟨_,rfl⟩;have ob1:Z1.objs=([(bs,O0)]:List (Nat×O)).map fun p=>[p]:=by rw[hZ1]
 have hM1:Mem (Th (fun _ _ _ _=>False) C.inv) (lB Z1 (sSt a0).mem h2) Z1 (sSt a0) ⟨⟨36,tr⟩,h2,[]⟩:=by
  refine xU (nx:=8) (ns:=0) (nb:=6) (mem:=QU a0) (by rw[hZ1];rfl) (by rw[hZ1];rfl) (by rw[hZ1];rfl) (by rw[hZ1];rfl) (by rw[ob1];rfl) (fun g hg=>by cases hg) (fun t b ht=>?_) (show([0]:List Nat).Nodup by decide) (fun i U ao q=>?_) (by rw[ob1];exact lH (by simp)) fun q hq=>?_
  .rw[T.eL] at ht;split at ht;·rename_i e;cases ht;rw[e];exact⟨_,t0,.p (by rw[hZ1];rfl) ⟨0,fun q=>absurd rfl q,rfl⟩⟩
   .rw[T.eR] at ht;cases ht
  .match i,q with
   |0,q=>cases q;exact⟨bs,_,by rw[hZ1];rfl,by rw[ob1];rfl,by rw[hO0];exact .cl (rW c00 c01 ap (aAV Z1 (by rw[hZ1];rfl) (by rw[hZ1];rfl) (by rw[hZ1];rfl)) (by rw[hZ1];rfl)),fun p hp=>by rw[aj.1 hp];exact⟨w0,by show bs<h2.next;omega⟩⟩
   |i+1,q=>simp[QU] at q
  .rw[aj.1 hq];refine⟨by show 2<h2.next;omega,fun hp hh p hp'=>?_,wl.trans (congrArg some hg2)⟩;rw[ob1] at hh;simp only[aS,cB,aq,aA,or_false] at hh;rw[hh] at hp';rw[aj.1 hp'];exact n7
 obtain⟨env3,h3,x1,x2,run,Z3,J3,le3,hM3,hc3⟩:=vY (S.jl fun _ _ _=>none).1 (Af (fun _ _ _ _=>False) 40) (FB _ _) (ops:=o5) (o5.toList.take 4) 0 (fun j o hj=>by
  rw[cD] at hj;split at hj;·rw[aI,<- aM];exact hj
  .cases hj) hrun hM1
 have hc:=hc3;unfold TV at hc;split at hc;case h_2=>cases hc
 rename_i h21;obtain⟨v21,y1,y2⟩:=hM3.er _ _ h21;have y1:env3.tr.get 21=some v21:=y1;have y3:v21=.map bg:=by
  cases y2 with
  |m hb=>rw[le3.b (show Z1.blks[2]?=some bg by rw[hZ1];rfl)] at hb;cases hb;rfl
 subst y3;unfold ij at hc;split at hc;case h_2=>cases hc
 rename_i s' ao hs0;rw[T.beq_true] at hc;subst hc;obtain⟨_,hp0,_,f2,_,f4⟩:=hM3.hr.at' _ _ _ hs0;rw[le3.o (show Z1.objs[0]?=some [(bs,O0)] by rw[ob1];rfl)] at f2;cases f2;have v0:h3.tr.get bs=some O0:=(f4 _ (aj.2 rfl)).1;have hle3:h2.next<=h3.next:=hM3.hr.le;have fr3:∀ b,b<h2.next->b≠bs->h3.tr.get b=h2.tr.get b:=fun b hb e=>hM3.hr.frame b hb fun hk=>by have:=rT ob1 hk;simp at this;exact e this
 obtain⟨Y2,r1,r2,r3,r4⟩:=A2;obtain⟨xo,j1,j2,j3,j4⟩:=Hid.BR Uy;have j4:=IW j4;rw[UD] at run;refine run F hF k _ 1 Y2 a w r1 r3 fun Y3 a3 w3 m1 m2 m3 m4=>?_;have hg3:h3.tr.get bg=some (.map es cl):=by rw[fr3 bg (by omega) (fun e=>n2 e.symm)];exact wg
 have hrs:=Dw (call:=fun _ _=>none) (ops:=o5) j4 j3 j2 y1 hg3 x2;refine(ot.cons (S.jl fun _ _ _=>none).1 (call:=fun _ _=>none) (fun _ _ _ _ _ _ _ _ _ h=>by cases h) (i:=4) (n:=0) j1 hrs .nil) F hF k _ 0 Y3 a3 w3 m1 m3 fun Y4 a4 w4 b1 b2 b3 b4'=>Hid.vH ?_;have itn:h3.next=h3.next:=rfl;have gA:∀ x,x≠h3.next->(h3.add (.mapIter (some bg) cl [] cl)).tr.get x=h3.tr.get x:=fun x hx=>by show(h3.tr.put h3.next _).get x=_;rw[T.eL,if_neg hx]
 have gI:(h3.add (.mapIter (some bg) cl [] cl)).tr.get h3.next=some (.mapIter (some bg) cl [] cl):=by show(h3.tr.put h3.next _).get h3.next=_;rw[T.eL,if_pos rfl]
 have nA:(h3.add (.mapIter (some bg) cl [] cl)).next=h3.next+1:=rfl
 have hR3:∀ p,p∈R->h.next<=p.1/\p.1<h1.next:=hRn;have gR:∀ p,p∈R->(h3.add (.mapIter (some bg) cl [] cl)).tr.get p.1=h1.tr.get p.1:=fun p hp=>by have:=hR3 p hp;rw[gA p.1 (by omega),fr3 p.1 (by omega) (by omega),hold2 p.1 (by omega) (by omega)]
 have A4:Hid.AtD Y (m5 bs bd bg bg2 O0 O1 (Hid.gM nn) (Hid.gM 0) g2 h.next) w a (qY bs bd h3.next) (h3.add (.mapIter (some bg) cl [] cl)) a4 w4:=by
  refine Hid.AtD.tmps (env:=⟨36,env3.tr.put 22 (some (.ptr h3.next 0))⟩) ⟨Y4,b1,(r2.trans m2).trans b2,b3,by rw[b4',m4]⟩ rfl fun t v ht=>?_;rw[jd] at ht;show(env3.tr.put 22 _).get t=_;rw[T.eL];have nin:∀ {l:List Tmp} {t:Tmp},l.contains t=false->t∉l:=fun hf hm=>by rw[dh.2 hm] at hf;cases hf
  split at ht;·rename_i e;rw[if_pos e];exact ht
  .rename_i e;rw[if_neg e];split at ht;·rename_i e3;subst e3;cases ht;exact(x1 3 (nin d5.2)).trans t3
   .split at ht;·rename_i e0;subst e0;cases ht;exact(x1 0 (nin d5.1)).trans t0
    .cases ht
 have hleft:=Hid.IT es [];have hfew:=kO.few;have hd:Dt h.next nn bs bg bd bg2 O0 O1 g2 es cl R h3.next [] [] cl2 [] (h3.add (.mapIter (some bg) cl [] cl)):=by
  refine⟨?_,?_,?_,?_,gI,?_,kO.mono gR,?_,fun p hp=>?_,(fun p hp=>by cases hp),(fun p hp q hq=>by cases hq),⟨by omega,by rw[nA];omega⟩,?_,?_⟩;·rw[gA bs (by omega)];exact v0
  .rw[gA bd (by omega),fr3 bd (by omega) (fun e=>n1 e.symm)];exact w1
  .rw[gA bg (by omega)];exact hg3
  .rw[gA bg2 (by omega),fr3 bg2 (by omega) (fun e=>n3 e.symm)];exact q2
  .rw[gA 2 (by omega),fr3 2 (by omega) (fun e=>n7 e.symm)];exact wl
  .exact⟨cW _,cW _,.nil,(fun p hp=>by cases hp),(fun e he=>by cases he),(fun e he=>by cases he),(fun e he=>by cases he),.nil,.nil⟩
  .have:=hR3 p hp;rw[nA];omega
  .simp only[cO];omega
  .simp only[cO];omega
 rw[hO1] at hd;refine Mi hF hu1 c10 c11 hg2 hd A4 hnn ⟨z0,z1,zg,zn,zl⟩ ⟨n5,n8,n10,n1,n3,fun e=>n4 e.symm,n6⟩ fun seen' es2' cl2' R2' hZz aZ wZ hdZ AZ=>?_;rw[<- hO1] at hdZ;have A5:=AZ.BT hdZ.p2 hdZ.gn (fun hm=>by
  obtain⟨p,p1,p2⟩:=aJ.1 hm;have:=hdZ.n2 p p1;omega) (by omega) (h':=⟨xp (R.map fun p=>(p.1,(hZz.tr.get p.1).getD .deferred)) (m5 bs bd bg bg2 O0 O1 (.map es cl) (Hid.gM nn) g2 hZz.next).tr,hZz.next⟩) rfl (by
  show(xp _ _).get bg2=_;rw[mg fun q hq e=>?_,iO,if_pos rfl];obtain⟨p,p1,rfl⟩:=aJ.1 hq;have:=hdZ.n1 p p1;simp only at e;omega) fun y o hy hne=>?_
 .have A6:=A5.BT (g:=bg) (n:=nn) (hdZ.p1.mono fun p hp=>?_) (by
   show(xp _ _).get bg=_;rw[mg fun q hq e=>?_,iO,if_neg n6,if_pos rfl];obtain⟨p,p1,rfl⟩:=aJ.1 hq;have:=hdZ.n1 p p1;simp only at e;omega) (fun hm=>by
   obtain⟨p,p1,p2⟩:=aJ.1 hm;have:=hdZ.n1 p p1;omega) (by omega) (h':=m5 bs bd bg bg2 O0 O1 (Hid.gM nn) (Hid.gM nn) g2 hZz.next) rfl (by rw[iO,if_neg n6,if_pos rfl]) fun y o hy hne=>?_
  .have A7:=A6.drop (env1:=⟨36,od [0,3] tr⟩) (h':=m5 bs bd bg bg2 O0 O1 (Hid.gM nn) (Hid.gM nn) g2 h.next) rfl (fun t u hu=>by
    obtain⟨p1,p2⟩:=oo hu;simp only[aq,aA,or_false] at p2;rcases p2 with rfl|rfl;·rw[t0] at p1;cases p1;exact⟨by rw[jd];rfl,.ptr (if_pos z0)⟩
    .rw[t3] at p1;cases p1;exact⟨by rw[jd];rfl,.ptr (if_pos z1)⟩) rfl h1000 fun xx o hx=>by
    rw[iO] at hx ⊢;split at hx;·rename_i e;cases hx;exact⟨by show xx<h.next;omega,_,by rw[if_pos e],.lf (.ghost _)⟩
    .rename_i e;rw[if_neg e];split at hx;·rename_i e;cases hx;exact⟨by show xx<h.next;omega,_,by rw[if_pos e],.lf (.ghost _)⟩
     .rename_i e;rw[if_neg e];split at hx;·rename_i e;cases hx;exact⟨by show xx<h.next;omega,_,by rw[if_pos e],K1⟩
      .rename_i e;rw[if_neg e];split at hx;·rename_i e;cases hx;exact⟨by show xx<h.next;omega,_,by rw[if_pos e],K0⟩
       .rename_i e;rw[if_neg e];split at hx;·rename_i e;cases hx;exact⟨by show xx<h.next;omega,_,by rw[if_pos e],by rw[hg2];exact .lf (NF fun v hv=>by simp at hv;rcases hv with rfl|rfl|rfl|rfl<;>rfl)⟩
        .cases hx
   obtain⟨Y6,t1,t2,t3',t4⟩:=A7;obtain⟨Y7,u1',u2,u3⟩:=uW (h:=h) (h2:=m5 bs bd bg bg2 O0 O1 (Hid.gM nn) (Hid.gM 0) g2 h.next) (h2':=m5 bs bd bg bg2 O0 O1 (Hid.gM nn) (Hid.gM nn) g2 h.next) (h':=⟨h.tr.put bg2 (some (Hid.gM nn)),h.next⟩) ⟨rfl,hpart,rfl,fun b o hb=>by
    simp only[T.eL] at hb;rw[iO,iO];split at hb;·rename_i e;cases hb;exact .inl (by rw[if_pos e])
    .rename_i e;rw[if_neg e,if_neg e];by_cases e1:b=bg;·rw[if_pos e1];rw[e1,gg] at hb;exact .inl hb
     .by_cases e2:b=bd;·rw[if_neg e1,if_pos e2];rw[e2,g1] at hb;exact .inl hb
      .by_cases e3:b=bs;·rw[if_neg e1,if_neg e2,if_pos e3];rw[e3,g0] at hb;exact .inl hb
       .by_cases e4:b=2;·rw[if_neg e1,if_neg e2,if_neg e3,if_pos e4];rw[e4,gl] at hb;exact .inl hb
        .rw[if_neg e1,if_neg e2,if_neg e3,if_neg e4];exact .inr ⟨hlt b o hb,rfl,hb⟩⟩ hS t1 t2
   have hle:Y6.le Y7:=fun b L hb=>by show Y7.loc b=_;rw[u1'];exact hb
   exact hQ Y7 aZ wZ u2 u3 (t3'.mono hle) t4
  .show(xp _ _).get p.1=_;obtain⟨j,hj⟩:=aX.1 hp;obtain⟨o,o1,_⟩:=hdZ.p1.live p hp;rw[Bq (i:=j) (o:=o) (by rw[dr];exact hdZ.p1.nd) (by rw[aL,hj];simp[o1]),o1]
  .rw[iO] at hy;have low:∀ x,x<h.next->x≠bg->(xp (R.map fun p=>(p.1,(hZz.tr.get p.1).getD .deferred)) (m5 bs bd bg bg2 O0 O1 (.map es cl) (Hid.gM nn) g2 hZz.next).tr).get x=(m5 bs bd bg bg2 O0 O1 (Hid.gM nn) (Hid.gM nn) g2 hZz.next).tr.get x/\x∉R.map Prod.fst:=fun x hx hxg=>by
    refine⟨?_,fun hm=>?_⟩;·rw[mg fun q hq e=>?_,iO,iO,if_neg hxg,if_neg hxg];obtain⟨p,p1,rfl⟩:=aJ.1 hq;have:=hdZ.n1 p p1;simp only at e;omega
    .obtain⟨p,p1,p2⟩:=aJ.1 hm;have:=hdZ.n1 p p1;omega
   have hyl:y<h.next:=by
    rcases Nat.lt_or_ge y h.next with q|q;·exact q
    .exfalso;rw[if_neg (by omega),if_neg (by omega),if_neg (by omega),if_neg (by omega),if_neg (by omega)] at hy;cases hy
   obtain⟨l1,l2⟩:=low y hyl hne;exact⟨l1.trans (by rw[iO];exact hy),l2⟩
 .rcases wT hy with⟨j,hj⟩|⟨_,hy⟩
  .rw[aL] at hj;cases q:R[j]? with
   |none=>rw[q] at hj;cases hj
   |some p=>rw[q] at hj;simp at hj;obtain⟨e1,e2⟩:=hj;have hp:=aC q;obtain⟨o',o1,_⟩:=hdZ.p1.live p hp;subst e1;rw[o1] at e2;refine⟨by rw[o1,<- e2];rfl,fun hm=>?_⟩;obtain⟨p',p1,p2⟩:=aJ.1 hm;exact hdZ.ap p hp p' p1 p2.symm
  .rw[iO,if_neg hne] at hy;have low:∀ x,x<h.next->x∉R2'.map Prod.fst:=fun x hx hm=>by
    obtain⟨p,p1,p2⟩:=aJ.1 hm;have:=hdZ.n2 p p1;omega
   split at hy;·rename_i e;cases hy;rw[e];exact⟨hdZ.gm,low _ zg⟩
   .split at hy;·rename_i e;cases hy;rw[e];exact⟨hdZ.g1,low _ z1⟩
    .split at hy;·rename_i e;cases hy;rw[e];exact⟨hdZ.g0,low _ z0⟩
     .split at hy;·rename_i e;cases hy;rw[e];exact⟨hdZ.gl,low _ zl⟩
      .cases hy
end
end Go.Proofs.YtboaighhnghpdaaGreatDoor
namespace Go.Proofs.YtboaighhnghpdaaGreatDoor
open Go Go.Ev Go.Ae Go.Ae.C Go.RowKit
set_option maxRecDepth 100000
variable {Z:NV}{U x y:Nat}{u:V}
theorem Mk {M:TH}{cn:CN}{n:Nat}{tr:T V}{h:H}(hM:Mem M (lB Z (fA cn n).mem h) Z (fA cn n) ⟨⟨n,tr⟩,h,[]⟩)(nd:(cn.mem.map Prod.fst).Nodup){o:OUT}{j:Nat}{ao ao':AO}(hj:cn.mem[j]?=some (U,ao))(ho:o.mem=cn.mem.set j (U,ao'))(hni:o.ni=0)(hns:o.ns=0)(hnb:o.nb=0)(hfs:o.fs=[])
  {b:Nat}{O O':Go.Ev.O}(hobj:Z.objs[j]?=some [(b,O)])(hblk:Z.blks[U]?=some b)(hao:∀ Zo:NV,Z.le Zo->AOR M Zo ao' b [(b,O')]){v:V}(hv:AV Z o.res v):
  ∃ Zo,Z.le Zo/\Mem M (lB Z (fA cn n).mem h) Zo (Fc cn o) ⟨⟨1,T.leaf.put 0 (some v)⟩,⟨h.tr.put b (some O'),h.next⟩,[]⟩/\AV Zo o.res v:=by
 have li:Z.ints.length=Nat.add 1 cn.ni:=hM.vr.ni;have ls:Z.strs.length=Nat.add 0 cn.ns:=hM.vr.ns;have lb:Z.blks.length=Nat.add 0 cn.nb:=hM.vr.nb;have lo:Z.objs.length=cn.mem.length:=by rw[hM.vr.no];exact aI _
 have hle:Z.le { Z with objs:=Z.objs++Z.objs.set j [(b,O')] }:=lG;have at':∀ {i U:Nat} {ao:AO},cn.mem[i]?=some (U,ao)->(fA cn n).mem.get U=some (i,ao):=fun q=>by show(gq 0 cn.mem T.leaf).get _=_;rw[kH nd q,aI]
 have gh:∀ x,(⟨h.tr.put b (some O'),h.next⟩:H).tr.get x=if x=b then some O' else h.tr.get x:=fun x=>T.eL ..
 have hjl:=(ai.1 hj).1;have FK:∀ {i U:Nat} {ao:AO} {hp:List (Nat×Go.Ev.O)},cn.mem[i]?=some (U,ao)->Z.objs[i]?=some hp->∀ p,p∈hp->(lB Z (fA cn n).mem h).F p.1:=fun hi e p hp=>⟨_,_,_,_,at' hi,e,p,hp,rfl⟩;have oG:∀ i,(Z.objs++Z.objs.set j [(b,O')])[cn.mem.length+i]?=(Z.objs.set j [(b,O')])[i]?:=fun i=>by rw[zaw (by omega),lo,cG]
 have ent:∀ (i E:Nat) (a:AO),(cn.mem.set j (U,ao'))[i]?=some (E,a)->(i=j/\E=U/\a=ao')\/(i≠j/\cn.mem[i]?=some (E,a)):=fun i E a q=>by
  by_cases e:i=j;·subst e;rw[dG hjl] at q;cases q;exact .inl ⟨rfl,rfl,rfl⟩
  .rw[dy (fun q=>e q.symm)] at q;exact .inr ⟨e,q⟩
 have sepO:∀ (i i':Nat) (hp hp':List (Nat×Go.Ev.O)),i<cn.mem.length->i'<cn.mem.length->Z.objs[i]?=some hp->Z.objs[i']?=some hp'->i≠i'->∀ p,p∈hp->∀ q,q∈hp'->p.1≠q.1:=fun i i' hp hp' l l' e e' ne=>by have q1:=at' (i:=i) (ah l);have q2:=at' (i:=i') (ah l');refine hM.hr.sep _ _ _ _ _ _ q1 q2 (fun e3=>?_) _ _ e e';rw[e3,q2] at q1;cases q1;exact ne rfl
 have far:∀ (i:Nat) (hp:List (Nat×Go.Ev.O)),i<cn.mem.length->i≠j->Z.objs[i]?=some hp->∀ p,p∈hp->p.1≠b:=fun i hp l ne e p hp'=>sepO i j hp _ l hjl e hobj ne p hp' (b,O) (aj.2 rfl);obtain⟨bj,hpj,x1,x2,x3,x4⟩:=hM.hr.at' _ _ _ (at' hj);rw[hobj] at x2;cases x2;rw[hblk] at x1;cases x1;have x5:=x4 _ (aj.2 rfl);refine⟨_,hle,?_,hv.mono hle⟩;have hG:=Ol (M:=M) (fr:=lB Z (fA cn n).mem h) (Z:={ Z with objs:=Z.objs++Z.objs.set j [(b,O')] }) (k:=cn.mem.length) (sz:=1) (nx:=Nat.add 1 cn.ni) (ns:=cn.ns) (nb:=cn.nb) (tm:=lJ [(0,o.res)] .leaf) (tr:=T.leaf.put 0 (some v)) (mem:=cn.mem.set j (U,ao')) (z:=⟨.leaf,.leaf,[]⟩) (h:=⟨h.tr.put b (some O'),h.next⟩) li (hle.i hM.vr.z0) (ls.trans (aI _)) (lb.trans (aI _)) (by show(Z.objs++Z.objs.set j _).length=_;simp[lo]) nZ (pZ (hv.mono hle)) (fun i E a q=>by
  rcases ent i E a q with⟨rfl,rfl,rfl⟩|⟨ne,q⟩;·refine⟨b,_,hblk,(oG i).trans (dG (by omega)),hao _ hle,fun p hp=>?_⟩;rw[aj.1 hp];exact⟨by rw[gh,if_pos rfl],x5.2.1,.inl (FK hj hobj (b,O) (aj.2 rfl))⟩
  .obtain⟨bb,hp,y1,y2,y3,y4⟩:=hM.hr.at' _ _ _ (at' q);refine⟨bb,hp,y1,(oG i).trans (by rw[dy (fun e=>ne e.symm)];exact y2),y3.mono hle,fun p hp'=>?_⟩;obtain⟨z1,z2,z3⟩:=y4 p hp';exact⟨by rw[gh,if_neg (far i hp (ai.1 q).1 ne y2 p hp')];exact z1,z2,z3⟩) (fun i i' hp hp' l l' e e' ne=>by
  rw[oG] at e e';rw[List.length_set] at l l';by_cases e1:i=j;·subst e1;rw[dG (by omega)] at e;cases e;rw[dy ne] at e';intro p hp q hq e2;rw[aj.1 hp] at e2;exact far i' hp' l' (fun e=>ne e.symm) e' q hq e2.symm
  .rw[dy (fun q=>e1 q.symm)] at e;by_cases e2:i'=j;·subst e2;rw[dG (by omega)] at e';cases e';intro p hp q hq e3;rw[aj.1 hq] at e3;exact far i _ l ne e p hp e3
   .rw[dy (fun q=>e2 q.symm)] at e';exact sepO i i' hp hp' l l' e e' ne) (fun x hx hF=>by
  rw[gh,if_neg fun e=>hF (by rw[e];exact FK hj hobj _ (aj.2 rfl))];rfl) (aF _) hM.hr.gl
 have e2:Fc cn o=⟨1,lJ [(0,o.res)] .leaf,gq cn.mem.length (cn.mem.set j (U,ao')) .leaf,Nat.add 1 cn.ni,cn.ns,cn.nb,cn.mem.length+(cn.mem.set j (U,ao')).length,⟨.leaf,.leaf,[]⟩,[]⟩:=by show vQ _ _ _ _ _ _ _ _ _=_;unfold vQ O5;rw[ho,hni,hns,hnb,hfs];rfl
 rw[e2];exact hG
noncomputable def OV:HD:=⟨[0,3],36,[uk (.k .nils) (.k .nils) [],uk (slA 4 2 3) (slA 5 4 5) [row 4 3 53 oX,row 5 5 53 oX],uk (slA 4 2 3) (slN 5 4 5) [row 4 3 53 oX],uk (slN 4 2 3) (slA 5 4 5) [row 5 5 53 oX],uk (slN 4 2 3) (slN 5 4 5) []]⟩
theorem Kz {b:Nat}{v:V}(hb:Z.blks[U]?=some b)(q:AV Z (P U) v):v=.ptr b 0:=by
 cases q with
 |p hU ho=>
  rw[hb] at hU;cases hU;obtain⟨m,_,m2⟩:=ho;have:(oz.o:Nat)+m * oz.st=0:=by show 0+m * 0=0;omega
  rw[m2,this]
theorem OW (h:AV Z (.k .nils) u):Uu0 u:=by cases h;exact .nil
theorem Ry (h:AV Z (slA U x y) u):∃ b len m,u=.slice b 0 len (.atl m 6)/\Z.blks[U]?=some b:=by
 cases h with
 |sl hU ho _ hc=>
  cases hc with
  |al _=>
   obtain⟨m,_,m2⟩:=ho;have:(oz.o:Nat)+m * oz.st=0:=by show 0+m * 0=0;omega
   rw[m2,this];exact⟨_,_,_,rfl,hU⟩
theorem Rz (h:AV Z (slN U x y) u):∃ b len m,u=.slice b 0 len (.known m)/\Z.blks[U]?=some b:=by
 cases h with
 |sl hU ho _ hc=>
  cases hc with
  |kn _=>
   obtain⟨m,_,m2⟩:=ho;have:(oz.o:Nat)+m * oz.st=0:=by show 0+m * 0=0;omega
   rw[m2,this];exact⟨_,_,_,rfl,hU⟩
def FA (a:A)(r:List (Nat×AO)):Prop:=plain a=true/\∀ (Z:NV) (u:V),AV Z a u->Uu0 u/\∀ b len m,u=.slice b 0 len (.atl m 6)->∃ (i U:Nat) (ao:AO),r[i]?=some (U,ao)/\Z.blks[U]?=some b
theorem BW (r:List (Nat×AO)):FA (.k .nils) r:=⟨rfl,fun Z u h=>⟨OW h,fun b len m e=>by cases h;cases e⟩⟩
theorem vJ (U x y:Nat)(r:List (Nat×AO)):FA (slN U x y) r:=⟨rfl,fun Z u h=>by obtain⟨b,l,m,rfl,_⟩:=Rz h;exact⟨.kn _ _ _,fun b len m e=>by injection e with _ _ _ e;cases e⟩⟩
theorem vK {r:List (Nat×AO)}{i:Nat}{ao:AO}(hr:r[i]?=some (U,ao)):FA (slA U x y) r:=⟨rfl,fun Z u h=>by obtain⟨b,l,m,rfl,hb⟩:=Ry h;exact⟨.al _ _ _,fun b' len m' e=>by injection e with e1;exact⟨i,U,ao,hr,by rw[<- e1];exact hb⟩⟩⟩
theorem oc {B:TH}(hB:tX B){a b:A}{r:List (Nat×AO)}(fa:FA a r)(fb:FA b r)(nd:((uk a b r).mem.map Prod.fst).Nodup):Ku (Jk Tryz.prog xH OV) (Th B C.inv) (uk a b r):=fun Z vs h n hl hfs hM=>by
 have at':∀ {i U:Nat} {ao:AO},(uk a b r).mem[i]?=some (U,ao)->(fA (uk a b r) n).mem.get U=some (i,ao):=fun q=>by show(gq 0 (uk a b r).mem T.leaf).get _=_;rw[kH nd q,aI]
 obtain⟨bs,hp0,x01,x02,x03,x04⟩:=hM.hr.at' _ _ _ (at' (i:=0) rfl);obtain⟨bg,hp1,x11,x12,x13,x14⟩:=hM.hr.at' _ _ _ (at' (i:=1) rfl);obtain⟨bd,hp2,x21,x22,x23,x24⟩:=hM.hr.at' _ _ _ (at' (i:=2) rfl);obtain⟨bn,hp3,x31,x32,x33,x34⟩:=hM.hr.at' _ _ _ (at' (i:=3) rfl);have sep:∀ {i j U E:Nat} {ao ao':AO} {hp hp':List (Nat×Go.Ev.O)},(uk a b r).mem[i]?=some (U,ao)->(uk a b r).mem[j]?=some (E,ao')->U≠E->Z.objs[i]?=some hp->Z.objs[j]?=some hp'->∀ p,p∈hp->∀ q,q∈hp'->p.1≠q.1:=fun hi hj hne e e'=>hM.hr.sep _ _ _ _ _ _ (at' hi) (at' hj) hne _ _ e e';cases x03 with
 |@cl _ _ _ k0 pat0 tr0 cr0=>
 cases x13 with
 |@ob _ _ _ zs1 _ num1 th1 _ _=>
 obtain⟨nn,rfl,rfl⟩:=hB.out th1;cases x23 with
 |@cl _ _ _ k1 pat1 tr1 cr1=>
 cases x33 with
 |@ob _ _ _ zs3 _ num3 th3 _ _=>
 obtain⟨n3,rfl,rfl⟩:=hB.out th3;simp only[aj,forall_eq] at x04 x14 x24 x34;have z0:=hM.vr.z0;have i1:Z.ints[1]?=some (nn:Int):=by
  cases num1 with
  |cons q _=>obtain⟨y,y1,y2⟩:=q;have y2:(nn:Int)=y+0:=y2;rw[y1];congr 1;omega
 have hn3:n3=0:=by
  cases num3 with
  |cons q _=>have:=q.fn (eO z0 0);omega
 subst hn3;have hnn:nn<=10000:=by obtain⟨p,q,y1,y2,y3⟩:=hfs ((1,0),(0,10000)) (aj.2 rfl);have e1:=y1.fn ⟨_,i1,(bG _).symm⟩;have e2:=y2.fn (eO z0 10000);omega
 obtain⟨rfl,⟨u0,c00,au0⟩,bg',b0,c01⟩:=xK cr0 fa.1;rw[x11] at b0;cases b0;obtain⟨rfl,⟨u1,c10,au1⟩,bn',b1,c11⟩:=xK cr1 fb.1;rw[x31] at b1;cases b1;obtain⟨hu0,hr0⟩:=fa.2 Z u0 au0;obtain⟨hu1,hr1⟩:=fb.2 Z u1 au1;have rowLt:∀ (i U:Nat) (ao:AO) (b':Nat),r[i]?=some (U,ao)->Z.blks[U]?=some b'->b'<h.next:=fun i U ao b' hi hb=>by obtain⟨bb,hp,y1,y2,y3,y4⟩:=hM.hr.at' _ _ _ (at' (i:=4+i) (U:=U) (ao:=ao) (by show(([_,_,_,_]:List (Nat×AO))++r)[4+i]?=_;rw[zaw (by simp)];simpa using hi));rw[hb] at y1;cases y1;obtain⟨o,rr,rfl⟩:=y3.root;exact(y4 _ (aE ..)).2.1
 obtain⟨gl1,gl2,gl3⟩:=hM.hr.gl (2,_) (aj.2 rfl);have own:∀ {i U bb:Nat} {ao:AO} {O:Go.Ev.O},(uk a b r).mem[i]?=some (U,ao)->Z.objs[i]?=some [(bb,O)]->bb≠2:=fun hi e q=>gl2 ⟨_,_,_,_,at' hi,e,_,aj.2 rfl,q⟩;have s1:=fun {Xx Yy:Nat×Go.Ev.O} {i j U E:Nat} {ao ao':AO} (hi:(uk a b r).mem[i]?=some (U,ao)) (hj:(uk a b r).mem[j]?=some (E,ao')) (ne:U≠E) (e:Z.objs[i]?=some [Xx]) (e':Z.objs[j]?=some [Yy])=>sep hi hj ne e e' Xx (aj.2 rfl) Yy (aj.2 rfl);have hargs:=pq (l:=(uk a b r).args) (k:=0) (t:=.leaf) (tr:=.leaf) hl hM.er;obtain⟨v0,v1,rfl,a0,a1⟩:∃ v0 v1,vs=[v0,v1]/\AV Z (P 0) v0/\AV Z (P 1) v1:=by
  cases hargs with
  |cons q0 r=>cases r with
   |cons q1 r=>cases r;exact⟨_,_,rfl,q0,q1⟩
 have e0:=Kz x01 a0;have e1:=Kz x21 a1;subst e0 e1;obtain⟨Zo,m1,m2,m3⟩:=Mk hM nd (o:=o0 (.tp []) ([st 0 336 [a,.m 2],ob 2 7 [1],st 1 336 [b,.m 3],ob 3 7 [1]]++r)) (j:=3) (U:=3) (ao':=.ob 7 [(1,0)]) rfl rfl rfl rfl rfl rfl x32 x31 (fun Zo hle=>.ob (.cons ⟨_,hle.i i1,(bG _).symm⟩ .nil) (hB.in nn bn) ⟨_,_,rfl⟩ (by simp)) (.tp .nil);refine⟨.tuple [],⟨h.tr.put bn (some (Hid.gM nn)),h.next⟩,⟨rfl,fun rd tr defs htr Y F act w k Q hF hS hEe hD hQ=>?_⟩,_,aj.2 rfl,Zo,m1,m2,(fun g hg=>nomatch hg),m3⟩;have t0:tr.get 0=some (.ptr bs 0):=htr 0 0 _ rfl rfl;have t3:tr.get 3=some (.ptr bd 0):=htr 1 3 _ rfl rfl;refine I0 hF.wide hS hEe t0 t3 hnn x04.1 x24.1 x14.1 x34.1 gl3 ⟨s1 (i:=0) (j:=2) rfl rfl (by decide) x02 x22,s1 (i:=0) (j:=1) rfl rfl (by decide) x02 x12,s1 (i:=0) (j:=3) rfl rfl (by decide) x02 x32,s1 (i:=2) (j:=1) rfl rfl (by decide) x22 x12,s1 (i:=2) (j:=3) rfl rfl (by decide) x22 x32,s1 (i:=1) (j:=3) rfl rfl (by decide) x12 x32,own (i:=0) rfl x02,own (i:=2) rfl x22,own (i:=1) rfl x12,own (i:=3) rfl x32⟩ hu0 hu1 c00 c01 c10 c11 (fun b' len m e=>by
  obtain⟨i,U,ao,q1,q2⟩:=hr0 b' len m e;exact rowLt i U ao b' q1 q2) (fun b' len m e=>by
  obtain⟨i,U,ao,q1,q2⟩:=hr1 b' len m e;exact rowLt i U ao b' q1 q2) fun Y' a' w' u1 u2 u3 u4=>?_
 exact hQ Y' a' w' u1 u2 u3 (by rw[u4];exact hD.mono (u2.le hS))
theorem Ml {B:TH}(hB:tX B):∀ cn,cn∈OV.cns->Ku (Jk Tryz.prog xH OV) (Th B C.inv) cn:=fun cn hcn=>by
 simp only[OV,aq,aA,or_false] at hcn;rcases hcn with rfl|rfl|rfl|rfl|rfl
 .exact oc hB (BW _) (BW _) (show([0,2,1,3]:List Nat).Nodup by decide)
 .exact oc hB (vK (i:=0) rfl) (vK (i:=1) rfl) (show([0,2,1,3,4,5]:List Nat).Nodup by decide)
 .exact oc hB (vK (i:=0) rfl) (vJ _ _ _ _) (show([0,2,1,3,4]:List Nat).Nodup by decide)
 .exact oc hB (vJ _ _ _ _) (vK (i:=0) rfl) (show([0,2,1,3,5]:List Nat).Nodup by decide)
 .exact oc hB (vJ _ _ _ _) (vJ _ _ _ _) (show([0,2,1,3]:List Nat).Nodup by decide)
end Go.Proofs.YtboaighhnghpdaaGreatDoor
namespace Go.Proofs.YtboaighhnghpdaaGreatDoor
open Go Go.Ev Go.Ae Go.Ae.C Go.RowKit
set_option maxRecDepth 100000
variable {c:Code}{hd:HD}
noncomputable def isP (f:FuncId)(c:Code):Bool:=(C.hand f c).isSome
theorem zao:(iP (rZ 168)).filter (isP 168)=[xH]:=by kernel_rfl
theorem Mn:(iP (rZ 258)).filter (isP 258)=[partOf 258 3]:=by kernel_rfl
theorem Mo {f:FuncId}(h:DH (cfL []) f c):c∈iP (rZ f):=by obtain⟨fn,b,h1,h2,h3⟩:=h;have h1:S.G0.funcs.get f=some fn:=h1;unfold rZ;rw[h1];simp only;rw[h2];exact h3
theorem Mp (h:C.hand 168 c=some hd):hd=OV:=by
 unfold C.hand at h;split at h
 .split at h;·cases h;rfl
  .cases h
 .rename_i e;cases e
 .rename_i e _;exact absurd rfl e
theorem Mq (h:C.hand 258 c=some hd):hd=OQ:=by
 unfold C.hand at h;split at h;·rename_i e;cases e
 .split at h;·cases h;rfl
  .cases h
 .rename_i _ e;exact absurd rfl e
theorem Mr {f:FuncId}(h:C.hand f c=some hd):f=168\/f=258:=by
 unfold C.hand at h;split at h;·exact .inl rfl
 .exact .inr rfl
 .cases h
theorem I1 {B:TH}(hB:tX B):fR B Tryz.prog (cfL []):=fun fn c hd h hs cn hcn=>by
 have h:C.hand fn c=some hd:=h;have hm:=Mo hs;rcases Mr h with rfl|rfl
 .have hc:c∈(iP (rZ 168)).filter (isP 168):=dQ.2 ⟨hm,by unfold isP;rw[h];rfl⟩;rw[zao,aj] at hc;subst hc;have:=Mp h;subst this;exact Ml hB cn hcn
 .have hc:c∈(iP (rZ 258)).filter (isP 258):=dQ.2 ⟨hm,by unfold isP;rw[h];rfl⟩;rw[Mn,aj] at hc;subst hc;have:=Mq h;subst this;have:cn=Dq:=aj.1 hcn;subst this;exact rU hB
end Go.Proofs.YtboaighhnghpdaaGreatDoor
namespace Go.Proofs.YtboaighhnghpdaaGreatDoor
open Go Go.Ev Go.Ae Go.Ae.C Go.RowKit
set_option maxRecDepth 100000
theorem BX:pG Tryz.prog S.G0:=fun f args h v h' q=>by cases q
theorem BY:pT Tryz.prog (yM S.G0 (evC S.G0 40)):=wH (S.jl _).1 (Ho (S.jl _).1 (S.jl _).2 BX 40) (S.jl _).2 BX
theorem OX:S.G0.rows 242=some .clone:=by kernel_rfl
noncomputable def BZ:CN:=c1 0 1 [.ifc 114 (.m 0)] [DZ 0] [] [⟨0,0,1,.ifc 114 (.m 1),[DZ 0,DZ 1],[]⟩]
theorem RA {M:TH}:fP Tryz.prog M 242 BZ:=fun Z vs h n hl hM=>by
 have at':(fA BZ n).mem.get 0=some (0,(DZ 0).2):=rfl;obtain⟨b,es,cl,x1,x2,x3,x4⟩:=hM.map at';have lb:Z.blks.length=1:=hM.vr.nb;have lo:Z.objs.length=1:=hM.vr.no;have ls:Z.strs.length=0:=hM.vr.ns;have x3:h.tr.get b=some (.map es cl):=x3;have hargs:=pq (l:=BZ.args) (k:=0) (t:=.leaf) (tr:=.leaf) hl hM.er;obtain⟨v0,rfl,a0⟩:∃ v0,vs=[v0]/\AV Z (.ifc 114 (.m 0)) v0:=by
  cases hargs with
  |cons q0 r=>cases r;exact⟨_,rfl,q0⟩
 have e0:v0=.iface 114 (.map b):=by
  cases a0 with
  |ifc q=>cases q with
   |m hb=>rw[x1] at hb;cases hb;rfl
 subst e0;have hlt:b<h.next:=by obtain⟨_,hp,y1,y2,_,y4⟩:=hM.hr.at' _ _ _ at';rw[x2] at y2;cases y2;exact(y4 _ (aj.2 rfl)).2.1
 have hle:Z.le { Z with blks:=Z.blks++[h.next],objs:=Z.objs++([(b,.map es cl),(h.next,.map es cl)]:List (Nat×O)).map fun p=>[p] }:=⟨id,id,fun q=>by rw[aG,if_pos (ai.1 q).1];exact q,fun q=>by rw[aG,if_pos (ai.1 q).1];exact q⟩;have oG:∀ i,(Z.objs++([(b,O.map es cl),(h.next,.map es cl)]:List (Nat×O)).map fun p=>[p])[1+i]?=(([(b,O.map es cl),(h.next,.map es cl)]:List (Nat×O)).map fun p=>[p])[i]?:=fun i=>by rw[zaw (by omega),lo,cG]
 have gh:∀ x,(h.add (.map es cl)).tr.get x=if x=h.next then some (.map es cl) else h.tr.get x:=fun x=>T.eL ..
 have x4':∀ (Zo:NV),Z.le Zo->∀ e,e∈es->KsV Zo true It e.1/\KsV Zo false [i64] e.2.1/\e.2.2<cl:=fun Zo hle e he=>let ⟨p,q,r⟩:=x4 e he;⟨p.mono hle,q.mono hle,r⟩;refine⟨.iface 114 (.map h.next),h.add (.map es cl),fun s Y w ht hS=>BY _ s Y h w _ _ ht hS ?_,_,aj.2 rfl,_,hle,?_,(fun g hg=>nomatch hg),.ifc (.m (by show(Z.blks++[h.next])[1]?=_;rw[<- lb];simp))⟩;·simp only[yM,Hs,OX,wP,x3]
 .refine Ol (k:=1) (mem:=[DZ 0,DZ 1]) (nx:=1) (ns:=0) (nb:=2) (z:=⟨.leaf,.leaf,[]⟩) hM.vr.ni hM.vr.z0 ls (by show(Z.blks++[h.next]).length=2;simp[lb]) (by show(Z.objs++_).length=1+2;simp[lo]) nZ (pZ (.ifc (.m (by show(Z.blks++[h.next])[1]?=_;rw[<- lb];simp)))) (fun i U ao q=>?_) (fun i j hp hp' li' lj' e e'=>?_) (fun x hx hF=>?_) (by show h.next<=h.next+1;omega) hM.hr.gl
  .match i,q with
   |0,q=>cases q;exact⟨b,_,hle.b x1,oG 0,.mp (x4' _ hle),fun p hp=>by rw[aj.1 hp];exact⟨by rw[gh,if_neg (by omega)];exact x3,by show b<h.next+1;omega,.inl ⟨_,_,_,_,at',x2,_,aj.2 rfl,rfl⟩⟩⟩
   |1,q=>cases q;exact⟨h.next,_,by show(Z.blks++[h.next])[1]?=_;rw[<- lb];simp,oG 1,.mp (x4' _ hle),fun p hp=>by rw[aj.1 hp];exact⟨by rw[gh,if_pos rfl],by show h.next<h.next+1;omega,.inr (aF _)⟩⟩
   |i+2,q=>simp at q
  .rw[oG] at e e';exact lH (by simp;omega) i j hp hp' e e'
  .have hx:x<h.next:=hx;rw[gh,if_neg (by omega)];rfl
noncomputable def I2 (h:H):H:=(h.add (.map [] 0)).add (.cells (some 336) 2 [.nils,.nilm] (T.leaf.put 1 (some (.map h.next))))
theorem OY (h:H):yM S.G0 (evC S.G0 40) (.fn 106 []) h=some (.ptr (Nat.succ h.next) 0,I2 h):=by kernel_rfl
theorem RB {B:TH}(hB:tX B):fP Tryz.prog (Th B C.inv) 106 (c1 0 0 [] [] [] [⟨0,0,1,P 0,[(0,.ob 6 [(0,0)])],[]⟩]):=fun Z vs h n hl hM=>by
 have lb:Z.blks.length=0:=hM.vr.nb;have lo:Z.objs.length=0:=hM.vr.no;have ls:Z.strs.length=0:=hM.vr.ns;have hv:vs=[]:=aO.1 hl;subst hv;obtain⟨O1,hO1⟩:∃ O1,O1=O.cells (some 336) 2 [.nils,.nilm] (T.leaf.put 1 (some (.map h.next))):=⟨_,rfl⟩;have g1:∀ x,(I2 h).tr.get x=if x=h.next+1 then some O1 else if x=h.next then some (.map [] 0) else h.tr.get x:=fun x=>by rw[hO1];show((h.tr.put h.next _).put (h.next+1) _).get x=_;rw[T.eL,T.eL]
 obtain⟨h2,hh2⟩:∃ h2:H,h2=⟨(I2 h).tr.put h.next (some (Hid.gM 0)),h.next+2⟩:=⟨_,rfl⟩;have g2:∀ x,h2.tr.get x=if x=h.next then some (Hid.gM 0) else if x=h.next+1 then some O1 else h.tr.get x:=fun x=>by
  rw[hh2];show((I2 h).tr.put h.next _).get x=_;rw[T.eL,g1];by_cases e:x=h.next;·rw[if_pos e,if_pos e]
  .rw[if_neg e];by_cases e':x=h.next+1;·rw[if_pos e',if_neg e,if_pos e']
   .rw[if_neg e',if_neg e,if_neg e,if_neg e']
 have hn2:h2.next=h.next+2:=by rw[hh2]
 have call:iW Tryz.prog (.fn 106 []) h (.ptr (h.next+1) 0) h2:=fun s Y w ht hS=>by
  refine jy.mono (BY _ s Y h w _ _ ht hS (OY h)) fun c w' ⟨Y1,s1,e1,r1⟩=>?_;have hlt:∀ b o,h.tr.get b=some o->b<h.next:=fun b o hb=>by obtain⟨L,_,q,_⟩:=hS.live b o hb;exact hS.dom b L q
  have A:Hid.AtD Y h w ⟨#[c],[]⟩ ⟨1,T.leaf.put 0 (some (.ptr (h.next+1) 0))⟩ (I2 h) ⟨#[c],[]⟩ w':=⟨Y1,s1,e1,⟨aF _,fun t v ht=>by
   rw[T.eL] at ht;split at ht;·rename_i e;subst e;cases ht;exact⟨c,rfl,r1⟩
   .rw[T.eR] at ht;cases ht⟩,rfl⟩
  have A2:=A.BT (g:=h.next) (n:=0) (es:=[]) (cl:=0) (R:=[]) ⟨cW _,cW _,.nil,(fun p hp=>by cases hp),(fun e he=>by cases he),(fun e he=>by cases he),(fun e he=>by cases he),.nil,.nil⟩ (by rw[g1,if_neg (by omega),if_pos rfl]) (by simp) (by omega) (h':=h2) (by rw[hn2];rfl) (by rw[g2,if_pos rfl]) fun y o hy hne=>by
   rw[g2,if_neg hne] at hy;refine⟨?_,by simp⟩;rw[g1];split at hy;·rename_i e;rw[if_pos e];exact hy
   .rename_i e;rw[if_neg e,if_neg hne];exact hy
  obtain⟨Y2,t1,t2,t3,_⟩:=A2;obtain⟨c',c1,c2⟩:=t3.2 0 _ (by show(T.leaf.put 0 _).get 0=_;rw[T.eL,if_pos rfl]);have:c'=c:=by simpa using c1.symm
  subst this;exact⟨Y2,t1,t2,c2⟩
 have hle:Z.le { Z with blks:=Z.blks++[h.next+1],objs:=Z.objs++[[(h.next+1,O1),(h.next,Hid.gM 0)]] }:=⟨id,id,fun q=>by rw[aG,if_pos (ai.1 q).1];exact q,fun q=>by rw[aG,if_pos (ai.1 q).1];exact q⟩;have b0:(Z.blks++[h.next+1])[0]?=some (h.next+1):=by rw[aO.1 lb];rfl
 have th:Th B C.inv 6 [0] (h.next+1) [(h.next+1,O1),(h.next,Hid.gM 0)]:=⟨2,rfl,.inr ⟨_,.head _,[],[],[h.next],[[(h.next+1,O1)],[(h.next,Hid.gM 0)]],rfl,rfl,rfl,rfl,fun g hg=>by
  simp only[C.pt,aq,aA,or_false] at hg;rcases hg with rfl|rfl<;>exact⟨0,0,⟨0,rfl,rfl⟩,⟨0,rfl,rfl⟩,bY _⟩,fun i U ao q=>by
  match i,q with
  |0,q=>cases q;refine⟨h.next+1,_,rfl,rfl,?_⟩;rw[hO1];exact .cl (rW (b:=h.next) rfl rfl rfl (.k _) rfl)
  |1,q=>cases q;exact⟨h.next,_,rfl,rfl,.ob (.cons (z:=((0:Nat):Int)) ⟨0,rfl,rfl⟩ .nil) ⟨rfl,.inl ⟨rfl,(hB _ _ _).2 ⟨0,rfl,rfl⟩⟩⟩ ⟨_,_,rfl⟩ (by simp)⟩
  |i+2,q=>simp[C.pt] at q,rfl⟩⟩
 refine⟨_,h2,call,_,aj.2 rfl,_,hle,?_,(fun g hg=>nomatch hg),.p b0 ⟨0,fun q=>absurd rfl q,rfl⟩⟩;refine Ol (k:=0) (mem:=[(0,.ob 6 [(0,0)])]) (nx:=1) (ns:=0) (nb:=1) (z:=⟨.leaf,.leaf,[]⟩) hM.vr.ni hM.vr.z0 ls (by show(Z.blks++[h.next+1]).length=1;simp[lb]) (by show(Z.objs++_).length=0+1;simp[lo]) nZ (pZ (.p b0 ⟨0,fun q=>absurd rfl q,rfl⟩)) (fun i U ao q=>?_) (fun i j hp hp' li' lj' e e' ne=>?_) (fun x hx hF=>?_) (by show h.next<=h2.next;omega) hM.hr.gl
 .match i,q with
  |0,q=>
   cases q;refine⟨h.next+1,[(h.next+1,O1),(h.next,Hid.gM 0)],b0,by show(Z.objs++_)[0+0]?=_;rw[aO.1 lo];rfl,.ob (.cons (z:=0) (eO (hle.i hM.vr.z0) 0) .nil) th ⟨_,_,rfl⟩ (by simp),fun p hp=>?_⟩;simp only[aq,aA,or_false] at hp;rcases hp with rfl|rfl
   .exact⟨by rw[g2,if_neg (by omega),if_pos rfl],by show h.next+1<h2.next;omega,.inr (eI _)⟩
   .exact⟨by rw[g2,if_pos rfl],by show h.next<h2.next;omega,.inr (aF _)⟩
  |i+1,q=>simp at q
 .simp at li' lj';omega
 .have hx:x<h.next:=hx;rw[g2,if_neg (by omega),if_neg (by omega)];rfl
end Go.Proofs.YtboaighhnghpdaaGreatDoor
